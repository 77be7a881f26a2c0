import PyProof.Rows.All
import Wide.All
import OpenK.AllK
import Wide.FinOn
import Wide.Txt2
import Lean
import PySem.Challenge.RW_nz0156_01
set_option Elab.async false
set_option maxRecDepth 100000
set_option linter.unusedVariables false
set_option maxHeartbeats 4000000
set_option genSizeOfSpec false
set_option genInjectivity false
set_option genSizeOf false
set_option bootstrap.genMatcherCode false
set_option compiler.extract_closed false
set_option genCtorIdx false
set_option tactic.hygienic false
namespace Mine.Internal
open PySem PySem.W PySem.Calls PyProof.Rows PySem.SeqAt PySem.Challenge
theorem nq1 {α : Type} {a : α} {P : Prop} (h : none = some a) : P := by cases h
theorem nq2 {P : Prop} (h : false = true) : P := by cases h
theorem nq3 {α : Type} {a : α} {P : Prop} (h : a ∈ ([] : List α)) : P := (List.not_mem_nil h).elim
theorem nq4 {α : Type} {a : α} {P : Prop} (h : some a = none) : P := by cases h
local macro_rules | `(tactic| nomatch $e:term) => `(tactic| first | exact nq1 $e | exact nq2 $e | exact nq3 $e | exact nq4 $e | cases $e:term)
open Lean in
local macro_rules
 | `(command| #print $s:str) => return mkNullNode (← (s.getString.splitOn " ").toArray.mapM fun w => `(command| def $(mkIdent (.mkSimple ("tw" ++ w))) := True))
open Lean in
local macro_rules (kind := Lean.Parser.Command.declaration)
 | s => if s.getPos?.isNone then Macro.throwUnsupported else do
  let t ← `(command| noncomputable def x := 0)
  let k := s[1].getKind
  let s := if k == ``Lean.Parser.Command.definition || k == ``Lean.Parser.Command.abbrev then s.modifyArg 0 (·.setArg 4 t.raw[0][4]) else s
  return s.rewriteBottomUp fun x => x.setInfo .none
open _root_.Nat renaming le_trans->vh,le_refl->Oh,le_of_eq->Ph,le_add_right->Qh,add_le_add_left->Sh,succ_le_succ->Vh,lt_of_lt_of_le->dg,lt_of_le_of_lt->eg,zero_le->ng,le_succ_of_le->vg,add_le_add->Cg,add_right_comm->Gg,le_of_ble_eq_true->Jg,succ_add_eq_add_succ->Og,le_succ->Vg,add_assoc->Wg,add_comm->af,le_of_succ_le->cf,add_le_add_right->ef,zero_add->kf,le_of_lt->lf,lt_succ_self->uf,lt_add_of_pos_right->Df,succ_pos->Lf,lt_of_succ_lt_succ->Mf,ne_of_lt->Uf,le_of_lt_succ->Yf,mul_le_mul_left->Zf,add_left_cancel->ae,zero_lt_succ->je,succ_lt_succ->ke,le_of_not_lt->me,le_antisymm->ue,ne_of_gt->we,sub_self->pd,ble->qd,add_sub_cancel'->xd,eq_of_beq_eq_true->Zd,sub_le->dc,not_lt_zero->pc,add_lt_add_of_lt_of_le->Dc,sub_pos_of_lt->Lc,lt_succ_of_lt->Mc,lt_succ_of_le->Nc,lt_of_succ_lt->Oc,lt_of_not_le->Xc,exists_eq_add_of_lt->Yc,le_add_left->ib,add_add_add_comm->Kb,add_sub_cancel->da,lt_trans->Ca,lt_or_ge->Da,succ_ne_self->Ka,one_pos->Sa
open _root_ renaming List->xh,congrArg->yh,Option->Ah,Int->Dh,if_neg->Fh,of_decide_eq_true->Hh,Bool->Kh,if_pos->Lh,Nat->Mh,decide_eq_true->Rh,decide_eq_false->Xh,DecidableEq->xg,beq_false_of_ne->yg,beq_self_eq_true->zg,Array->gf,decide_eq_true_iff->tf,and_congr->xe,exists_congr->ye,String->Cc,of_decide_eq_false->Sc,Decidable->ub,Unit->Ib,or_iff_left->Xb,or_congr->Yb,ite_self->Zb
open PySem renaming wpAny_bind->zh,wpAny_pure->Ih,PyData->Jh,Value->Nh,Shared->Uh,wpAny_mono->Yh,wpAny->og,Scope->Bg,wpAny_ite_split->Zg,wpAny_holding->bf,valueAt->mf,Stmt->qf,mainGlobals->xf,Pos->Cf,model->Ff,wpAny_call_entry->Gf,starEach->Hf,compareOp->Jf,swapsWith->Nf,Heap->Pf,codeAny_builtin->Qf,wpAny_setState_of->de,swappedStores->Ae,wpAny_callSpecial?_slot->Ce,Obj->He,sizeLine->Qe,wpAny_standAt->Re,attributeBase->Se,Program->We,assignEach->wd,wpAny_isInstance->zd,wpAny_askSetting->Ad,wpAny_setItem_pairs->Gd,Around->Kd,plainId_quiet->Ld,cStatics->Nd,SetTable->Od,Comprehension->Pd,wpAny_specialOf->Qd,backTo->Td,eval->bc,codeAny_mono->cc,codeAny->vc,subscripted->xc,binaryOp->yc,NameKind->zc,World->Gc,intKind->Hc,setItem->Zc,foldedSetIterable->ab,behindInMarks->db,wpAny_typeOf->Ab,wpAny_rule->Bb,wpAny_Name->Cb,wpAny_Assign_Subscript->Db,bootBuiltins->Hb,Env->Ub,wpAny_seqItems->Vb,wpAny_newTuple->Wb,callEnvC->aa,Sem->ca,FuncData->ja,standAt->ma,holding->na,cellsFrom->sa,DictEntry->xa,swapsWithSole->Ia,operate->Za
open _root_.Option.some renaming inj->Bh
open _root_.List renaming length_append->Ch,length_map->Eh,append_nil->Th,mem_append_left->Zh,append_assoc->ag,map_append->bg,mem_append_right->fg,map_map->jg,getElem?_map->kg,range->ug,getElem?_eq_getElem->Fg,map_cons->Hg,nodup_nil->Ig,lookup_cons->Kg,length_range->Qg,length_filter_le->Rg,getElem?_append_right->Yg,mem_singleton->zf,mem_of_getElem?->Bf,getElem?_set_self->Kf,filter_cons_of_pos->Vf,filter_cons_of_neg->Xf,any_cons->fe,getElem?_append_left->se,find?_cons->te,mem_cons_of_mem->ve,map_congr_left->ze,reverse_cons->Oe,toArray->Xe,map_reverse->Ye,length_cons->Ze,idxOf?_cons->ed,filter_cons->jd,mem_cons->yd,nodup_cons->Bd,mem_append->Fd,length->Hd,length_drop->ac,reverse_reverse->gc,eq_nil_of_length_eq_zero->ic,mergeSort_perm->qc,length_reverse->rc,getD_eq_getElem?_getD->Bc,size_toArray->Ic,map_take->Pc,mem_reverse->Vc,cons_append->Wc,getElem?_eq_none->jb,mem_map_of_mem->Mb,length_take_le->Nb,getElem?_range->Ob,filter_sublist->Pb,zip_cons_cons->Tb,filter_congr->ua,eraseIdx_eq_take_drop_succ->Fa,eraseIdxIfInBounds_toArray->Ga,map_id->Ma,nil_append->Ta,mem_filter->Ua,length_nil->Va,head?_drop->Wa
open _root_.Bool renaming and_eq_true->gg,false_ne_true->wg,eq_false_or_eq_true->Ug,or_eq_true->Xg,not_eq_true'->Pe,and_false->Rd
open _root_.Eq renaming refl->ig
open _root_.Array renaming length_toList->qg,getElem?_toList->jf,getElem?_eq_getElem->qe,toList_push->Je,getD_eq_getD_getElem?->Le,toList_append->ud,forIn_toList->Sb
open _root_.Option renaming map->Ag,isSome_map->Eg,some_ne_none->jc,elim->Ba
open _root_.List.cons renaming inj->Dg
open PySem.Heap renaming get?_push_size->Lg,get?_push_of_some->Ng,lt_size->vf,SameBut->Sf,get?_update_self->Yd,ExtBut->Oa
open _root_.Iff renaming rfl->Sg
open PySem.F renaming plain_extend_loop->rf,slot_dict_get->Fe,entry_extend_loop->Ue,entry_dict_get->Tc,slot_zip_next->yb,slot_dict_delitem->Qa
open _root_.Prod.mk renaming inj->sf
open PySem.PyData renaming eqv->yf,canLayAll0->re,strOk->Ve,depthAll->ec,int->Uc,eqvAll->Jb,keyHash->Ra
open _root_.Int renaming natCast_nonneg->Af,lt_of_le_of_lt->Rf,le_of_lt->Ge,ne_of_lt->Ud,le_trans->Vd,toNat_of_nonneg->wc,lt_asymm->gb,le_antisymm->nb,add_sub_cancel->ia
open PySem.NameKind renaming free->Ef
open PySem.Around renaming under_plainId->Tf
open PySem.Builtin.Tuple renaming tupleHashOf->be
open PySem.Builtin.SmallTypes renaming nextOf->Be
open PySem.W renaming findIn->De,sortI_perm->Rc,instObj->Gb,getL->Rb,emptyDict->oa,sortI->Ja,putName_dict->Xa
open PySem.Heap.SameBut renaming update->Ie
open _root_.ForInStep renaming yield->ld
open _root_.Ne renaming symm->vd
open PySem.Builtin.List renaming listExtendWith->Xd,listSameRef->Aa
open PyProof.Rows renaming assign_Name->lc,subscriptTail->uc,slot_tupleiter_next->Fc
open PySem.W.KasT renaming kasWp_bind->mc
open _root_.Prod renaming ext->Ac
open PyProof.Rows.F renaming entry_set_update_loop->Jc
open PySem.Builtin.Dict renaming takeOut->Qc
open PySem.Value renaming ref->wb,isInt_shape->ba
open _root_.List.Sublist renaming map->xb
open PySem.pickOrder renaming go->Fb
open _root_.List.Nodup renaming length_le_of_subset->Qb
open PySem.Calls renaming Name_function_global->ga
open PySem.Builtin.Range renaming rangeSize->ya
open PySem.Builtin renaming divisionGoesByPylong->Ha
open _root_.List.Perm renaming eq_of_pairwise->Na
section
@[elab_as_elim] theorem rL{α:Sort _}{a b:α}{motive:α->Prop}(h:a=b)(m:motive b):motive a:=h▸m
@[elab_as_elim] theorem rR{α:Sort _}{a b:α}{motive:α->Prop}(h:b=a)(m:motive b):motive a:=h▸m
inductive KI where
 |int (i:Dh)
 |str (s:Str)
 |tup (l:xh Dh)
def KI.ctorIdx(x:KI):Mh:=KI.casesOn x (λz'=>0) (λz'=>1) (λz'=>2)
deriving noncomputable instance xg for KI
def KI.a9:KI->Jh
 | .int i=> .int i
 | .str s=> .str s
 | .tup l=> .tuple (l.map .int)
def KI.draws:KI->Mh
 | .int _=>1
 | .str _=>1
 | .tup l=>l.length+1
def KI.hash(prog:We)(w:Gc):KI->Dh
 | .int i=>hashInt i
 | .str s=>hashStr w s
 | .tup l=>tupleKeyHash (Hc prog w) l
theorem pR{e:Type}[xg e]{f:e->Jh}(h:∀a b,yf (f a) (f b)=decide (a=b)):∀a b:xh e,Jb (a.map f) (b.map f)=decide (a=b):=by
 intro a;induction a with
 |nil=>
  intro b;cases b with
  |nil=>rfl
  |cons=>rfl
 |cons x a i=>
  intro b;cases b with
  |nil=>rfl
  |cons y b=>
   show(yf _ _&&Jb _ _)=_;rw [h,i,<-Bool.decide_and];exact decide_eq_decide.mpr List.cons_eq_cons.symm
theorem KI.eqv(a b:KI):yf a.a9 b.a9=decide (a=b):=by
 haveI n:∀{p} [ub p],¬p->false=decide p:=λh=>(Xh h).symm;cases a with
 |int i=>cases b with
  |int j=>exact(by rfl:_=decide (i=j)).trans (decide_eq_decide.mpr ⟨yh _,λe=>by injection e⟩)
  |_=>exact n (λe=>(by nomatch e))
 |str i=>cases b with
  |str j=>exact(by rfl:_=decide (i=j)).trans (decide_eq_decide.mpr ⟨yh _,λe=>by injection e⟩)
  |_=>exact n (λe=>(by nomatch e))
 |tup i=>cases b with
  |tup j=>exact(pR (λz' z'=>by rfl) i j).trans (decide_eq_decide.mpr ⟨yh _,λe=>by injection e⟩)
  |_=>exact n (λe=>(by nomatch e))
section
variable{α β:Type}{R R':α->β->Prop}
inductive r9(R:α->β->Prop):xh α->xh β->Prop
 |nil:r9 R [] []
 |cons {x:α} {y:β} {xs:xh α} {c:xh β} (r:R x y) (e:r9 R xs c):r9 R (x::xs) (y::c)
theorem r9.mono{xs:xh α}{c:xh β}(r:r9 R xs c)(h:∀x∈xs,∀y,R x y->R' x y):r9 R' xs c:=by
 induction r with
 |nil=>exact .nil
 |cons r _ i=>exact .cons (h _ (.head _) _ r) (i λx m=>h x (.tail _ m))
theorem r9.length{xs:xh α}{y:xh β}(r:r9 R xs y):xs.length=y.length:=by
 induction r with
 |nil=>rfl
 |cons _ _ i=>exact yh _ i
theorem r9.append{xs us:xh α}{y vs:xh β}(r:r9 R xs y)(q:r9 R us vs):r9 R (xs++us) (y++vs):=by
 induction r with
 |nil=>exact q
 |cons r _ i=>exact .cons r i
theorem r9.take{xs:xh α}{y:xh β}(r:r9 R xs y):∀n,r9 R (xs.take n) (y.take n):=by
 induction r with
 |nil=>intro n;refine rL List.take_nil (rL List.take_nil ?_);exact .nil
 |cons r _ i=>intro n;cases n with
  |zero=>exact .nil
  |succ n=>exact .cons r (i n)
theorem r9.reverse{xs:xh α}{y:xh β}(r:r9 R xs y):r9 R xs.reverse y.reverse:=by
 induction r with
 |nil=>exact .nil
 |cons r _ i=>refine rL Oe (rL Oe ?_);exact i.append (.cons r .nil)
end
theorem r9.nil_inv{β c:Type}{R:β->c->Prop}{y:xh c}(r:r9 R [] y):y=[]:=by cases r;rfl
theorem r9.cI{β c:Type}{R:β->c->Prop}{xs:xh β}(r:r9 R xs []):xs=[]:=by cases r;rfl
theorem r9.cons_inv{β g:Type}{R:β->g->Prop}{x:β}{xs:xh β}{e:xh g}(r:r9 R (x::xs) e):∃y c,e=y::c/\R x y/\r9 R xs c:=by cases r with|cons r q=>exact⟨_,_,rfl,r,q⟩
theorem r9.lM{β e:Type}{R:β->e->Prop}{xs:xh β}{y:e}{f:xh e}(r:r9 R xs (y::f)):∃x c,xs=x::c/\R x y/\r9 R c f:=by cases r with|cons r q=>exact⟨_,_,rfl,r,q⟩
section
variable{α β:Type}(prog:We)(w:Gc)
def CY(h:Pf):KI->Nh->Prop
 | .int i,v=>∃t,v= .int i t
 | .str s,v=>Ve s=true/\∃t,v= .str s t
 | .tup l,v=>∃a,v= .ref a/\IsTupleKey (Hc prog w) h l a
def E6(h:Pf)(k:xh KI)(a:Mh):Prop:=∃o items n,h.get? a=some o/\o.cls= .type "tuple"/\o.data= .seq items n/\r9 (CY prog w h) k items.toList
variable{prog w}{h h':Pf}{k a b:KI}{v:Nh}{ks x y:xh KI}{vs:xh Nh}{d i j:Mh}{o:He}{es:gf xa}{ep:Mh}
def cq:Nh->Ah KI
 | .int i _=>some (.int i)
 | .str s _=>some (.str s)
 |_=>none
theorem CY.vk(x:CY prog w h k v):cq v=some k\/cq v=none/\∃a l,v= .ref a/\k= .tup l/\IsTupleKey (Hc prog w) h l a:=by
 cases k with
 |int i=>exact .inl (x.elim λt e=>yh _ e)
 |str s=>exact .inl (x.2.elim λt e=>yh _ e)
 |tup l=>exact .inr (x.elim λa x=>⟨yh _ x.1,a,l,x.1,rfl,x.2⟩)
theorem CY.inj(x:CY prog w h a v)(y:CY prog w h b v):a=b:=
 x.vk.elim (λp=>y.vk.elim (λq=>Bh (p.symm.trans q)) λq=>(by nomatch p.symm.trans q.1)) λp=>y.vk.elim (λq=>(by nomatch p.1.symm.trans q)) λq=>p.2.elim λi p=>p.elim λl p=>q.2.elim λj q=>q.elim λm q=>by
  refine rL p.2.1 ?_;rw [q.2.1,p.2.2.inj (Value.ref.inj (p.1.symm.trans q.1)▸q.2.2)]
theorem S0.inj(p:r9 (CY prog w h) x vs):∀{y},r9 (CY prog w h) y vs->x=y:=by
 induction p with
 |nil=>exactλ{y} q=>q.cI.symm
 |cons p _ i=>exactλ{y} q=>q.lM.elim λk r=>r.elim λe r=>by rw [r.1,p.inj r.2.1,i r.2.2]
def gj:Data->gf Nh
 | .seq i _=>i
 |_=>#[]
theorem E6.inj(hx:E6 prog w h x d)(c:E6 prog w h y d):x=y:=
 hx.elim λo hx=>hx.elim λf hx=>hx.elim λn hx=>c.elim λo' c=>c.elim λi c=>c.elim λg c=>
  haveI e:f=i:=yh gj (hx.2.2.1.symm.trans ((yh _ (Bh (hx.1.symm.trans c.1))).trans c.2.2.1))
  S0.inj hx.2.2.2 (e▸c.2.2.2)
theorem CY.keeps(c:h.get? d=some o)(hd:o.data= .dict es ep)(hs:Sf d h h')(x:CY prog w h k v):CY prog w h' k v:=by
 cases k with
 |tup l=>exact x.imp λa x=>⟨x.1,x.2.keeps c hd hs⟩
 |_=>exact x
theorem E6.keeps(x:E6 prog w h ks i)(c:h.get? d=some o)(hd:o.data= .dict es ep)(hs:Sf d h h'):E6 prog w h' ks i:=
 x.imp λo' x=>x.imp λitems x=>x.imp λn x=>⟨(hs.2 i λe=>by
  haveI q:=Bh (c.symm.trans (e▸x.1));have q:=hd.symm.trans (q▸x.2.2.1);cases q).trans x.1,x.2.1,x.2.2.1,x.2.2.2.mono λz' z' z' r=>r.keeps c hd hs⟩
theorem E6.typeIs{s:Uh}(x:E6 prog w s.heap ks i):s.TypeIs (.ref i) "tuple":=x.elim λo x=>x.elim λz' x=>x.elim λz' x=>⟨o,x.1,x.2.1⟩
theorem Oi{l:xh Dh}(r:ItemsAre (Hc prog w) l vs):∃as,ReadsAll h vs (l.map .int) as:=by
 induction r with
 |nil=>exact⟨_,.nil⟩
 |cons p _ i=>exact i.elim λas q=>(ba p).elim λt e=>⟨_,by refine rL e ?_;exact ReadsAll.cons (.int _ t) q⟩
theorem CY.reads(x:CY prog w h k v):∃as,Reads h v k.a9 as:=by
 cases k with
 |int i=>exact x.elim λt e=>⟨_,by refine rL e ?_;exact .int i t⟩
 |str i=>exact x.2.elim λt e=>⟨_,by refine rL e ?_;exact .str i t⟩
 |tup l=>exact x.elim λa x=>x.2.elim λo r=>r.elim λitems r=>r.elim λn r=>(Oi r.2.2.2).elim λas q=>⟨_,by refine rL x.1 ?_;exact .tuple r.1 r.2.1 r.2.2.1 q⟩
theorem S0.reads(x:r9 (CY prog w h) ks vs):∃as,ReadsAll h vs (ks.map KI.a9) as:=by
 induction x with
 |nil=>exact⟨_,.nil⟩
 |cons p _ i=>exact p.reads.elim λas q=>i.elim λbs r=>⟨_,.cons q r⟩
theorem Si(l:xh Dh):re (l.map .int)=true/\ec (l.map .int)<=0:=by
 induction l with
 |nil=>exact⟨rfl,Oh 0⟩
 |cons x l i=>exact⟨i.1,Nat.max_le.mpr ⟨Oh 0,i.2⟩⟩
theorem CY.lay(x:CY prog w h k v):k.a9.canLay0=true/\k.a9.depth<=1:=by
 cases k with
 |int i=>exact⟨rfl,ng _⟩
 |str i=>exact⟨x.1,ng _⟩
 |tup l=>exact⟨(Si l).1,Vh (Si l).2⟩
theorem S0.lay(x:r9 (CY prog w h) ks vs):re (ks.map KI.a9)=true/\ec (ks.map KI.a9)<=1:=by
 induction x with
 |nil=>exact⟨rfl,ng _⟩
 |cons p _ i=>exact⟨(gg _ _).mpr ⟨p.lay.1,i.1⟩,Nat.max_le.mpr ⟨p.lay.2,i.2⟩⟩
variable{A:Kd}{E:Nh->Uh->Prop}{s:Uh}
theorem HQ{Q:Kh->Uh->Prop}(e:A.units+8<cLine)(hx:E6 prog w s.heap x i)(c:E6 prog w s.heap y j)(h:Q (decide (x=y)) s):og (Ff prog w) A (eqBool (.ref i) (.ref j)) Q E s:=
 hx.elim λo hx=>hx.elim λg hx=>hx.elim λn hx=>c.elim λo' c=>c.elim λf c=>c.elim λl c=>(S0.reads hx.2.2.2).elim λas r=>(S0.reads c.2.2.2).elim λbs q=>
  eqBoolOverData _ w A E s _ _ _ _ _ _ Q (.tuple hx.1 hx.2.1 hx.2.2.1 r) (.tuple c.1 c.2.1 c.2.2.1 q) (S0.lay hx.2.2.2).1 (S0.lay c.2.2.2).1
   (eg (Sh (vh (Nat.min_le_left _ _) (vh (Vh (S0.lay hx.2.2.2).2) (by decide))) _) e) ((yh (λb=>Q b s) (pR KI.eqv x y)).mpr h)
theorem JK{Q:Dh->Uh->Prop}(q:A.units<cLine)(x:CY prog w s.heap k v)(h:Q (k.hash prog w) {s with toks:=s.toks+k.draws}):og (Ff prog w) A (pyHash v) Q E s:=by
 cases k with
 |int i=>exact x.elim λt e=>e▸wpAny_pyHash_int h
 |str i=>exact x.2.elim λt e=>e▸wpAny_pyHash_str h
 |tup l=>exact x.elim λa x=>x.1▸wpAny_pyHash_tuple q x.2 h
def eU(k:xh KI):Mh:=(k.map KI.draws).sum
def PT(prog:We)(w:Gc)(k:xh KI):Dh:=reduceHash (be (k.map (KI.hash prog w)))
theorem mQ{Q:Dh->Uh->Prop}(B:A.units+8<cLine)(e:E6 prog w s.heap ks i)(h:Q (PT prog w ks) {s with toks:=s.toks+(eU ks+1)}):og (Ff prog w) A (pyHash (.ref i)) Q E s:=by
 haveI q:=e.typeIs;refine e.elim λo e=>e.elim λD e=>e.elim λn e=> ?_;refine zh (wpAny_cRoomFor_or (.inr (eg (Qh _ _) B)) ?_);refine zh (Qd q F.slot_tuple_hash.lookup ?_);refine zh (Qd q F.slot_tuple_hash.lookup ?_);refine zh (wpAny_callSpecialIfBoundUnlessNone?_slot q F.slot_tuple_hash (Gf F.slot_tuple_hash q F.entry_tuple_hash ?_ (F.args_tuple_hash_1 _)));show og _ _ (Builtin.Tuple.tupleItemsOf _>>=_) _ _ s;refine zh (wpAny_tupleItemsOf e.1 e.2.2.1 ?_);refine zh ?_;refine rR Sb ?_;refine wpAny_forIn_list _ (λrest (b) s'=>∃left t,r9 _ left rest/\s'={s with toks:=t}/\b.toList++left.map _=ks.map (KI.hash prog w)/\t+eU left=s.toks+eU _) _ (λx z' b z' I=> ?_) (λb z' I=> ?_) _ _ ⟨ks,s.toks,e.2.2.2,rfl,rfl,rfl⟩
 ·refine I.elim λleft I=>I.elim λt I=> ?_;refine rL I.2.1 ?_;refine I.1.lM.elim λk r=>r.elim λu r=> ?_;haveI m:=r.1▸I.2.2.1;haveI f:=r.1▸I.2.2.2;exact zh (JK (eg (Sh (by decide) _) B) r.2.1 (Ih ⟨u,t+k.draws,r.2.2,rfl,by rw [Je,ag];exact m,(Wg ..).trans f⟩))
 ·refine I.elim λleft I=>I.elim λt I=> ?_;haveI m:=I.2.2.1;haveI f:=I.2.2.2;rw [I.1.cI] at m f;haveI f:t+1=s.toks+(eU _+1):=yh _ f;refine rL I.2.1 ?_;show og _ _ (retInt _) _ _ _;refine rL (((Th _).symm.trans m)) ?_;refine wpAny_ret_mkInt ?_;rw [<-f] at h;unfold PT reduceHash at h;show og _ _ (if(decide (-(2)^63<=be _)&&decide (be _<2^63))=true then _ else _) Q E _;by_cases C:(decide (-(2)^63<=be (ks.map (KI.hash prog w)))&&decide (be (ks.map (KI.hash prog w))<2^63))=true
  ·rw [Lh C] at h⊢;exact Ih h
  ·rw [Fh C] at h⊢;exact zh (Bb (Ih h))
theorem IY{m n:Mh}{c:gf Nh}{Q:Kh->Uh->Prop}(e:s.TypeIs (.ref i) "tuple")(f:s.heap.get? i=some o)(hd:o.data= .seq c n)(H:∀v∈c.toList,∀{Q},Q true s->og (Ff prog w) A (eqIsQuiet m v) Q E s)(h:Q true s):og (Ff prog w) A (eqIsQuiet (m+1) (.ref i)) Q E s:=by
 unfold eqIsQuiet;refine zh (Qd e F.slot_tuple_eq.lookup ?_);refine zh (zd e isSubtype_tuple_tuple ?_);refine zh (Vb f hd ?_);refine zh ?_;refine rR Sb ?_;refine wpAny_forIn_list _ (λrest r s'=>r.1=none/\s'=s/\∀v∈rest,v∈c.toList) _ (λv z' r z' I=> ?_) (λr z' I=> ?_) _ _ ⟨rfl,rfl,λz' m=>m⟩
 ·exact rL I.2.1 (zh (H v (I.2.2 v (.head _)) (Ih ⟨rfl,rfl,λu m=>I.2.2 u (.tail _ m)⟩)))
 ·refine rL I.2.1 (rL (show r=(none,()) from Ac I.1 rfl) ?_);exact Ih h
theorem lQ{m:Mh}{Q:Kh->Uh->Prop}(x:CY prog w s.heap k v)(h:Q true s):og (Ff prog w) A (eqIsQuiet (m+1) v) Q E s:=by
 cases k with
 |int i=>exact x.elim λt e=>by refine rL e ?_;exact Ih h
 |str i=>exact x.2.elim λt e=>by refine rL e ?_;exact Ih h
 |tup l=>
  refine x.elim λa x=> ?_;refine rL x.1 ?_;exact x.2.elim λo r=>r.elim λp r=>r.elim λn r=>IY x.2.typeIs r.1 r.2.2.1 (λv m {Q} h=>by refine rL (eqIsQuiet_byValue _ (r.2.2.2.byValue v m)) ?_;exact Ih h) h
theorem r9.each{R:α->β->Prop}{xs:xh α}{y:xh β}(x:r9 R xs y):∀v∈y,∃k,R k v:=by
 induction x with
 |nil=>exactλz' m=>(by nomatch m)
 |cons r _ i=>exactλv m=>(List.mem_cons.mp m).elim (λe=>⟨_,e▸r⟩) (i v)
def JZ(prog:We)(w:Gc):HeapKind prog w (xh KI) where
 is:=E6 prog w
 hash:=PT prog w
 draws:=λe=>eU e+1
 room:=λA=>A.units+8<cLine
 inj:=E6.inj
 keeps:=E6.keeps
 pyHash:=mQ
 eqBool:=HQ
 quiet:=λc h=>c.elim λo r=>r.elim λi r=>r.elim λn r=>IY c.typeIs r.1 r.2.2.1 (λv m {Q} h=>(r.2.2.2.each v m).elim λk q=>lQ q h) h
end
section
variable{prog:We}{w:Gc}{A:Kd}{E:Nh->Uh->Prop}{s:Uh}
variable{K:Type}[xg K]{knd:HeapKind prog w K}
def R5(xs:xh (K×Mh×Nh))(k:K):xh (K×Mh×Nh):=xs.filter λx=> !decide (x.1=k)
theorem qZ{k:K}{p:Mh×Nh}{xs:xh (K×Mh×Nh)}:∀{j},(xs.map (·.1)).Nodup->xs[j]? =some (k,p)->R5 xs k=xs.eraseIdx j:=by
 induction xs with
 |nil=>exactλz' h=>(by nomatch h)
 |cons x _ i=>
  intro j hn c;have hn:=List.nodup_cons.mp hn;cases j with
  |zero=>
   have e:=Bh c;refine(Xf (by refine rL e (rL (Rh rfl) ?_);exact wg)).trans (List.filter_eq_self.mpr λy m=> ?_);refine rL (Xh λq=>hn.1 (List.mem_map.mpr ⟨y,m,by rw [q,e]⟩)) ?_;rfl
  |succ j=>
   exact(Vf (by refine rL (Xh (λq=>hn.1 (List.mem_map.mpr ⟨(k,p),Bf c,q.symm⟩))) ?_;rfl)).trans (yh _ (i hn.2 c))
theorem MX{e β:Type}{f:e->β}{l:xh e}:∀{j},(l.map f).eraseIdx j=(l.eraseIdx j).map f:=by
 induction l with
 |nil=>exactλ{j}=>rfl
 |cons x l i=>exactλ{j}=>Nat.casesOn j rfl λj=>yh _ i
theorem oX{d a:Mh}{xs:xh (K×Mh×Nh)}{k:K}{Q:Ah xa->Uh->Prop}(q:knd.room A)(h:knd.is s.heap k a)(hm:s.heap.DictOfH knd d xs)(r:(atKey xs k).isSome=true)
  (z:∀e h',h'.DictOfH knd d (R5 xs k)->Sf d s.heap h'->Q (some e) {s with heap:=h',toks:=s.toks+knd.draws k})
  (hsz:xs.length<=Qe):
  og (Ff prog w) A (Qc d (.ref a)) Q E s:=by
 obtain⟨o,es,ep,f,B,hd,g,c,hn⟩:=hm;unfold Qc
 try with_reducible refine bf ?_
 refine zh (knd.pyHash q h ?_);refine zh (wpAny_dictFind_heap q h f hd g c hn ?_ ?_)
 ·intro m;rw [atKey_none_of_get m] at r;cases r
 ·intro j p n;refine zh (wpAny_dictEntries f hd ?_);refine rL (entry_at g j) (rL n ?_);refine zh (wpAny_updateDictKeys (hz:=by haveI e:=size_of_entries g;lia) f hd (Ih (z _ _ ⟨_,_,ep+1,Yd _ f (Obj.isFreed_of_dict (Obj.data_mapDictKeys hd _)),
   B.mapDictKeys _,Obj.data_mapDictKeys hd _,?_,?_,?_⟩ (Ie ..))))
  ·refine rL (qZ hn n) ?_;obtain⟨l⟩:=es;subst g;simp only [Ga];exact MX
  ·intro x hx;exact knd.keeps (c x (List.mem_filter.mp hx).1) f hd (Ie ..)
  ·exact hn.sublist (xb _ Pb)
theorem iW{d a:Mh}{xs:xh (K×Mh×Nh)}{k:K}{Q:Ib->Uh->Prop}(m:knd.room A.in1)(h:knd.is s.heap k a)(hm:s.heap.DictOfH knd d xs)(n:(atKey xs k).isSome=true)
  (p:∀h' t,h'.DictOfH knd d (R5 xs k)->Sf d s.heap h'->Q () {s with heap:=h',toks:=t})
  (hsz:xs.length<=Qe):
  og (Ff prog w) A (delItem (.ref d) (.ref a)) Q E s:=by
 refine wpAny_delItem_slot hm.typeIs (by decide) F.slot_dict_delitem (Gf F.slot_dict_delitem hm.typeIs F.entry_dict_delitem ?_ (F.args_dict_delitem_2 _ _));refine zh ?_;refine zh (wpAny_notOrdered_dict hm.typeIs ?_);refine Ih ?_;show og _ _ (Qc d _>>=_) _ _ s;exact zh (oX m h hm n (λe h' c f=>(zh (wpAny_letGo (Ih ⟨.none,rfl,p h' _ c f⟩)))) hsz)
end
end
section
def f9{K a:Type}[xg K](f:K->Ah a)(k:K)(u:a):K->Ah a:=λx=>if x=k then some u else f x
def H9{K a:Type}[xg K](f:K->Ah a)(k:K):K->Ah a:=λx=>if x=k then none else f x
def f7(t:Dh):Kh:=decide (0<=t)&&decide (t<500)
def Wr{K α:Type}(f:K->Ah α):Prop:=∃L:xh K,(∀k,(f k).isSome=true->k∈L)/\L.length<=1000000
section
variable{K:Type}[xg K]
theorem I9{p:K×Nh}{kvs:xh (K×Nh)}{x:K}:mf (p::kvs) x=if p.1=x then some p.2 else mf kvs x:=by
 unfold mf;by_cases h:p.1=x
 ·simp [h]
 ·simp [h]
theorem FW{kvs:xh (K×Nh)}{k x:K}{v:Nh}:mf (kvs.map λb=>if b.1=k then(b.1,v) else b) x=if x=k then(mf kvs k).map λz'=>v else mf kvs x:=by
 induction kvs with
 |nil=>unfold mf;split<;>rfl
 |cons p _ i=>
  refine rL Hg ?_;rw [I9,I9,I9,i];by_cases a:p.1=k
  ·rw [Lh a];by_cases h:x=k
   ·refine rL (Lh h) (rL (Lh h) ?_);refine rL (Lh (a.trans h.symm)) (rL (Lh a) ?_);rfl
   ·refine rL (Fh h) (rL (Fh h) ?_);rw [Fh λe=>h (e.symm.trans a),Fh λe=>h (e.symm.trans a)]
  ·rw [Fh a];by_cases h:x=k
   ·refine rL (Lh h) ?_;rw [Lh h,Fh λe=>a (e.trans h),Fh a]
   ·exact rL (Fh h) (rL (Fh h) rfl)
theorem tZ{kvs ls:xh (K×Nh)}{x:K}:mf (kvs++ls) x=match mf kvs x with|some v=>some v|none=>mf ls x:=by
 induction kvs with
 |nil=>rfl
 |cons p _ i=>
  refine rL Wc ?_;rw [I9,I9,i];split<;>rfl
theorem G3{kvs:xh (K×Nh)}{k:K}(h:¬kvs.any (λa=>decide (a.1=k))=true):mf kvs k=none:=by
 induction kvs with
 |nil=>rfl
 |cons p _ i=>
  rw [fe,Xg,not_or] at h;refine rL I9 ?_;rw [Fh (by simpa using h.1),i h.2]
theorem i5{kvs:xh (K×Nh)}{k:K}(h:kvs.any (λa=>decide (a.1=k))=true):∃v,mf kvs k=some v:=by
 induction kvs with
 |nil=>simp at h
 |cons p _ i=>
  refine rL I9 ?_;by_cases q:p.1=k
  ·exact⟨_,Lh q⟩
  ·refine rL (Fh q) ?_;refine i ?_;rw [fe,Xg] at h;exact h.resolve_left (by simpa using q)
theorem a6{kvs:xh (K×Nh)}{k x:K}{v:Nh}:mf (stored kvs k v) x=if x=k then some v else mf kvs x:=by
 unfold stored;split
 ·rename_i h;obtain⟨u,a⟩:=i5 h;refine rL FW (rL a ?_);rfl
 ·rename_i h;refine rL tZ ?_;by_cases q:x=k
  ·refine rL q ?_;rw [G3 h,Lh rfl];dsimp only;rw [I9,Lh rfl]
  ·refine rL (Fh q) ?_;cases mf _ x with
   |some u=>rfl
   |none=>dsimp only;refine rL I9 (rL (Fh (vd q)) ?_);rfl
theorem V0{kvs:xh (K×Nh)}{k x:K}:mf (without kvs k) x=if x=k then none else mf kvs x:=by
 unfold without;induction kvs with
 |nil=>split<;>rfl
 |cons p _ i=>
  refine rL jd ?_;by_cases q:p.1=k
  ·refine rL (Fh (by simpa using q)) (rL i (rL I9 ?_));by_cases h:x=k
   ·exact rL (Lh h) (rL (Lh h) rfl)
   ·exact rL (Fh h) (rL (Fh h) (rL (Fh λe=>h (e.symm.trans q)) rfl))
  ·refine rL (Lh (by simpa using q)) ?_;rw [I9,I9,i];by_cases h:x=k
   ·exact rL (Lh h) (rL (Lh h) (rL (Fh λe=>q (e.trans h)) rfl))
   ·exact rL (Fh h) (rL (Fh h) rfl)
end
end
set_option genCtorIdx true
inductive LK where
 |mem|use|Z9|C9
set_option genCtorIdx false
inductive Tg where
 |bank|house|root|value|up|table|sides|told|queue|trail|marks
 |w7 (k:LK)|ls (k:LK) (t:Dh)
 |bk (k:Mh)|W8 (k:Mh)|byr (k:Mh)|feed|state|levels|lwat|lvl (i:Mh)|news|ltold|fresh
def Tg.ctorIdx(x:Tg):Mh:=Tg.casesOn x 0 1 2 3 4 5 6 7 8 9 10 (λz'=>11) (λz' z'=>12) (λz'=>13) (λz'=>14) (λz'=>15) 16 17 18 19 (λz'=>20) 21 22 23
def LK.code:LK->Dh
 | .mem=>0
 | .use=>1
 | .Z9=>2
 | .C9=>3
def LK.of:Dh->LK
 |0=> .mem
 |1=> .use
 |2=> .Z9
 |_=> .C9
def Tg.code:Tg->Mh×Dh
 | .bank=>(0,0)
 | .house=>(1,0)
 | .root=>(2,0)
 | .value=>(3,0)
 | .up=>(4,0)
 | .table=>(5,0)
 | .sides=>(6,0)
 | .told=>(7,0)
 | .queue=>(8,0)
 | .trail=>(9,0)
 | .marks=>(10,0)
 | .w7 k=>(11,k.code)
 | .ls .mem t=>(12,t)
 | .ls .use t=>(13,t)
 | .ls .Z9 t=>(14,t)
 | .ls .C9 t=>(15,t)
 | .bk k=>(16,k)
 | .W8 k=>(17,k)
 | .byr k=>(18,k)
 | .feed=>(19,0)
 | .state=>(20,0)
 | .levels=>(21,0)
 | .lwat=>(22,0)
 | .lvl k=>(23,k)
 | .news=>(24,0)
 | .ltold=>(25,0)
 | .fresh=>(26,0)
def Tg.of(k:Mh)(t:Dh):Tg:=
 match k with
 |0=> .bank
 |1=> .house
 |2=> .root
 |3=> .value
 |4=> .up
 |5=> .table
 |6=> .sides
 |7=> .told
 |8=> .queue
 |9=> .trail
 |10=> .marks
 |11=> .w7 (.of t)
 |12=> .ls .mem t
 |13=> .ls .use t
 |14=> .ls .Z9 t
 |15=> .ls .C9 t
 |16=> .bk t.toNat
 |17=> .W8 t.toNat
 |18=> .byr t.toNat
 |19=> .feed
 |20=> .state
 |21=> .levels
 |22=> .lwat
 |23=> .lvl t.toNat
 |24=> .news
 |25=> .ltold
 |_=> .fresh
theorem Tg.BX(τ:Tg):Tg.of τ.code.1 τ.code.2=τ:=by
 cases τ with
 |w7 k=>cases k<;>rfl
 |ls k t=>cases k<;>rfl
 |_=>rfl
theorem Tg.inj{τ a:Tg}(e:τ.code=a.code):τ=a:=by rw [<-τ.BX,e,a.BX]
noncomputable instance Tg.dec:xg Tg:=λτ τ'=>
 match instDecidableEqProd τ.code τ'.code with
 | .isTrue e=> .isTrue (Tg.inj e)
 | .isFalse n=> .isFalse λe=>n (yh Tg.code e)
def Tg.U9(τ:Tg):Kh:=Nat.beq τ.code.1 17
theorem Tg.qH{τ:Tg}(h:τ.U9=true):τ= .W8 τ.code.2.toNat:=by
 haveI e:=τ.BX;rw [Zd h] at e;exact e.symm
abbrev S(x:Cc):Str:=PySem.Str.ofString x
def jp:xh Str:=[S "bank",S "root",S "members",S "uses",S "value",S "apart",S "watchers",S "up",S "table",S "sides",S "told",S "news",S "queue",S "clash",S "clash_level",S "trail",S "marks",
 S "sort_names",S "sort_widths",S "fun_names",S "fun_args",S "fun_results",S "fresh_count",S "term_ops",S "term_args",S "term_sorts",S "term_datas",S "numbers",S "true_number",S "false_number"]
def an(i:Mh):Str:=jp.getD i ⟨#[]⟩
theorem TE{i j:Mh}(a:i<30)(h:j<30)(e:an i=an j):i=j:=by
 haveI n:jp.Nodup:=by decide+kernel
 unfold an at e;rw [Bc,Bc,Fg (a),Fg (h)] at e;exact(List.getElem_inj n).mp e
inductive AV where
 |a9 (d:Jh)
 |g9 (τ:Tg)
 |range (n:Dh)
 |slice (l h s:Ah Dh)
 |raw (p:He->Prop)
 |typ (n:Cc)
inductive d9 where
 |list (w:Kh) (vs:xh AV)
 |p9 (w:Kh) (f:Dh->Ah AV)
 |M9 (w:Kh) (kvs:xh (Dh×AV))
 |W9 (f:xh KI->Ah AV)
 |s8 (f:Str->Ah AV)
 |inst (C:Mh) (as:xh (Mh×AV))
def d9.ctorIdx(x:d9):Mh:=d9.casesOn x (λ_ _=>0) (λz' z'=>1) (λz' z'=>2) (λz'=>3) (λz'=>4) (λz' z'=>5)
abbrev r7(items:gf Nh)(n:Mh):He:={cls:= .type "tuple",data:= .seq items n}
structure Gh where
 P:Mh->Ah He
 K:Mh->Ah He
 Z:Mh->Ah (Tg×He)
 μ:Tg->Mh
 own:Mh->Ah Tg
mutual
def DR(P:Mh->Ah He):Jh->Nh->Prop
 | .none,v=>v= .none
 | .bool b,v=>v= .bool b
 | .int i,v=>∃t,v= .int i t
 | .str s,v=>Ve s=true/\∃t,v= .str s t
 | .tuple ds,v=>∃a items n,v= .ref a/\P a=some (r7 items n)/\F3 P ds items.toList
 | .list ds,v=>∃a items n,v= .ref a/\P a=some (listOf items n)/\F3 P ds items.toList
 | .dict _,_=>False
def F3(P:Mh->Ah He):xh Jh->xh Nh->Prop
 |[],vs=>vs=[]
 |d::ds,vs=>∃y ys,vs=y::ys/\DR P d y/\F3 P ds ys
end
def F9(G:Gh):AV->Nh->Prop
 | .a9 d,v=>DR G.P d v
 | .g9 τ,v=>v= .ref (G.μ τ)
 | .range n,v=>∃a t g f,v= .ref a/\G.P a=some {cls:= .type "range",dict:=none,data:= .fields #[.int 0 t,.int n g,.int 1 f],slots:=#[]}
 | .slice b h e,v=>∃a l u s,v= .ref a/\G.P a=some {cls:= .type "slice",data:= .fields #[l,u,s]}/\IsPart l b/\IsPart u h/\IsPart s e
 | .raw p,v=>∃a o,v= .ref a/\G.P a=some o/\p o
 | .typ n,v=>v= .type n
section
structure Wd where
 prog:We
 w:Gc
 b:Pf
 K:Frag
 p:We
 loose:xh Str
 mg:Str->Ah Nh
 mb:Str->Ah Nh
 SX:K.In b
 top:TopRead p loose mg mb b
structure Fm where
 W:Wd
 A:Kd
 env:Ub
 fa:xh Mh
 n:Mh
section
variable{α β:Type}{R R':α->β->Prop}
def N7(R:α->β->Prop):Ah α->Ah β->Prop
 |some a,some b=>R a b
 |none,none=>True
 |_,_=>False
theorem N7.mono{x:Ah α}{y:Ah β}(r:N7 R x y)(h:∀a,x=some a->∀b,R a b->R' a b):N7 R' x y:=by
 cases x with
 |none=>cases y with
  |none=>trivial
  |some b=>exact r
 |some a=>cases y with
  |none=>exact r
  |some b=>exact h a rfl b r
theorem r9.get{xs:xh α}{y:xh β}(r:r9 R xs y):∀i:Mh,N7 R xs[i]? y[i]? :=by
 induction r with
 |nil=>exactλz'=>trivial
 |cons r _ b=>intro i;cases i with
  |zero=>exact r
  |succ i=>exact b i
end
variable{P P':Mh->Ah He}{G G':Gh}{W:Wd}{h h':Pf}{a:Mh}
theorem F3.all:∀{ds vs},F3 P ds vs->r9 (DR P) ds vs:=by
 intro ds;induction ds with
 |nil=>intro vs r;refine rL (show vs=[] from r) ?_;exact .nil
 |cons d _ i=>intro vs r;obtain⟨y,b,e,r,q⟩:=r;refine rL e ?_;exact .cons r (i q)
theorem F3.of{ds:xh Jh}{vs:xh Nh}(r:r9 (DR P) ds vs):F3 P ds vs:=by
 induction r with
 |nil=>exact rfl
 |cons r _ i=>exact⟨_,_,rfl,r,i⟩
theorem DR.mono(e:∀a o,P a=some o->P' a=some o)(d:Jh):∀v,DR P d v->DR P' d v:=
 PyData.rec (motive_2:=λd=>∀v,F3 P d v->F3 P' d v) (motive_3:=λz'=>True) (motive_4:=λz'=>True)
  (λz' r=>r) (λz' z' r=>r) (λz' z' r=>r) (λz' z' r=>r) (λz' b z' r=>by obtain⟨a,i,n,x,y,z⟩:=r;exact⟨a,i,n,x,e _ _ y,b _ z⟩) (λz' b z' r=>by obtain⟨a,i,n,x,y,z⟩:=r;exact⟨a,i,n,x,e _ _ y,b _ z⟩) (λz' z' z' r=>r)
  (λz' r=>r) (λz' z' c f z' r=>by obtain⟨y,g,x,r,z⟩:=r;exact⟨y,g,x,c _ r,f _ z⟩) trivial (λz' z' z' z'=>trivial) (λz' z' z' z'=>trivial) d
def AV.keeps(U:Tg->Prop):AV->Prop
 | .g9 τ=>U τ
 |_=>True
structure Gr(U:Tg->Prop)(G G':Gh):Prop where
 p:∀a o,G.P a=some o->G'.P a=some o
 k:∀a o,G.K a=some o->G'.K a=some o/\G'.P a=G.P a
 z:∀a o,G.Z a=some o->G'.Z a=some o/\G'.P a=G.P a
 m:∀τ,U τ->G'.μ τ=G.μ τ
structure Gm(U:Tg->Prop)(G G':Gh):Prop where
 p:∀a o,G.P a=some o->G'.P a=some o
 m:∀τ,U τ->G'.μ τ=G.μ τ
theorem Gr.gm{U:Tg->Prop}(e:Gr U G G'):Gm U G G':=⟨e.p,e.m⟩
theorem F9.V7{U:Tg->Prop}(e:Gm U G G'){x:AV}{v:Nh}(k:x.keeps U)(r:F9 G x v):F9 G' x v:=by
 cases x with
 |a9 d=>exact DR.mono e.p d v r
 |g9 τ=>exact Eq.trans r (yh _ (e.m _ k).symm)
 |range n=>exact r.imp λa q=>q.imp λz' q=>q.imp λz' q=>q.imp λz' q=>⟨q.1,e.p _ _ q.2⟩
 |slice _ _ _=>exact r.imp λa q=>q.imp λz' q=>q.imp λz' q=>q.imp λz' q=>⟨q.1,e.p _ _ q.2.1,q.2.2⟩
 |raw p=>exact r.imp λa q=>q.imp λz' q=>⟨q.1,e.p _ _ q.2.1,q.2.2⟩
 |typ n=>exact r
theorem F9.mono{U:Tg->Prop}(e:Gr U G G'){x:AV}{v:Nh}(k:x.keeps U)(r:F9 G x v):F9 G' x v:=r.V7 e.gm k
def AE(G:Gh)(x:Mh×AV)(e:xa):Prop:=(x.1<30/\∃t,e.key= .str (an x.1) t)/\F9 G x.2 e.val
def Mi(n:Mh):xh Dh:=(ug n).map Int.ofNat
def SK:xh Str:=[S "cells",S "spot",S "terms",S "levels",S "watched",S "told",S "fresh"]
def kY:xh (xh Dh):=[]::((Mi 60).map λi=>[i])++(Mi 60).flatMap λi=>(Mi 60).map λj=>[i,j]
def Dy:xh KI:=((Mi 11).map .int)++(Mi 3).map λi=> .tup [i,1]
def TK:xh (xh KI):=((Mi 500).flatMap λi=>(Mi 500).map λj=>[.int i,.int j])++
 [S "true",S "false",S "app",S "num",S "="].flatMap λo=>kY.flatMap λl=>[0,3].flatMap λs=>Dy.map λd=>[.str o,.tup l,.int s,d]
def OR(W:Wd)(G:Gh)(h:Pf)(a:Mh):d9->Prop
 | .list w vs=>∃items n,h.get? a=some (listOf items n)/\r9 (F9 G) vs items.toList
 | .p9 w f=>∃kvs,h.DictOf (Hc W.prog W.w) a kvs/\(∀k,N7 (F9 G) (f k) (mf kvs k))/\∀k,(f k).isSome=true->f7 k=true
 | .M9 w f=>∃kvs,h.DictOf (Hc W.prog W.w) a kvs/\r9 (λx y=>x.1=y.1/\F9 G x.2 y.2) f kvs
 | .s8 f=>∃kvs,h.DictOf (strKind W.prog W.w) a kvs/\(∀k,N7 (F9 G) (f k) (mf kvs k))/\∀k,(f k).isSome=true->k∈SK
 | .W9 f=>(∀k,(f k).isSome=true->k∈TK)/\∃xs:xh (xh KI×Mh×Nh),(∃es ep,h.get? a=some {cls:= .type "dict",data:= .dict es ep}/\es.toList=xs.map (entryOfKey (JZ W.prog W.w)))/\(∀x∈xs,∃items n,G.P x.2.1=some (r7 items n)/\r9 (λk v=>DR G.P (KI.a9 k) v) x.1 items.toList)/\(xs.map (·.1)).Nodup/\∀k,N7 (F9 G) (f k) ((atKey xs k).map (·.2))
 | .inst C as=>0<a/\h.get? a=some (Gb C (a-1))/\∃es n,h.get? (a-1)=some (dictOf es n)/\r9 (AE G) as es/\(as.map (·.1)).Nodup
def d9.keeps(U:Tg->Prop):d9->Prop
 | .list _ vs=>∀y∈vs,y.keeps U
 | .p9 _ f=>∀k v,f k=some v->v.keeps U
 | .M9 _ f=>∀y∈f,y.2.keeps U
 | .s8 f=>∀k v,f k=some v->v.keeps U
 | .W9 f=>∀k v,f k=some v->v.keeps U
 | .inst _ as=>∀y∈as,y.2.keeps U
def d9.ad(a b:Mh):d9->Prop
 | .inst _ _=>b=a\/b=a-1
 |_=>b=a
def d9.wr:d9->Kh
 | .list w _=>w
 | .p9 w _=>w
 | .M9 w _=>w
 |_=>true
theorem OR.V7{U:Tg->Prop}(e:Gm U G G'){o:d9}(k:o.keeps U)(r:OR W G h a o):OR W G' h a o:=by
 cases o with
 |list w _=>obtain⟨i,n,x,y⟩:=r;exact⟨i,n,x,y.mono λx m z' r=>r.V7 e (k x m)⟩
 |p9 w f=>obtain⟨i,x,y,z⟩:=r;exact⟨i,x,λj=>(y j).mono λx m z' r=>r.V7 e (k j x m),z⟩
 |M9 w f=>obtain⟨i,x,y⟩:=r;exact⟨i,x,y.mono λx m z' r=>⟨r.1,r.2.V7 e (k x m)⟩⟩
 |s8 f=>obtain⟨i,x,y,z⟩:=r;exact⟨i,x,λj=>(y j).mono λx m z' r=>r.V7 e (k j x m),z⟩
 |W9 f=>obtain⟨w,i,x,z,n,y⟩:=r;exact⟨w,i,x,λx m=>(z x m).imp λi q=>q.imp λn q=>⟨e.p _ _ q.1,q.2.mono λz' z' z' r=>DR.mono e.p _ _ r⟩,n,λj=>(y j).mono λx m z' r=>r.V7 e (k j x m)⟩
 |inst C _=>obtain⟨z,x,es,n,y,q,d⟩:=r;exact⟨z,x,es,n,y,q.mono λx m z' r=>⟨r.1,r.2.V7 e (k x m)⟩,d⟩
theorem OR.mono{U:Tg->Prop}(e:Gr U G G'){o:d9}(k:o.keeps U)(r:OR W G h a o):OR W G' h a o:=r.V7 e.gm k
theorem b5{K:Type}[xg K]{knd:KeyKind W.prog W.w K}{kvs:xh (K×Nh)}(x:h.DictOf knd a kvs)(e:h'.get? a=h.get? a):h'.DictOf knd a kvs:=
 x.imp λo q=>q.imp λes q=>q.imp λep q=>⟨e.trans q.1,q.2⟩
theorem OR.move{o:d9}(r:OR W G h a o)(e:∀b,o.ad a b->h'.get? b=h.get? b):OR W G h' a o:=by
 cases o with
 |list w _=>exact r.imp λi q=>q.imp λn q=>⟨(e a rfl).trans q.1,q.2⟩
 |p9 w f=>exact r.imp λi q=>⟨b5 q.1 (e a rfl),q.2⟩
 |M9 w f=>exact r.imp λi q=>⟨b5 q.1 (e a rfl),q.2⟩
 |s8 f=>exact r.imp λi q=>⟨b5 q.1 (e a rfl),q.2⟩
 |W9 f=>exact⟨r.1,r.2.imp λi q=>⟨q.1.imp λes q=>q.imp λep q=>⟨(e a rfl).trans q.1,q.2⟩,q.2⟩⟩
 |inst C _=>exact⟨r.1,(e a (.inl rfl)).trans r.2.1,r.2.2.imp λes q=>q.imp λn q=>⟨(e _ (.inr rfl)).trans q.1,q.2⟩⟩
theorem I4{K:Type}[xg K]{knd:KeyKind W.prog W.w K}{kvs:xh (K×Nh)}(x:h.DictOf knd a kvs):∃ob,h.get? a=some ob:=x.imp λz' q=>q.elim λz' q=>q.elim λz' q=>q.1
theorem OR.live{o:d9}(r:OR W G h a o){b:Mh}(e:o.ad a b):∃ob,h.get? b=some ob:=by
 cases o with
 |list w _=>exact e▸r.elim λz' q=>q.elim λz' q=>⟨_,q.1⟩
 |p9 w f=>exact e▸r.elim λz' q=>I4 q.1
 |M9 w f=>exact e▸r.elim λz' q=>I4 q.1
 |s8 f=>exact e▸r.elim λz' q=>I4 q.1
 |W9 f=>exact e▸r.2.elim λz' q=>q.1.elim λz' q=>q.elim λz' q=>⟨_,q.1⟩
 |inst C _=>exact e.elim (λe=>e▸⟨_,r.2.1⟩) λe=>e▸r.2.2.elim λz' q=>q.elim λz' q=>⟨_,q.1⟩
end
section
structure Cx where
 ρ:xh (Str×AV)
 σ:Tg->Ah d9
def Gh.has(G:Gh)(a:Mh):Prop:=(∃τ,G.own a=some τ)\/(∃o,G.P a=some o\/G.K a=some o)\/∃o,G.Z a=some o
structure SR(W:Wd)(σ:Tg->Ah d9)(G:Gh)(h:Pf):Prop where
 base:∀a o,W.b.get? a=some o->G.P a=some o
 y9:∀a o,G.P a=some o\/G.K a=some o->h.get? a=some o
 S7:∀a τ o,G.Z a=some (τ,o)->h.get? a=some o
 fX:∀a τ o,G.Z a=some (τ,o)->Nd<a
 kz:∀a o,G.K a=some o->G.Z a=none
 g9:∀τ o,σ τ=some o->OR W G h (G.μ τ) o
 own:∀τ o a,σ τ=some o->o.wr=true->o.ad (G.μ τ) a->G.own a=some τ
 O5:∀τ o a,σ τ=some o->o.wr=false->o.ad (G.μ τ) a->∃ob,G.Z a=some (τ,ob)
 at_:∀a τ,G.own a=some τ->(G.P a=none/\G.K a=none/\G.Z a=none/\Nd<a)/\∃o,σ τ=some o/\o.wr=true/\o.ad (G.μ τ) a
structure FS(F:Fm):Prop where
 kind:F.env.scope.kind= .function
 glob:F.env.globals=xf
 blt:F.env.builtins=builtinsNs
 mU:F.A.handled=none
 depth:F.A.depth+2*F.n<900
 units:F.A.units+20*F.n<9000
 inj:∀x y c,F.env.cells.lookup x=some c->F.env.cells.lookup y=some c->x=y
 ne:∀x c,F.env.cells.lookup x=some c->c≠F.env.locals
 GD:F.env.locals∈F.fa
 cr:∀a∈F.fa,a=F.env.locals\/∃x,F.env.cells.lookup x=some a
 Vq:F.env.func.isSome=true->∀x c,F.env.cells.lookup x=some c->c∈F.fa
 HR:∀x,F.env.kindOf x=some .cell->∃c,F.env.cells.lookup x=some c
structure FR F(b:xh (Str×AV)) G(h:Pf):Prop where
 st:FS F
 ns:∃m,h.Ns F.env.locals m/\∀x v,b.lookup x=some v->F.env.kindOf x=some .local->∃y,m x=some y/\F9 G v y
 cell:∀x v,b.lookup x=some v->F.env.kindOf x=some .cell\/F.env.kindOf x=some .free->∃c y,F.env.cells.lookup x=some c/\h.IsCell c (some y)/\F9 G v y
 live:∀x c,F.env.cells.lookup x=some c->∃d,h.IsCell c d
 rY:∀a∈F.fa,¬G.has a
 e5:∀x c,F.env.cells.lookup x=some c->G.own c=none/\(c∈F.fa\/(G.K c).isSome=true)
structure ST(F:Fm)(c:Cx) G h:Prop where
 sr:SR F.W c.σ G h
 fr:FR F c.ρ G h
variable{c:Cx}{F:Fm}{W:Wd}{σ:Tg->Ah d9}{ρ:xh (Str×AV)}{G G':Gh}{h h':Pf}{τ:Tg}{o o':d9}{U:Tg->Prop}
theorem k7{c:Mh}{v:Ah Nh}(x:h.IsCell c v)(e:h'.get? c=h.get? c):h'.IsCell c v:=x.imp λz' r=>⟨e.trans r.1,r.2⟩
theorem hZ{a:Mh}{m:Str->Ah Nh}(x:h.Ns a m)(e:h'.get? a=h.get? a):h'.Ns a m:=x.imp λz' r=>r.imp λz' r=>r.imp λz' r=>⟨e.trans r.1,r.2⟩
theorem Gh.v8{a:Mh}(q:¬G.has a):G.own a=none/\G.P a=none/\G.K a=none/\G.Z a=none:=
 ⟨Option.eq_none_iff_forall_ne_some.mpr λτ e=>q (.inl ⟨τ,e⟩),Option.eq_none_iff_forall_ne_some.mpr λo e=>q (.inr (.inl ⟨o,.inl e⟩)),Option.eq_none_iff_forall_ne_some.mpr λo e=>q (.inr (.inl ⟨o,.inr e⟩)),Option.eq_none_iff_forall_ne_some.mpr λo e=>q (.inr (.inr ⟨o,e⟩))⟩
theorem s9{b:Type}{x:Ah b}{a:b}(e:x=some a)(n:x=none):False:=jc a (e.symm.trans n)
theorem Gh.D4{a:Mh}(q:G.own a=none/\G.P a=none/\G.K a=none/\G.Z a=none):¬G.has a:=λz=>
 z.elim (λz=>z.elim λτ e=>s9 e q.1) λz=>z.elim (λz=>z.elim λo e=>e.elim (λe=>s9 e q.2.1) λe=>s9 e q.2.2.1) λz=>z.elim λo e=>s9 e q.2.2.2
theorem SR.has(S:SR W σ G h)(e:σ τ=some o){a:Mh}(q:o.ad (G.μ τ) a):G.has a:=by
 cases w:o.wr with
 |true=>exact .inl ⟨τ,S.own _ o a e w q⟩
 |false=>exact .inr (.inr ((S.O5 _ o a e w q).elim λob z=>⟨_,z⟩))
theorem SR.live(S:SR W σ G h){a:Mh}(q:G.has a):∃ob,h.get? a=some ob:=
 q.elim (λq=>q.elim λτ e=>(S.at_ a _ e).2.elim λo e=>(S.g9 _ o e.1).live e.2.2) λq=>q.elim (λq=>q.imp λo e=>S.y9 a o e) λq=>q.elim λo e=>⟨_,S.S7 a _ _ e⟩
theorem SR.step(S:SR W σ G h)(d:∀a,G.has a->h'.get? a=h.get? a):SR W σ G h' where
 base:=S.base
 y9:=λa o e=>(d a (.inr (.inl ⟨o,e⟩))).trans (S.y9 a o e)
 S7:=λa τ o e=>(d a (.inr (.inr ⟨_,e⟩))).trans (S.S7 a _ o e)
 fX:=S.fX
 kz:=S.kz
 g9:=λτ o e=>(S.g9 _ o e).move λb q=>d b (S.has e q)
 own:=S.own
 O5:=S.O5
 at_:=S.at_
theorem FR.step(S:FR F ρ G h)(b:h'.get? F.env.locals=h.get? F.env.locals)(a:∀x c,F.env.cells.lookup x=some c->h'.get? c=h.get? c):FR F ρ G h' where
 st:=S.st
 ns:=S.ns.imp λm q=>⟨hZ q.1 b,q.2⟩
 cell:=λx v e k=>(S.cell x v e k).imp λc q=>q.imp λy q=>⟨q.1,k7 q.2.1 (a x c q.1),q.2.2⟩
 live:=λx c e=>(S.live x c e).imp λv q=>k7 q (a x c e)
 rY:=S.rY
 e5:=S.e5
theorem FR.alive(S:FR F ρ G h):(∃o,h.get? F.env.locals=some o)/\∀x c,F.env.cells.lookup x=some c->∃o,h.get? c=some o:=
 ⟨S.ns.elim λz' q=>q.1.imp λz' q=>q.elim λz' q=>q.elim λz' q=>q.1,λx c e=>(S.live x c e).elim λz' q=>q.imp λz' q=>q.1⟩
theorem U6(d:∀b o,h.get? b=some o->h'.get? b=some o){a:Mh}(e:∃o,h.get? a=some o):h'.get? a=h.get? a:=e.elim λo e=>(d a o e).trans e.symm
theorem SR.keeps(S:SR W σ G h)(a:∀b o,h.get? b=some o->h'.get? b=some o):SR W σ G h':=S.step λz' q=>U6 a (S.live q)
theorem FR.keeps(S:FR F ρ G h)(a:∀b o,h.get? b=some o->h'.get? b=some o):FR F ρ G h':=S.step (U6 a S.alive.1) λx c e=>U6 a (S.alive.2 x c e)
theorem ST.keeps(S:ST F c G h)(a:∀b o,h.get? b=some o->h'.get? b=some o):ST F c G h':=⟨S.sr.keeps a,S.fr.keeps a⟩
theorem FR.GN(S:FR F ρ G h){a:Mh}(q:a∈F.fa):∃o,h.get? a=some o:=
 (S.st.cr a q).elim (λe=>e▸S.alive.1) λe=>e.elim λx e=>S.alive.2 x a e
theorem FR.mono(S:FR F ρ G h)(e:Gr U G G')(k:∀x v,ρ.lookup x=some v->v.keeps U)(d:∀a∈F.fa,¬G'.has a)(f:∀a o,G.K a=some o->G.own a=none->G'.own a=none):FR F ρ G' h where
 st:=S.st
 ns:=S.ns.imp λm q=>⟨q.1,λx v e1 b=>(q.2 x v e1 b).imp λy r=>⟨r.1,r.2.mono e (k x v e1)⟩⟩
 cell:=λx v e1 b=>(S.cell x v e1 b).imp λc q=>q.imp λy q=>⟨q.1,q.2.1,q.2.2.mono e (k x v e1)⟩
 live:=S.live
 rY:=d
 e5:=λx c q=>(S.e5 x c q).2.elim (λz=>⟨(G'.v8 (d c z)).1,.inl z⟩) λz=>(Option.isSome_iff_exists.mp z).elim λo z=>⟨f c o z (S.e5 x c q).1,.inr (rL ((e.k c o z).1) rfl)⟩
theorem SR.fresh(S:SR W σ G h){a:Mh}(b:h.objs.size<=a):¬G.has a:=λq=>(S.live q).elim λz' e=>Nat.not_lt.mpr b (vf e)
theorem FR.fresh(S:FR F ρ G h){a:Mh}(b:h.objs.size<=a):a∉F.fa:=λq=>(S.GN q).elim λz' e=>Nat.not_lt.mpr b (vf e)
theorem SR.statics(S:SR W σ G h): @LT.lt Mh _ Nd h.objs.size:=
 W.top.nolimit.elim λm q=>q.1.elim λo q=>q.elim λz' q=>q.elim λz' q=>vf (S.y9 _ o (.inl (S.base _ o q.1)))
def up(σ:Tg->Ah d9)(τ:Tg)(o:d9):Tg->Ah d9:=λτ'=>if τ'=τ then some o else σ τ'
theorem q7:up σ τ o τ=some o:=Lh rfl
theorem u8{a:Tg}(q:a≠τ):up σ τ o a=σ a:=Fh q
theorem R4{a:Tg}(q:up σ τ o a=some o'):(a=τ/\o'=o)\/(a≠τ/\σ a=some o'):=by
 by_cases z:a=τ
 ·rw [z,q7] at q;exact .inl ⟨z,(Bh q).symm⟩
 ·rw [u8 z] at q;exact .inr ⟨z,q⟩
theorem SR.upd(S:SR W σ G h)(e:σ τ=some o)(hw:o.wr=true)(i:o'.wr=true)(g:∀a,o'.ad (G.μ τ) a↔o.ad (G.μ τ) a)(hs:∀a,G.own a≠some τ->h'.get? a=h.get? a)(R:OR W G h' (G.μ τ) o'):SR W (up σ τ o') G h' where
 base:=S.base
 y9:=λa x q=>(hs a λz=>q.elim (λq=>s9 q (S.at_ a _ z).1.1) λq=>s9 q (S.at_ a _ z).1.2.1).trans (S.y9 a x q)
 S7:=λa t x q=>(hs a λz=>s9 q (S.at_ a _ z).1.2.2.1).trans (S.S7 a t x q)
 fX:=S.fX
 kz:=S.kz
 g9:=λd x q=>(R4 q).elim (λz=>z.1▸z.2▸R) λz=>(S.g9 _ x z.2).move λb r=>hs b λy=>by
  cases w:x.wr with
  |true=>exact z.1 (Bh ((S.own _ x b z.2 w r).symm.trans y))
  |false=>exact(S.O5 _ x b z.2 w r).elim λob q=>s9 q (S.at_ b _ y).1.2.2.1
 own:=λd x a q w r=>(R4 q).elim (λz=>z.1▸S.own _ o a e hw ((g a).mp (z.2▸z.1▸r))) λz=>S.own _ x a z.2 w r
 O5:=λd x a q w r=>(R4 q).elim (λz=>absurd (i.symm.trans (z.2▸w)) (by decide)) λz=>S.O5 _ x a z.2 w r
 at_:=λa d q=>⟨(S.at_ a _ q).1,(S.at_ a _ q).2.elim λx r=>by
  by_cases z:d=τ
  ·rw [z] at r;haveI:=r.1;rw [e] at this;exact⟨o',z▸q7,i,by refine rL z ?_;exact(g a).mpr (Bh this▸r.2.2)⟩
  ·exact⟨x,(u8 z).trans r.1,r.2⟩⟩
theorem ST.upd(S:ST F c G h)(e:c.σ τ=some o)(hw:o.wr=true)(d:o'.wr=true)(b:∀a,o'.ad (G.μ τ) a↔o.ad (G.μ τ) a)(hs:∀a,G.own a≠some τ->h'.get? a=h.get? a)(R:OR F.W G h' (G.μ τ) o'):ST F ⟨c.ρ,up c.σ τ o'⟩ G h':=
 ⟨S.sr.upd e hw d b hs R,S.fr.step (hs _ λq=>S.fr.rY _ S.fr.st.GD (.inl ⟨_,q⟩)) λx c q=>hs _ λz=>jc _ (z.symm.trans (S.fr.e5 x c q).1)⟩
end
section
abbrev Mk(W:Wd):Model:=Ff W.prog W.w
abbrev no:Nh->Uh->Prop:=λz' z'=>False
abbrev q0:Tg->Prop:=λz'=>True
def SS(s s':Uh):Prop:=s'.gens=s.gens/\s'.drawn=s.drawn/\s'.os=s.os
inductive Fl where
 |next
 |ret (a:AV)
def Fl.ctorIdx(x:Fl):Mh:=Fl.casesOn x 0 λz'=>1
def PI(G:Gh):Fl->Flow->Prop
 | .next,f=>f= .next
 | .ret a,f=>∃v,f= .ret v/\F9 G a v
inductive RA{α:Type}(F:Fm)(U:Tg->Prop)(c:Cx)(G:Gh)(s:Uh)(R:Gh->α->Prop)(v:α)(s':Uh):Prop
 |mk (G':Gh) (e:Gr U G G') (S:ST F c G' s'.heap) (r:R G' v) (q:SS s s')
variable{α:Type}{c c1 c2 c3:Cx}{F:Fm}{W:Wd}{G G' G'':Gh}{h:Pf}{τ:Tg}{o:d9}{U U':Tg->Prop}{s s' s'':Uh}{a b r:AV}{R:Gh->α->Prop}
theorem SS.refl:SS s s:=⟨ig _,ig _,ig _⟩
theorem SS.trans(x:SS s s')(y:SS s' s''):SS s s'':=⟨y.1.trans x.1,y.2.1.trans x.2.1,y.2.2.trans x.2.2⟩
theorem SS.heap(h:Pf)(t:Mh):SS s {s with heap:=h,toks:=t}:=⟨ig _,ig _,ig _⟩
theorem Gr.refl:Gr U G G:=⟨λz' z' q=>q,λz' z' q=>⟨q,ig _⟩,λz' z' q=>⟨q,ig _⟩,λz' z'=>ig _⟩
theorem Gr.trans(x:Gr U G G')(y:Gr U G' G''):Gr U G G'':=
 ⟨λa o q=>y.p a o (x.p a o q),λa o q=>⟨(y.k a o (x.k a o q).1).1,(y.k a o (x.k a o q).1).2.trans (x.k a o q).2⟩,λa o q=>⟨(y.z a o (x.z a o q).1).1,(y.z a o (x.z a o q).1).2.trans (x.z a o q).2⟩,λτ q=>(y.m _ q).trans (x.m _ q)⟩
theorem AV.V9:a.keeps q0:=by cases a<;>trivial
def Do{α:Type}(F:Fm)(U:Tg->Prop)(c:Cx)(t:ca α)(R:Gh->α->Prop)(c':Cx):Prop:=
 ∀G s,ST F c G s.heap->og (Mk F.W) F.A t (RA F U c' G s R) no s
def Ev(F:Fm)(U:Tg->Prop)(c:Cx)(e:Expr)(a:AV)(c':Cx):Prop:=Do F U c (bc e F.env) (λG=>F9 G a) c'
def Sx(F:Fm)(U:Tg->Prop)(c:Cx)(f:Nh->ca Nh)(a r:AV)(c':Cx):Prop:=
 ∀G s x,ST F c G s.heap->F9 G a x->og (Mk F.W) F.A (f x) (RA F U c' G s λG=>F9 G r) no s
def Q5(F:Fm)(U:Tg->Prop)(c:Cx)(f:Nh->Nh->ca Nh)(a b r:AV)(c':Cx):Prop:=
 ∀G s x y,ST F c G s.heap->F9 G a x->F9 G b y->og (Mk F.W) F.A (f x y) (RA F U c' G s λG=>F9 G r) no s
def O4(F:Fm)(U:Tg->Prop)(c:Cx)(f:xh Nh->ca Nh)(as:xh AV)(r:AV)(c':Cx):Prop:=
 ∀G s xs,ST F c G s.heap->r9 (F9 G) as xs->og (Mk F.W) F.A (f xs) (RA F U c' G s λG=>F9 G r) no s
def ix(F:Fm)(U:Tg->Prop)(c:Cx)(a:AV)(t:Kh)(c':Cx):Prop:=
 ∀G s x,ST F c G s.heap->F9 G a x->og (Mk F.W) F.A (truthy x) (RA F U c' G s λz' b=>b=t) no s
def Xs(F:Fm)(U:Tg->Prop)(c:Cx)(s:xh qf)(fl:Fl)(c':Cx):Prop:=Do F U c (execs s F.env) (λG=>PI G fl) c'
def X1(F:Fm)(U:Tg->Prop)(c:Cx)(s:qf)(fl:Fl)(c':Cx):Prop:=Do F U c (exec s F.env) (λG=>PI G fl) c'
def It(F:Fm)(U:Tg->Prop)(c:Cx)(e:Expr)(t:Kh)(c':Cx):Prop:=Do F U c (isTrue e F.env (bc e F.env)) (λz' b=>b=t) c'
theorem RA.uT{v:α}(e:Gr U G G')(q:SS s s')(x:RA F U c G' s' R v s''):RA F U c G s R v s'':=x.casesOn λg d S r f=>⟨g,e.trans d,S,r,q.trans f⟩
theorem RA.here{v:α}(S:ST F c G s'.heap)(r:R G v)(q:SS s s'):RA F U c G s R v s':=⟨G,.refl,S,r,q⟩
theorem Do.bind{t:ca α}{Q:α->Uh->Prop}(E:Do F U c t R c1)(S:ST F c G s.heap)(k:∀G' v s',ST F c1 G' s'.heap->R G' v->Gr U G G'->SS s s'->Q v s'):og (Mk F.W) F.A t Q no s:=
 Yh (E G s S) (λv s' x=>x.casesOn λg e S r q=>k g v _ S r e q) λz' z' z=>z
theorem zi{t:ca α}(e:Gr U G G')(q:SS s s')(x:og (Mk F.W) F.A t (RA F U c G' s' R) no s'):og (Mk F.W) F.A t (RA F U c G s R) no s':=Yh x (λz' z' x=>x.uT e q) λz' z' z=>z
theorem Do.then{t:ca α}(E:Do F U c t R c1)(e:Gr U G G')(q:SS s s')(S:ST F c G' s'.heap):og (Mk F.W) F.A t (RA F U c1 G s R) no s':=zi e q (E _ _ S)
theorem Gr.weak(h:∀τ,U' τ->U τ)(g:Gr U G G'):Gr U' G G':=⟨g.p,g.k,g.z,λτ q=>g.m _ (h _ q)⟩
theorem Do.weak{t:ca α}(h:∀τ,U' τ->U τ)(E:Do F U c t R c1):Do F U' c t R c1:=λG s S=>Yh (E G s S) (λz' z' z=>z.casesOn λd g S r q=>⟨d,g.weak h,S,r,q⟩) λz' z' z=>z
theorem By{l r:Expr}{op:Operator}{pos:Cf}{x:AV}(E1:Ev F U c l a c1)(E:Ev F U' c1 r b c2)(h:∀τ,U τ->U' τ)(i:a.keeps U')(O:Q5 F U c2 (yc op) a b x c3):Ev F U c (.BinOp l op r pos) x c3:=λG s S=>
 wpAny_BinOp (E1.bind S λn v z' e m j q=>E.bind e λt w p f d g k=>zi (j.trans (g.weak h)) (q.trans k) (O _ _ v w f (m.mono g i) d))
theorem xy{l r:Expr}{op:CmpOp}{pos:Cf}{x:AV}(E1:Ev F U c l a c1)(E:Ev F U' c1 r b c2)(h:∀τ,U τ->U' τ)(i:a.keeps U')(O:Q5 F U c2 (Jf op) a b x c3)(hm:db op r=false):Ev F U c (.Compare l [op] [r] pos) x c3:=λG s S=>
 wpAny_Compare1 (E1.bind S λn v z' e m j q=>E.bind e λt w p f d g k=>zi (j.trans (g.weak h)) (q.trans k) (O _ _ v w f (m.mono g i) d)) hm
theorem py{l r:Expr}{pos:Cf}{x:AV}(E1:Ev F U c l a c1)(E:Ev F U' c1 r b c2)(h:∀τ,U τ->U' τ)(i:a.keeps U')(O:Q5 F U c2 (uc l r) a b x c3):Ev F U c (.Subscript l r pos) x c3:=λG s S=>
 Subscript_ (E1.bind S λn v z' e m j q=>E.bind e λt w p f d g k=>zi (j.trans (g.weak h)) (q.trans k) (O _ _ v w f (m.mono g i) d))
theorem XK{l:Expr}{op:UnaryOp}{pos:Cf}{x:AV}(E1:Ev F U c l a c1)(O:Sx F U c1 (unaryOp op) a x c2):Ev F U c (.UnaryOp op l pos) x c2:=λG s S=>
 wpAny_UnaryOp (E1.bind S λe v s1 d r g q=>zi g q (O _ _ v d r))
theorem gE{k:Mh}{pos:Cf}:Ev F U c (.Constant .none k pos) (.a9 .none) c:=λG s S=>Ih (.here S (ig _) .refl)
theorem pE{k:Mh}{pos:Cf}{b:Kh}:Ev F U c (.Constant (.bool b) k pos) (.a9 (.bool b)) c:=λG s S=>Ih (.here S (ig _) .refl)
theorem uy{k:Mh}{pos:Cf}{i:Dh}:Ev F U c (.Constant (.int i) k pos) (.a9 (.int i)) c:=λG s S=>wpAny_mkInt (.here S ⟨_,ig _⟩ (SS.heap _ _))
theorem qy{k:Mh}{pos:Cf}{x:Str}(hx:Ve x=true):Ev F U c (.Constant (.str x) k pos) (.a9 (.str x)) c:=λG s S=>wpAny_mkText (.here S ⟨hx,_,ig _⟩ (SS.heap _ _))
def OZ:Ah zc->Kh
 |some .local=>true
 |some .cell=>true
 |some .free=>true
 |_=>false
theorem WN{x:Str}{pos:Cf}(f:c.ρ.lookup x=some a)(e:OZ (F.env.kindOf x)=true)(hd:(x==("__debug__"))=false)(p:(x==("__classdict__"))=false):Ev F U c (.Name x pos) a c:=λG s S=>by
 cases q:F.env.kindOf x with
 |none=>rw [q] at e;cases e
 |some k=>
  cases k with
  |«local»=>obtain⟨m,hn,hm⟩:=S.fr.ns;obtain⟨y,l,r⟩:=hm x a f q;exact Cb (wpAny_loadName_local S.fr.st.kind q hn l (.here S r .refl)) hd
  |cell=>obtain⟨c,y,h,g,r⟩:=S.fr.cell x a f (.inl q);exact Cb (wpAny_loadName_cell S.fr.st.kind q h g (.here S r .refl)) hd
  |free=>obtain⟨c,y,h,g,r⟩:=S.fr.cell x a f (.inr q);exact Cb (wpAny_loadName_free S.fr.st.kind q h g (.here S r .refl) p) hd
  |_=>rw [q] at e;cases e
theorem ST.base(S:ST F c G h)(b:Mh)(o:He)(e:F.W.b.get? b=some o):h.get? b=some o:=S.sr.y9 b o (.inl (S.sr.base b o e))
theorem ST.SX(S:ST F c G h):F.W.K.In h:=F.W.SX.keeps S.base
theorem lE{x:Str}{pos:Cf}{v:Nh}(e:nsIn F.W.K xf x=some (some v))(hx:F.env.kindOf x=some .globalImplicit)(h:∀G,(∀a o,F.W.K.lookup a=some o->G.P a=some o)->F9 G a v)(hd:(x==("__debug__"))=false):Ev F U c (.Name x pos) a c:=λG s S=>
 ga S.fr.st.kind hx (loadGlobal_global (S.fr.st.glob▸F.W.top.g.keeps S.base) (mg_of F.W.SX F.W.top.g e) (.here S (h _ λb o q=>S.sr.base b o (F.W.SX b o q)) .refl)) hd
variable{σ:Tg->Ah d9}{ρ:xh (Str×AV)}{h':Pf}{t u:Kh}{fl:Fl}
theorem ix.then{v:Nh}(O:ix F U c1 a t c2)(e:Gr U G G')(q:SS s s')(S:ST F c1 G' s'.heap)(r:F9 G' a v):og (Mk F.W) F.A (truthy v) (RA F U c2 G s λz' b=>b=t) no s':=zi e q (O _ _ v S r)
theorem pX{b:Kh}:ix F U c (.a9 (.bool b)) b c:=λG s x S r=>by refine rL (show x=_ from r) ?_;exact wpAny_truthy_bool (.here S (ig _) .refl)
theorem Oz{e:Expr}(E:Ev F U c e a c1)(O:ix F U c1 a t c2)(h:∀env w,isTrue e env w=(do let v<-w;ma e.pos;na [v] (truthy v))):It F U c e t c2:=λG s S=>
 wpAny_isTrue_value (E.bind S λf v z' d r g q=>O.then g q d r) (h _ _)
theorem Qz{l r:Expr}{op:CmpOp}{pos:Cf}(E1:Ev F U c l a c1)(E:Ev F U' c1 r b c2)(h:∀τ,U τ->U' τ)(f:a.keeps U')(O:Q5 F U c2 (Jf op) a b (.a9 (.bool t)) c3)(hm:db op r=false):It F U c (.Compare l [op] [r] pos) t c3:=λG s S=>
 wpAny_isTrue_Compare1 (E1.bind S λH v z' n y e m=>E.bind n λC w D i k g p=>Yh (O _ _ v w i (y.mono g f) k) (λx z' z=>z.casesOn λB A d j q=>pX.then ((e.trans (g.weak h)).trans A) ((m.trans p).trans q) d j) λz' z' z=>z) hm
theorem Pz{x:Expr}{pos:Cf}(E:It F U c x t c1):It F U c (.UnaryOp .Not x pos) (!t) c1:=λG s S=>
 wpAny_isTrue_Not (E.bind S λe v z' d r g q=>⟨e,g,d,yh _ r,q⟩)
def At(F:Fm)(U:Tg->Prop)(c:Cx)(op:BoolOp)(es:xh Expr)(t:Kh)(c':Cx):Prop:=Do F U c (allTrue op es F.env) (λz' b=>b=t) c'
theorem ZX{op:BoolOp}{es:xh Expr}{pos:Cf}(E:At F U c op es t c1):It F U c (.BoolOp op es pos) t c1:=λG s S=>wpAny_isTrue_BoolOp (E G s S)
theorem YE:At F U c .And [] true c:=λG s S=>wpAny_allTrue_And_nil (.here S (ig _) .refl)
theorem Yy:At F U c .Or [] false c:=λG s S=>wpAny_allTrue_Or_nil (.here S (ig _) .refl)
theorem GM{e:Expr}{es:xh Expr}(E:It F U c e u c1)(k:if u=true then At F U c1 .And es t c2 else t=false/\c2=c1):At F U c .And (e::es) t c2:=λG s S=>
 wpAny_allTrue_And_cons (E.bind S λj v z' i r g q=>by
  refine rL (show v=u from r) ?_;cases u with
  |true=>exact Do.then k g q i
  |false=>obtain⟨rfl,rfl⟩:=k;exact⟨j,g,i,rfl,q⟩)
theorem XE{e:Expr}{es:xh Expr}(E:It F U c e u c1)(k:if u=true then t=true/\c2=c1 else At F U c1 .Or es t c2):At F U c .Or (e::es) t c2:=λG s S=>
 wpAny_allTrue_Or_cons (E.bind S λj v z' i r g q=>by
  refine rL (show v=u from r) ?_;cases u with
  |false=>exact Do.then k g q i
  |true=>obtain⟨rfl,rfl⟩:=k;exact⟨j,g,i,rfl,q⟩)
theorem vy{x b o:Expr}{pos:Cf}(E:It F U c x t c1)(k:if t=true then Ev F U c1 b a c2 else Ev F U c1 o a c2):Ev F U c (.IfExp x b o pos) a c2:=λG s S=>
 wpAny_IfExp (E.bind S λe v z' d r g q=>by
  refine rL (show v=t from r) ?_;cases t<;>exact Do.then k g q d)
theorem ty{op:BoolOp}{e:Expr}{pos:Cf}(E:Ev F U c e a c1):Ev F U c (.BoolOp op [e] pos) a c1:=λG s S=>BoolOp_one (E G s S)
theorem wI{e d:Expr}{rest:xh Expr}{pos:Cf}(E:Ev F U c e a c1)(O:ix F U c1 a t c2)(h:a.keeps U)(k:if t=true then Ev F U c2 (.BoolOp .And (d::rest) pos) b c3 else b=a/\c3=c2):Ev F U c (.BoolOp .And (e::d::rest) pos) b c3:=λG s S=>
 BoolOp_and (E.bind S λy v s1 x r j q=>Yh (O _ _ v x r) (λw z' z=>z.casesOn λn g l p m=>by
  refine rL (show w=t from p) ?_;cases t with
  |true=>exact Do.then k (j.trans g) (q.trans m) l
  |false=>obtain⟨rfl,rfl⟩:=k;exact⟨n,j.trans g,l,r.mono g h,q.trans m⟩) λz' z' z=>z)
theorem QD:Xs F U c [] .next c:=λG s S=>Ih (.here S (ig _) .refl)
theorem bH{e:qf}{d:xh qf}(E:X1 F U c e .next c1)(k:Xs F U c1 d fl c2):Xs F U c (e::d) fl c2:=λG s S=>by
 exact zh (E.bind S λi v z' f r g q=>by refine rL (show v=_ from r) ?_;exact Do.then k g q f)
theorem qU{d:qf}{e:xh qf}(E:X1 F U c d (.ret a) c1):Xs F U c (d::e) (.ret a) c1:=λG s S=>by
 exact zh (E.bind S λj v z' i f g q=>by obtain⟨w,rfl,r⟩:=f;exact Ih ⟨j,g,i,⟨w,ig _,r⟩,q⟩)
theorem SD{x:Expr}{b o:xh qf}{pos:Cf}(E:It F U c x t c1)(k:if t=true then Xs F U c1 b fl c2 else Xs F U c1 o fl c2):X1 F U c (.If x b o pos) fl c2:=λG s S=>by
 refine zh (Re (zh (E.bind S λe v z' d r g q=> ?_)));refine rL (show v=t from r) ?_;cases t<;>exact Do.then k g q d
theorem fP{e:Expr}{pos:Cf}(E:Ev F U c e a c1):X1 F U c (.Return (some e) pos) (.ret a) c1:=λG s S=>
 wpAny_Return_some (E.bind S λf v z' d r g q=>⟨f,g,d,⟨v,ig _,r⟩,q⟩)
theorem WR{pos:Cf}:X1 F U c (.Return none pos) (.ret (.a9 .none)) c:=λG s S=>wpAny_Return_none (.here S ⟨_,ig _,ig _⟩ .refl)
theorem aH{e:Expr}{pos:Cf}(E:Ev F U c e a c1)(hs:∀env,Nf e none pos.line env=pure false):X1 F U c (.Expr e pos) .next c1:=λG s S=>
 wpAny_Expr_any (E.bind S λf v z' d z' g q=>⟨f,g,d,ig _,q⟩) (by unfold interactive;refine rL S.fr.st.kind ?_;rfl) (hs _)
section
variable{K:Type}{β:Type _}[xg K]{ρ:xh (K×β)}{a:β}
def T9:xh (K×β)->K->β->xh (K×β)
 |[],x,a=>[(x,a)]
 |(y,b)::r,x,a=>if y=x then(x,a)::r else(y,b)::T9 r x a
theorem fZ{x:K}:(T9 ρ x a).lookup x=some a:=by
 induction ρ with
 |nil=>exact List.lookup_cons_self
 |cons p r i=>
  unfold T9;split
  ·exact List.lookup_cons_self
  ·rename_i z;refine rL Kg (rL (yg (vd z)) ?_);exact i
theorem A6{x y:K}(q:y≠x):(T9 ρ x a).lookup y=ρ.lookup y:=by
 induction ρ with
 |nil=>unfold T9;rw [Kg,yg q]
 |cons p r i=>
  unfold T9;split
  ·rename_i e;rw [Kg,Kg,e,yg q]
  ·exact rL Kg (rL Kg (rL i rfl))
theorem iQ{x:K}:∀y∈(T9 ρ x a).map (·.1),y=x\/y∈ρ.map (·.1):=by
 induction ρ with
 |nil=>exactλy m=> .inl (List.mem_singleton.mp m)
 |cons p r i=>
  unfold T9;split
  ·exactλy m=>(List.mem_cons.mp m).imp id λm=> .tail _ m
  ·exactλy m=>(List.mem_cons.mp m).elim (λe=> .inr (e▸ .head _)) λm=>(i y m).imp id λm=> .tail _ m
theorem QU{x:K}(h:(ρ.map (·.1)).Nodup):((T9 ρ x a).map (·.1)).Nodup:=by
 induction ρ with
 |nil=>exact List.nodup_cons.mpr ⟨(nomatch ·),Ig⟩
 |cons p r i=>
  rw [Hg,Bd] at h;unfold T9;split
  ·rename_i e;exact List.nodup_cons.mpr ⟨e▸h.1,h.2⟩
  ·rename_i n;exact List.nodup_cons.mpr ⟨λm=>(iQ p.1 m).elim n h.1,i h.2⟩
end
def X7:Ah zc->Kh
 |some .local=>true
 |some .cell=>true
 |_=>false
theorem SR.frame{a:Mh}(S:SR W σ G h)(q:¬G.has a)(hs:Sf a h h'):SR W σ G h':=S.step λb z=>hs.2 b λe=>q (e▸z)
theorem f6{x:Str}{v:Nh}{Q:Ib->Uh->Prop}(hk:X7 (F.env.kindOf x)=true)(hf:F.env.func.isSome=true\/F.env.kindOf x=some .local)(S:ST F c G s.heap)(r:F9 G a v)
  (k:∀s',ST F ⟨T9 c.ρ x a,c.σ⟩ G s'.heap->SS s s'->Q () s'):og (Mk F.W) F.A (storeName F.env x v) Q no s:=by
 obtain⟨m,hn,hm⟩:=S.fr.ns;cases q:F.env.kindOf x with
 |none=>rw [q] at hk;cases hk
 |some kd=>
  cases kd with
  |«local»=>
   refine wpAny_storeName_local q hn (λh' h1 hs=>k _ ⟨S.sr.frame (S.fr.rY _ S.fr.st.GD) hs,S.fr.st,⟨_,h1,λy w e kl=> ?_⟩,λy w e kl=> ?_,λy c e=>(S.fr.live y c e).imp λv0 z=>k7 z (hs.2 c (S.fr.st.ne y c e)),S.fr.rY,S.fr.e5⟩ (SS.heap _ _)) (by rw [S.fr.st.kind];rfl)
   ·by_cases z:y=x
    ·rw [z,fZ] at e;exact⟨v,Lh z,Bh e▸r⟩
    ·rw [A6 z] at e;rw [Fh z];exact hm y w e kl
   ·have z:y≠x:=λz=>by rw [z,q] at kl;rcases kl with kl|kl<;>cases kl
    rw [A6 z] at e;exact(S.fr.cell y w e kl).imp λc z=>z.imp λu z=>⟨z.1,k7 z.2.1 (hs.2 c (S.fr.st.ne y c z.1)),z.2.2⟩
  |cell=>
   have hf:=hf.resolve_right (by rw [q];intro z;cases z);obtain⟨c',hc⟩:=S.fr.st.HR x q;obtain⟨v0,hv⟩:=S.fr.live x c' hc;refine wpAny_storeName_cell S.fr.st.kind q hc hv λh' h1 hs=>k _ ⟨S.sr.frame (S.fr.rY _ (S.fr.st.Vq hf x c' hc)) hs,S.fr.st,⟨m,hZ hn (hs.2 _ (vd (S.fr.st.ne x c' hc))),λy w e kl=> ?_⟩,λy w e kl=> ?_,λy c e=> ?_,S.fr.rY,S.fr.e5⟩ (SS.heap _ _)
   ·have z:y≠x:=λz=>by rw [z,q] at kl;cases kl
    rw [A6 z] at e;exact hm y w e kl
   ·by_cases z:y=x
    ·rw [z,fZ] at e;exact⟨c',v,z▸hc,h1,Bh e▸r⟩
    ·rw [A6 z] at e;exact(S.fr.cell y w e kl).imp λd u=>u.imp λz' u=>⟨u.1,k7 u.2.1 (hs.2 d λp=>z (S.fr.st.inj y x d u.1 (p▸hc))),u.2.2⟩
   ·by_cases z:c=c'
    ·exact⟨_,z▸h1⟩
    ·exact(S.fr.live y c e).imp λv0 u=>k7 u (hs.2 c z)
  |_=>rw [q] at hk;cases hk
theorem YI{x:Str}{p pos:Cf}{e:Expr}(E:Ev F U c e a c1)(j:X7 (F.env.kindOf x)=true)(h:F.env.func.isSome=true\/F.env.kindOf x=some .local)(hs:Nf e (some (.Name x p)) pos.line F.env=pure false):X1 F U c (.Assign [.Name x p] e pos) .next ⟨T9 c1.ρ x a,c1.σ⟩:=λG s S=>
 wpAny_Assign_Name (E.bind S λk v z' f r g q=>f6 j h f r λl d i=>⟨k,g,d,ig _,q.trans i⟩) hs
variable{d:AV}
def Gh.y9(G:Gh)(a:Mh)(o:He):Gh:={G with P:=λb=>if b=a then some o else G.P b}
theorem d9.V9:o.keeps q0:=by
 cases o with
 |list w _=>exactλy z'=>y.V9
 |p9 w f=>exactλz' v z'=>v.V9
 |M9 w f=>exactλy z'=>y.2.V9
 |s8 f=>exactλz' v z'=>v.V9
 |W9 f=>exactλz' v z'=>v.V9
 |inst C _=>exactλy z'=>y.2.V9
theorem Gr.y9{a:Mh}{ob:He}(q:¬G.has a):Gr U G (G.y9 a ob):=
 haveI n:=G.v8 q
 ⟨λb x e=>(Fh λz=>s9 (z▸e) n.2.1).trans e,λb x e=>⟨e,Fh λz=>s9 (z▸e) n.2.2.1⟩,λb x e=>⟨e,Fh λz=>s9 (z▸e) n.2.2.2⟩,λz' z'=>ig _⟩
theorem SR.grow(S:SR W σ G h)(e:Gr q0 G G')(f:G'.own=G.own)(hz:G'.Z=G.Z)(kz:∀a x,G'.K a=some x->G.Z a=none)(p:∀a x,G'.P a=some x\/G'.K a=some x->h.get? a=some x)(g:∀a τ,G.own a=some τ->G'.P a=none/\G'.K a=none):SR W σ G' h where
 base:=λa x q=>e.p a x (S.base a x q)
 y9:=p
 S7:=λa t x q=>S.S7 a t x (hz▸q)
 fX:=λa t x q=>S.fX a t x (hz▸q)
 kz:=λa x q=>hz▸kz a x q
 g9:=λτ x q=>e.m _ trivial▸(S.g9 _ x q).mono e x.V9
 own:=λτ x a q w z=>f▸S.own _ x a q w (e.m _ trivial▸z)
 O5:=λτ x a q w z=>hz▸S.O5 _ x a q w (e.m _ trivial▸z)
 at_:=λa τ q=>by
  rw [f] at q;obtain⟨z,x⟩:=S.at_ a _ q
  exact rL (e.m _ trivial) (rL hz (⟨⟨(g a _ q).1,(g a _ q).2,z.2.2⟩,x⟩))
theorem MS{a b:Mh}{ob:He}(m:b≠a)(z:¬G.has b):¬(G.y9 a ob).has b:=λy=>z (y.imp id λy=>y.imp (λy=>y.imp λx y=>y.imp (λy=>(Fh m).symm.trans y) id) id)
theorem ST.u4{a:Mh}{ob:He}(S:ST F c G h)(q:¬G.has a)(f:a∉F.fa)(e:h.get? a=some ob):ST F c (G.y9 a ob) h:=by
 refine⟨S.sr.grow (.y9 q) rfl rfl S.sr.kz (λb x z=> ?_) (λb τ z=>⟨(Fh λ(y)=>s9 (y▸z) (G.v8 q).1).trans (S.sr.at_ b _ z).1.1,(S.sr.at_ b _ z).1.2.1⟩),S.fr.mono (.y9 q) (λz' v z'=>v.V9) (λb m=>MS (λy=>f (y▸m)) (S.fr.rY b m)) λz' z' z' z=>z⟩;by_cases y:b=a
 ·exact z.elim (λz=>by refine rL y ?_;exact e.trans ((Lh y).symm.trans z)) λz=>S.sr.y9 b x (.inr z)
 ·exact z.elim (λz=>S.sr.y9 b x (.inl ((Fh y).symm.trans z))) λz=>S.sr.y9 b x (.inr z)
theorem ST.push(S:ST F c G h)(ob:He):ST F c G (h.push ob):=S.keeps λz' z' e=>Ng _ e
theorem ST.data{ob:He}(S:ST F c G h)(nf:ob.isFreed=false):Gr U G (G.y9 h.objs.size ob)/\ST F c (G.y9 h.objs.size ob) (h.push ob)/\(G.y9 h.objs.size ob).P h.objs.size=some ob:=
 have q:=S.sr.fresh (Oh h.objs.size)
 ⟨.y9 q,(S.push ob).u4 q (S.fr.fresh (Oh _)) (Lg _ nf),Lh rfl⟩
theorem r9.M6{ds:xh Jh}{vs:xh Nh}(r:r9 (F9 G) (ds.map .a9) vs):F3 G.P ds vs:=by
 induction ds generalizing vs with
 |nil=>cases r;exact rfl
 |cons d _ i=>cases r with|cons r q=>exact⟨_,_,rfl,r,i q⟩
theorem F3.M6{ds:xh Jh}{vs:xh Nh}(r:F3 G.P ds vs):r9 (F9 G) (ds.map .a9) vs:=by
 induction ds generalizing vs with
 |nil=>refine rL (show vs=[] from r) ?_;exact .nil
 |cons d _ i=>obtain⟨y,f,e,r,q⟩:=r;refine rL e ?_;exact .cons r (i q)
theorem F3.mono{P f:Mh->Ah He}(e:∀a o,P a=some o->f a=some o){ds:xh Jh}{vs:xh Nh}(r:F3 P ds vs):F3 f ds vs:= .of (r.all.mono λd z' v r=>r.mono e)
def VT(F:Fm)(U:Tg->Prop)(c:Cx)(es:xh Expr)(as:xh AV)(c':Cx):Prop:=∀pos,Do F U c (spliced (Td pos (Hf es F.env))) (λG=>r9 (F9 G) as) c'
theorem SY:VT F U c [] [] c:=λpos G s S=>spliced_none (.here S .nil .refl)
theorem i4{e:Expr}{es:xh Expr}{as:xh AV}(E:Ev F U c e a c1)(k:VT F U' c1 es as c2)(l:∀τ,U τ->U' τ)(p:a.keeps U')(h:∀env,Hf (e::es) env=(false,bc e env)::Hf es env):VT F U c (e::es) (a::as) c2:=λpos G s S=>
 spliced_more (E.bind S λx v z' m w n i=>(k _).bind m λf z' z' j r g q=>⟨f,n.trans (g.weak l),j,.cons (w.mono g p) r,i.trans q⟩) (h _)
theorem T4{n:Mh}{β e:Type}{R:β->e->Prop}{xs:xh β}{y:xh e}(r:r9 R xs y)(hz:xs.length<=n):y.length<=n:=r.length▸hz
theorem Ny{n:Mh}(h:n<=1000000):(n:Dh)<2^63:=Rf (Int.ofNat_le.mpr h) (by decide)
theorem IU(m:Mh):(-1+(m:Dh)).toNat=m-1:=by
 cases m with
 |zero=>rfl
 |succ m=>rw [Int.natCast_succ,Int.add_comm,Int.add_neg_cancel_right];rfl
theorem O9{n:Mh}(h:n<=10000000):n<=Qe:=sizeLine_eq▸vh h (by decide)
theorem YK{es:xh Expr}{k:Mh}{pos:Cf}{ds:xh Jh}(E:VT F U c es (ds.map .a9) c1)(hz:(ds.map AV.a9).length<=10000000):Ev F U c (.Tuple es k pos) (.a9 (.tuple ds)) c1:=λG s S=>
 Tuple_ ((E _).bind S λj z' z' e r i q=>Wb (by
  obtain⟨g,f,p⟩:=e.data (ob:=r7 _ 0) rfl;exact⟨_,i.trans g,f,⟨_,_,_,rfl,p,F3.mono g.p r.M6⟩,q.trans ⟨rfl,rfl,rfl⟩⟩) (O9 (T4 r hz)))
theorem pV{ds:xh Jh}{vs:xh Nh}(S:ST F c G s.heap)(r:F3 G.P ds vs)(hz:vs.length<=10000000):og (Mk F.W) F.A (newList vs) (RA F U c G s λG=>F9 G (.a9 (.list ds))) no s:=
 wpAny_newList (by
  obtain⟨g,e,p⟩:=S.data (ob:=listOf _ 0) rfl;exact⟨_,g,e,⟨_,_,_,rfl,p,r.mono g.p⟩,rfl,rfl,rfl⟩) (O9 hz)
theorem kE{es:xh Expr}{pos:Cf}{ds:xh Jh}(E:VT F U c es (ds.map .a9) c1)(hz:(ds.map AV.a9).length<=10000000):Ev F U c (.List es pos) (.a9 (.list ds)) c1:=λG s S=>
 List_ ((E _).bind S λf z' z' e r g q=>zi g q (pV e r.M6 (T4 r hz)))
def As(F:Fm)(c:Cx)(t:Expr)(a:AV)(c':Cx):Prop:=∀G s x,ST F c G s.heap->F9 G a x->og (Mk F.W) F.A (assign t F.env x) (RA F q0 c' G s λz' z'=>True) no s
theorem pZ{x:Str}{pos:Cf}(h:X7 (F.env.kindOf x)=true)(e:F.env.func.isSome=true\/F.env.kindOf x=some .local):As F c (.Name x pos) a ⟨T9 c.ρ x a,c.σ⟩:=λG s y S r=>
 lc (f6 h e S r λs' f q=>⟨G,.refl,f,trivial,q⟩)
def hD(F:Fm)(c:Cx)(t:xh Expr)(as:xh AV)(c':Cx):Prop:=∀G s xs,ST F c G s.heap->r9 (F9 G) as xs->og (Mk F.W) F.A (assignInOrder ((wd t F.env).map (·.2)) xs) (RA F q0 c' G s λz' z'=>True) no s
theorem NR:hD F c [] [] c:=λG s z' S r=>by exact assignInOrder_nil (.here S trivial .refl)
theorem ZV{t:Expr}{e:xh Expr}{as:xh AV}(E:As F c t a c1)(k:hD F c1 e as c2)(h:∀env,wd (t::e) env=(false,assign t env)::wd e env):hD F c (t::e) (a::as) c2:=λG s z' S r=>by
 cases r with
 |cons r j=>
  rw [h];exact assignInOrder_cons (Yh (E G s _ S r) (λz' s1 z=>z.casesOn λl g i z' q=>zi g q (k _ _ _ i (j.mono λx z' y r=>r.mono g x.V9))) λz' z' x=>x)
theorem U1{h h':Pf}(k:Oa h.objs.size h h'):∀b o,h.get? b=some o->h'.get? b=some o:=λb o e=>k b o (Uf (vf e)) e
theorem wP(S:ST F c G h){ds:xh Jh}{y:Nh}(r:F9 G (.a9 (.tuple ds)) y):∃x items,y= .ref x/\IsTup h x items/\r9 (F9 G) (ds.map .a9) items.toList:=
 r.imp λx r=>r.imp λitems r=>r.elim λn r=>⟨r.1,⟨_,S.sr.y9 _ _ (.inl r.2.1),rfl,_,rfl⟩,r.2.2.M6⟩
theorem aU{t:xh Expr}{k:Mh}{pos:Cf}{ds:xh Jh}(E:hD F c t (ds.map .a9) c1)(hn:∀env,(wd t env).length=(ds.map AV.a9).length)(hs:∀env,(wd t env).findIdx? (·.1)=none):As F c (.Tuple t k pos) (.a9 (.tuple ds)) c1:=λG s y S r=>by
 obtain⟨x,items,rfl,g,f⟩:=wP S r;exact assign_Tuple_tuple S.fr.st.mU g ((hn _).trans (f.length.trans qg)) (hs _) λh' k=>(zi .refl (SS.heap _ _) (E G {s with heap:=h'} _ (S.keeps (U1 k)) f))
theorem mL{f:xh Expr}{k:Mh}{t pos:Cf}{e:Expr}(E:Ev F U c e a c1)(T:As F c1 (.Tuple f k t) a c2)(hs:Ia [.Tuple f k t] e pos.line F.env=pure false)(hw:Ae [.Tuple f k t] e F.env=pure none):X1 F U c (.Assign [.Tuple f k t] e pos) .next c2:=λG s S=>
 Assign_Tuple (E.bind S λp v s1 m r n j=>Yh (T _ _ v m r) (λz' z' z=>z.casesOn λi g l z' q=>⟨i,n.trans ⟨g.p,g.k,g.z,λτ z'=>g.m _ trivial⟩,l,ig _,j.trans q⟩) λz' z' x=>x) hs hw
variable{as:xh (Mh×AV)}{es:xh xa}{C i:Mh}{x:Str}
theorem AE.isStr{e:xa}(r:AE G (i,a) e)(y:Str):e.key.isStr y=(an i==y)/\e.refKey=false:=by
 obtain⟨⟨_,t,z⟩,_⟩:=r;constructor
 ·refine rL z ?_;rfl
 ·unfold DictEntry.refKey;rw [z]
theorem EM{i j:Mh}(f:i<30)(h:j<30):(an i==an j)=(i==j):=by
 by_cases q:i=j
 ·refine rL q ?_;rw [zg,zg]
 ·exact rL (yg q) (rL (yg λe=>q (TE f h e)) rfl)
theorem FM(r:r9 (AE G) as es):es.any (·.refKey)=false:=by
 induction r with
 |nil=>rfl
 |cons r _ i=>refine rL fe (rL ((AE.isStr r ⟨#[]⟩).2) (rL i ?_));rfl
theorem JT(r:r9 (AE G) as es)(h:i<30):∃v,Rb (an i) es=some v/\N7 (F9 G) (as.lookup i) v:=by
 haveI n:=FM r;have l:N7 (F9 G) (as.lookup i) ((es.find? (·.key.isStr (an i))).map (·.val)):=by
  clear n;induction r with
  |nil=>trivial
  | @cons p e _ _ r _ j=>
   refine rL Kg ?_;rw [te,(AE.isStr r _).1,EM r.1.1 h];by_cases q:i=p.1
   ·refine rL q ?_;rw [zg];exact r.2
   ·refine rL (yg q) (rL (yg (vd q)) ?_);exact j
 unfold Rb;cases q:es.find? _ with
 |some e=>rw [q] at l;exact⟨_,rfl,l⟩
 |none=>rw [q] at l;refine rL n ?_;exact⟨none,rfl,l⟩
theorem Wy(r:r9 (AE G) as es)(hx:∀i,i<30->an i≠x):Rb x es=some none:=by
 haveI n:=FM r;haveI l:es.find? (·.key.isStr x)=none:=by
  clear n;induction r with
  |nil=>rfl
  | @cons p e _ _ r _ g=>refine rL (te) (rL ((AE.isStr r x).1) (rL (yg (hx _ r.1.1)) ?_));exact g
 unfold Rb;refine rL l (rL n ?_);rfl
theorem UE(r:r9 (AE G) as es){y:Nh}(h:Dh)(tk:Tok)(f:i<30)(q:F9 G' a y)(n:(as.map (·.1)).Nodup)(hm:∀p∈as,p.1≠i->∀y,F9 G p.2 y->F9 G' p.2 y):r9 (AE G') (T9 as i a) (putL (an i) h (.str (an i) tk) y es):=by
 induction r with
 |nil=>exact .cons ⟨⟨f,_,rfl⟩,q⟩ .nil
 | @cons p e _ _ r j k=>
  rw [Hg,Bd] at n;unfold T9 putL;refine rL ((AE.isStr r _).1) (rL (EM r.1.1 f) ?_);by_cases z:p.1=i
  ·refine rL (Lh z) ?_;rw [z,zg];exact .cons ⟨z▸r.1,q⟩ (j.mono λp' m z' r=>⟨r.1,hm _ (.tail _ m) (λe=>n.1 (List.mem_map.mpr ⟨p',m,e.trans z.symm⟩)) _ r.2⟩)
  ·exact rL (Fh z) (rL (yg z) (.cons ⟨r.1,hm p (.head _) z _ r.2⟩ (k n.2 λp m=>hm p (.tail _ m))))
structure q4(W:Wd)(C:Mh):Prop where
 get:De W.K (.ref C) "__getattribute__"=some (some (.builtin "object.__getattribute__"))
 gv:De W.K (.ref C) "__getattr__"=some none
 FF:hasDictIn W.K C=true
 set:De W.K (.ref C) "__setattr__"=some (some (.builtin "object.__setattr__"))
 over:plainOver W.K C=true
theorem oV{l:xh Mh}(h:l.Nodup)(b:∀i∈l,i<30):l.length<=30:=
 vh (Qb h λi m=>List.mem_range.mpr (b i m)) (Ph Qg)
theorem BJ(r:r9 (AE G) as es):∀i∈as.map (·.1),i<30:=by
 induction r with
 |nil=>exactλz' m=>(by nomatch m)
 |cons r _ f=>exactλi m=>(List.mem_cons.mp m).elim (λe=>e▸r.1.1) (f i)
structure cD(G:Gh)(h:Pf)(τ:Tg)(C:Mh)(as:xh (Mh×AV))(es:xh xa)(k:Mh):Prop where
 I:InstAt h (G.μ τ) (Gb C (G.μ τ-1)) C (some (dictOf es k))
 r:r9 (AE G) as es
 p:0<G.μ τ
 d:(as.map (·.1)).Nodup
 z:es.length<=30
theorem mZ(S:SR W σ G h)(e:σ τ=some (.inst C as)):∃es k,cD G h τ C as es k:=
 let⟨z,x,es,k,y,q,d⟩:=S.g9 _ _ e
 ⟨es,k,⟨x,rfl,rfl,y⟩,q,z,d,by rw [<-q.length,<-Eh];exact oV d (BJ q)⟩
theorem DR.handed{P:Mh->Ah He}{d:Jh}{y:Nh}(r:DR P d y):handedIn y=true:=by
 cases d with
 |none=>refine rL (show y=_ from r) ?_;rfl
 |bool b=>refine rL (show y=_ from r) ?_;rfl
 |int i=>obtain⟨t,e⟩:=r;refine rL e ?_;rfl
 |str i=>obtain⟨_,t,e⟩:=r;refine rL e ?_;rfl
 |tuple i=>obtain⟨_,_,_,e,_⟩:=r;rw [e];rfl
 |list i=>obtain⟨_,_,_,e,_⟩:=r;rw [e];rfl
 |dict i=>exact r.elim
theorem F9.handed{y:Nh}(r:F9 G a y):handedIn y=true:=by
 cases a with
 |a9 d=>exact DR.handed r
 |g9 _=>refine rL (show y=_ from r) ?_;rfl
 |range n=>obtain⟨_,_,_,_,e,_⟩:=r;refine rL e ?_;rfl
 |slice _ _ _=>obtain⟨_,_,_,_,e,_⟩:=r;refine rL e ?_;rfl
 |raw _=>obtain⟨_,_,e,_⟩:=r;refine rL e ?_;rfl
 |typ _=>refine rL (show y=_ from r) ?_;rfl
theorem wG(e:c.σ τ=some (.inst C as))(hc:q4 F.W C)(hp:De F.W.K (.ref C) (an i)=some none)(hi:i<30)(hx:as.lookup i=some a):Sx F U c (λo=>getAttr o (an i) true) (.g9 τ) a c:=λG s y S r=>by
 rw [show y=_ from r];obtain⟨es,m,I⟩:=mZ S.sr e;obtain⟨v,ho,hr⟩:=JT I.r hi;rw [hx] at hr;cases v with
 |none=>exact hr.elim
 |some v=>exact get_value S.SX I.I hc.get (findObj_own hc.FF hp (by rfl) (by rw [lookIn_dict];exact ho)) (F9.handed hr) (.here S hr (SS.heap s.heap _))
theorem rE{o:Expr}{pos:Cf}(E:Ev F U c o a c1)(O:Sx F U c1 (λv=>getAttr v x true) a b c2)(h:∀env,Se o x env (bc o env)=bc o env):Ev F U c (.Attribute o x pos) b c2:=λG s S=>by
 show og _ _ (do
  let e<-Se o x _ _
  ma _;let r<-na [e] _
  letTemporaryGo o _ r
  pure r) _ _ s
 rw [h];exact zh (E.bind S λk v s1 f j g q=>zh (Re (zh (bf (Yh (O _ _ v f j) (λr z' z=>zh (wpAny_letTemporaryGo (Ih (z.uT g q)))) λz' z' x=>x)))))
theorem YW{A:Kd}{E:Nh->Uh->Prop}{x C d:Mh}{n:Mh}{name:Str}{v:Nh}{Q:Ib->Uh->Prop}(X:W.K.In s.heap)
  (I:InstAt s.heap x (Gb C d) C (some (dictOf es n))) (h:q4 W C) (H:takerIn W.K C name=some none) (hl:(getL name es).isSome=true) (hz:es.length<=1000)
  (k:Q () {s with heap:=s.heap.update d (Obj.putName name (Ra W.w.params name) (.str name (s.toks+1)) v),toks:=s.toks+2}):og (Mk W) A (setAttr (.ref x) name v) Q E s:=by
 refine set_plain X I h.set (osa_open X I h.over H λb=> ?_);obtain⟨c,p,m⟩:=any_some h.FF;obtain⟨hx,-,-,hd⟩:=I;haveI D:=hd;haveI J:(s.heap.update _ (Obj.putName name (Ra W.w.params name) (.str name (s.toks+1)) v)).get? _=some _:=
  Yd _ D (by rw [Xa];rfl)
 refine zh (Ih (zh (zh (wpAny_loadPart hx (zh ((looks_clsIn X p).at ?_))))));refine rL m ?_;refine Ih (zh (Ih (zh ?_)));refine zh (zh (Ad (Ih (zh (wpAny_mkText (zh (wpAny_loadPart D ?_)))))));haveI q:(!es.toArray.any (·.key.isStr name)&&es.toArray.any (·.refKey))=false:=by
  refine rR Array.any_toList (rR Array.any_toList ?_);unfold getL at hl;cases q:es.find? _ with
  |some e=>refine rL (List.any_eq_true.mpr ⟨e,List.mem_of_find?_eq_some q,List.find?_some q⟩) ?_;rfl
  |none=>
   rw [q] at hl;cases z:es.any (·.refKey) with
   |false=>exact Rd _
   |true=>rw [z] at hl;cases hl
 dsimp only;rw [aRefKeyMayBeTheName_at,q];refine wpAny_updatePart D (zh (wpAny_lookBehind J (by rw [Xa];refine pastItsLine_dict ?_;rw [Ic,sizeLine_eq,<-putL_find];split<;>simp<;>lia) ?_));exact Ih k
theorem BZ{Q:Ib->Uh->Prop}{v:Nh}(X:W.K.In s.heap)(S:SR W σ G s.heap)(e:σ τ=some (.inst C as))(hc:q4 W C)(hp:De W.K (.ref C) (an i)=some none)(hi:i<30){A:Kd}
  (k:∀h',Sf (G.μ τ-1) s.heap h'->(∀G',(∀p∈as,p.1≠i->∀y,F9 G p.2 y->F9 G' p.2 y)->∀a,G'.μ τ=G.μ τ->F9 G' a v->OR W G' h' (G.μ τ) (.inst C (T9 as i a)))->∀tk,Q () {s with heap:=h',toks:=tk}):og (Mk W) A (setAttr (.ref (G.μ τ)) (an i) v) Q no s:=by
 obtain⟨es,m,I⟩:=mZ S e;obtain⟨w,ho,_⟩:=JT I.r hi;have hd:=I.I.dict;have hs:=Ie s.heap (G.μ τ-1) (Obj.putName (an i) (Ra W.w.params (an i)) (.str (an i) (s.toks+1)) v);refine YW X I.I hc (by unfold takerIn;rw [hp];rfl) (by rw [ho];rfl) (vh I.z (by decide)) (k _ hs (λG' hm a hμ ra=>⟨I.p,?_,_,_,(Yd _ hd (by rw [Xa];rfl)).trans (yh some (Xa ..)),UE I.r _ _ hi ra I.d hm,QU I.d⟩) _);rw [hs.2 _ (we (Nat.sub_lt I.p Sa))];exact I.I.at_
theorem oQ(e:c.σ τ=some (.inst C as))(hc:q4 F.W C)(hp:De F.W.K (.ref C) (an i)=some none)(hi:i<30)(S:ST F c G s.heap){v:Nh}(r:F9 G a v):
  og (Mk F.W) F.A (setAttr (.ref (G.μ τ)) (an i) v) (RA F U ⟨c.ρ,up c.σ τ (.inst C (T9 as i a))⟩ G s λz' z'=>True) no s:=
 BZ S.SX S.sr e hc hp hi λh' hs hO tk=>⟨G,.refl,S.upd e rfl rfl (λz'=>Sg) (λa ha=>hs.2 a λq=>ha (q▸S.sr.own τ _ _ e rfl (.inr rfl))) (hO G (λz' z' z' z' r=>r) _ rfl r),trivial,SS.heap _ _⟩
theorem cH{y:Str}{p p' pos:Cf}{e:Expr}(E:Ev F U c e a c1)(D:c1.ρ.lookup y=some (.g9 τ))(A:OZ (F.env.kindOf y)=true)(hd:(y==("__debug__"))=false)(h:(y==("__classdict__"))=false)
  (B:c1.σ τ=some (.inst C as)) (k:q4 F.W C) (hp:De F.W.K (.ref C) (an i)=some none) (f:i<30) (hs:∀env,Nf e (some (.Attribute (.Name y p') (an i) p)) pos.line env=pure false):
  X1 F U c (.Assign [.Attribute (.Name y p') (an i) p] e pos) .next ⟨c1.ρ,up c1.σ τ (.inst C (T9 as i a))⟩:=λG s S=>
 plainObj_wpAny_Assign_Attribute (E.bind S λM v z' w r n q=>(WN D A hd h).bind w λL o z' l K g I=>by
  exact(show o=_ from K)▸Yh (oQ B k hp f l (r.mono g a.V9)) (λz' z' z=>z.casesOn λH J j z' m=>⟨H,(n.trans (g.weak λz' z'=>trivial)).trans J,j,rfl,(q.trans I).trans m⟩) λz' z' z=>z) (hs _)
variable{σ':Tg->Ah d9}{p:Tg->Kh}
def Ji(p:Tg->Kh)(σ:Tg->Ah d9):Tg->Ah d9:=λτ=>if p τ=true then none else σ τ
def Di(p:Tg->Kh)(σ σ':Tg->Ah d9):Tg->Ah d9:=λτ=>if p τ=true then σ τ else σ' τ
structure Wf(p:Tg->Kh)(σ:Tg->Ah d9):Prop where
 W8:∀τ o,p τ=true->σ τ=some o->o.keeps λz'=>False
 old:∀τ o,σ τ=some o->o.keeps λτ=>p τ=false
theorem AV.t9(h:∀τ,U τ->U' τ)(k:a.keeps U):a.keeps U':=by
 cases a with
 |g9 τ=>exact h _ k
 |_=>trivial
theorem d9.t9(h:∀τ,U τ->U' τ)(k:o.keeps U):o.keeps U':=by
 cases o with
 |list w _=>exactλy m=>AV.t9 h (k y m)
 |p9 w f=>exactλy v m=>AV.t9 h (k y v m)
 |M9 w f=>exactλy m=>AV.t9 h (k y m)
 |s8 f=>exactλy v m=>AV.t9 h (k y v m)
 |W9 f=>exactλy v m=>AV.t9 h (k y v m)
 |inst C _=>exactλy m=>AV.t9 h (k y m)
def Gh.yY(G:Gh)(p:Tg->Kh)(f:xh Mh)(a:Mh):Prop:=a∈f\/(G.own a).any p=true
noncomputable instance{p:Tg->Kh}{G:Gh}{fa:xh Mh}{a:Mh}:ub (G.yY p fa a):=by unfold Gh.yY;infer_instance
theorem Gr.WD(g:Gr U G G')(h:∀τ,U' τ->U τ):Gr U' G G':=⟨g.p,g.k,g.z,λτ q=>g.m _ (h _ q)⟩
def Gh.enter(G:Gh)(p:Tg->Kh)(h:Pf)(fa:xh Mh):Gh:={P:=G.P,K:=λa=>if G.yY p fa a then h.get? a else G.K a,Z:=G.Z,μ:=G.μ,own:=λa=>if(G.own a).any p=true then none else G.own a}
def Gh.back(p:Tg->Kh)(G G':Gh):Gh:={P:=G'.P,K:=G.K,Z:=G'.Z,μ:=λτ=>if p τ=true then G.μ τ else G'.μ τ,own:=λa=>if(G.own a).any p=true then G.own a else G'.own a}
theorem DS{a:Mh}(q:(G.own a).any p=true):∃τ,G.own a=some τ/\p τ=true:=by
 cases e:G.own a with
 |none=>rw [e] at q;cases q
 |some τ=>rw [e] at q;exact⟨τ,rfl,q⟩
theorem ST.o6(S:ST F c G h):Gr q0 G (G.enter p h F.fa):=
 ⟨λz' z' e=>e,λb x e=>⟨by
  show(if G.yY p _ b then h.get? b else G.K b)=some x;split
  ·exact S.sr.y9 b x (.inr e)
  ·exact e,rfl⟩,λz' z' e=>⟨e,rfl⟩,λz' z'=>rfl⟩
theorem ST.RY(S:ST F c G h){a:Mh}(q:G.yY p F.fa a):∃ob,h.get? a=some ob/\(G.enter p h F.fa).K a=some ob:=by
 haveI:=q.elim S.fr.GN λq=>(DS q).elim λτ z=>S.sr.live (.inl ⟨τ,z.1⟩);exact this.imp λob e=>⟨e,(Lh q).trans e⟩
theorem kZ(q:p τ=true):Di p σ σ' τ=σ τ:=Lh q
theorem Z3(q:p τ=false):Di p σ σ' τ=σ' τ:=Fh (Bool.eq_false_iff.mp q)
theorem C6(e:Ji p σ τ=some o):p τ=false/\σ τ=some o:=by
 unfold Ji at e;cases q:p _ with
 |true=>rw [q] at e;cases e
 |false=>rw [q] at e;exact⟨rfl,e⟩
theorem aW(q:p τ=false):Ji p σ τ=σ τ:=by unfold Ji;refine rL q ?_;rfl
theorem ST.enter(S:ST F c G h):SR F.W (Ji p c.σ) (G.enter p h F.fa) h where
 base:=S.sr.base
 y9:=λa x e=>e.elim (λe=>S.sr.y9 a x (.inl e)) λe=>by
  haveI e:(if G.yY p _ a then h.get? a else G.K a)=some x:=e;split at e
  ·exact e
  ·exact S.sr.y9 a x (.inr e)
 S7:=S.sr.S7
 fX:=S.sr.fX
 kz:=λa x e=>by
  have e:(if G.yY p _ a then h.get? a else G.K a)=some x:=e;split at e
  ·rename_i m;exact m.elim (λm=>(G.v8 (S.fr.rY a m)).2.2.2) λm=>(DS m).elim λτ z=>(S.sr.at_ a _ z.1).1.2.2.1
  ·exact S.sr.kz a x e
 g9:=λτ x e=>(S.sr.g9 _ x (C6 e).2).mono (S.o6) x.V9
 O5:=λτ x a e w q=>S.sr.O5 _ x a (C6 e).2 w q
 own:=λτ x a e w q=>by
  have:=S.sr.own _ x a (C6 e).2 w q;exact(Fh λz=>by rw [this] at z;exact wg ((C6 e).1.symm.trans z)).trans this
 at_:=λa τ e=>by
  haveI e:(if(G.own a).any p=true then none else G.own a)=some τ:=e;split at e
  ·cases e
  ·rename_i n;obtain⟨z,o,r⟩:=S.sr.at_ a _ e
   refine⟨⟨z.1,(Fh λm=>m.elim (λm=>S.fr.rY a m (.inl ⟨τ,e⟩)) n).trans z.2.1,z.2.2⟩,o,(aW (Bool.eq_false_iff.mpr λq=>n ?_)).trans r.1,r.2⟩;refine rL e ?_;exact q
theorem ST.back(S:ST F c G h)(e:Gr U (G.enter p h F.fa) G')(R:SR F.W σ' G' h')(w:Wf p c.σ)(w':Wf p σ')(ht:∀τ o,σ' τ=some o->p τ=false)
  (hρ:∀x v,c.ρ.lookup x=some v->v.keeps λτ=>U τ\/p τ=true):Gr (λτ=>U τ\/p τ=true) G (G.back p G')/\ST F ⟨c.ρ,Di p c.σ σ'⟩ (G.back p G') h'/\(∀a,a.keeps (λτ=>p τ=false)->∀v,F9 G' a v->F9 (G.back p G') a v):=by
 have kk:∀a x,G.K a=some x->G'.K a=some x/\G'.P a=G.P a:=λa x q=>e.k a x ((S.o6).k a x q).1;have km:∀a,G.yY p F.fa a->(∃x,G'.K a=some x/\h.get? a=some x)/\G'.P a=G.P a:=λa q=>(S.RY q).elim λx z=>⟨⟨x,(e.k a x z.2).1,z.1⟩,(e.k a x z.2).2⟩;have hk:∀a,G.yY p F.fa a\/(∃x,G.K a=some x)->h'.get? a=h.get? a:=λa q=>q.elim (λq=>(km a q).1.elim λx z=>(R.y9 a x (.inr z.1)).trans z.2.symm) λq=>q.elim λx q=>(R.y9 a x (.inr (kk a x q).1)).trans (S.sr.y9 a x (.inr q)).symm;have hz:∀a x,G.Z a=some x->h'.get? a=h.get? a:=λa x q=>(R.S7 a x.1 x.2 (e.z a x q).1).trans (S.sr.S7 a x.1 x.2 q).symm;have μt:∀τ,p τ=true->(G.back p G').μ τ=G.μ τ:=λτ q=>Lh q;have μn:∀τ,p τ=false->(G.back p G').μ τ=G'.μ τ:=λτ q=>Fh (Bool.eq_false_iff.mp q);have g1:Gr (λτ=>U τ\/p τ=true) G (G.back p G'):=⟨e.p,λa x q=>⟨q,(kk a x q).2⟩,e.z,λτ q=>by
  cases z:p τ with
  |true=>exact μt τ z
  |false=>rw [z] at q;exact(μn τ z).trans (e.m τ (q.resolve_right wg))⟩
 have own0:∀a,G.yY p F.fa a->G'.own a=none:=λa q=>Option.eq_none_iff_forall_ne_some.mpr λτ z=>(km a q).1.elim λx y=>s9 y.1 (R.at_ a τ z).1.2.1;refine⟨g1,⟨⟨R.base,λa x q=> ?_,R.S7,R.fX,λa x q=>R.kz a x (kk a x q).1,λτ x q=> ?_,λτ x a q wr ad=> ?_,λτ x a q wr ad=> ?_,λa τ q=> ?_⟩,?_⟩,λa k v r=> ?_⟩
 ·exact q.elim (λq=>R.y9 a x (.inl q)) λq=>R.y9 a x (.inr (kk a x q).1)
 ·have q:Di p c.σ σ' τ=some x:=q;cases z:p τ with
  |true=>
   rw [kZ z] at q;rw [μt τ z];refine((S.sr.g9 τ x q).mono (g1.WD λz' z=>z.elim) (w.W8 τ x z q)).move λb ad=> ?_;cases wr:x.wr with
   |true=>exact hk b (.inl (.inr (by rw [S.sr.own τ x b q wr ad];exact z)))
   |false=>exact(S.sr.O5 τ x b q wr ad).elim λob q=>hz b _ q
  |false=>
   rw [Z3 z] at q;rw [μn τ z];exact OR.V7 (G:=G') (G':=G.back p G') ⟨λz' z' z=>z,μn⟩ (w'.old τ x q) (R.g9 τ x q)
 ·have q:Di p c.σ σ' τ=some x:=q;cases z:p τ with
  |true=>
   rw [kZ z] at q;rw [μt τ z] at ad;have:=S.sr.own τ x a q wr ad;exact(Lh (by rw [this];exact z)).trans this
  |false=>
   rw [Z3 z] at q;rw [μn τ z] at ad;have:=R.own τ x a q wr ad;exact(Fh λy=>s9 this (own0 a (.inr y))).trans this
 ·have q:Di p c.σ σ' τ=some x:=q;cases z:p τ with
  |true=>
   rw [kZ z] at q;rw [μt τ z] at ad;exact(S.sr.O5 τ x a q wr ad).imp λob y=>(e.z a _ y).1
  |false=>
   rw [Z3 z] at q;rw [μn τ z] at ad;exact R.O5 τ x a q wr ad
 ·have q:(if(G.own a).any p=true then G.own a else G'.own a)=some τ:=q;split at q
  ·rename_i z;obtain⟨y,x,r⟩:=S.sr.at_ a τ q
   have zt:p τ=true:=by rw [q] at z;exact z
   exact⟨⟨(km a (.inr z)).2.trans y.1,y.2.1,(km a (.inr z)).1.elim λx z=>R.kz a x z.1,y.2.2.2⟩,x,(kZ zt).trans r.1,r.2.1,by rw [μt τ zt];exact r.2.2⟩
  ·obtain⟨y,x,r⟩:=R.at_ a τ q
   have zt:=ht τ x r.1;exact⟨⟨y.1,Option.eq_none_iff_forall_ne_some.mpr λx z=>s9 (kk a x z).1 y.2.1,y.2.2⟩,x,(Z3 zt).trans r.1,r.2.1,by rw [μn τ zt];exact r.2.2⟩
 ·refine(S.fr.step (hk _ (.inl (.inl S.fr.st.GD))) λx d q=>hk _ ((S.fr.e5 x d q).2.imp .inl Option.isSome_iff_exists.mp)).mono g1 hρ (λa m=> ?_) λa x q z=> ?_
  ·have n:=G.v8 (S.fr.rY a m);exact Gh.D4 ⟨(Fh λy=>by rw [n.1] at y;cases y).trans (own0 a (.inl m)),(km a (.inl m)).2.trans n.2.1,n.2.2.1,(km a (.inl m)).1.elim λx z=>R.kz a x z.1⟩
  ·refine(Fh λy=> ?_).trans (Option.eq_none_iff_forall_ne_some.mpr λτ y=>s9 (kk a x q).1 (R.at_ a τ y).1.2.1);rw [z] at y;cases y
 ·exact F9.V7 (G:=G') (G':=G.back p G') (U:=λτ=>p τ=false) ⟨λz' z' z=>z,μn⟩ k r
end
section
variable{α:Type}{c c1 c2 c3:Cx}{F:Fm}{W:Wd}{σ σ':Tg->Ah d9}{as bs:xh AV}{es:xh Expr}{G G':Gh}{h:Pf}{τ:Tg}{o:d9}{U U':Tg->Prop}{s s':Uh}{a b r:AV}{R:Gh->α->Prop}{C n:Mh}{x name:Str}{pos:Cf}{f:Nh}
inductive RC W U σ G s a(r:Result) s':Prop
 |mk G' v (z:r= .ok (.ret v)) (e:Gr U G G') (S:SR W σ G' s'.heap) (r:F9 G' a v) (q:SS s s')
def Fn(W:Wd)(U:Tg->Prop)(n:Mh)(f:Nh)(as:xh AV)(σ:Tg->Ah d9)(a:AV)(σ':Tg->Ah d9):Prop:=
 ∀A G s xs,A.handled=none->A.depth+2*n<900->A.units+20*n<9000->SR W σ G s.heap->r9 (F9 G) as xs->vc (Mk W) A (.call f ⟨xs,[]⟩) (RC W U σ' G s a) s
structure gD(U:Tg->Prop)(c:Cx)(σ':Tg->Ah d9):Prop where
 w:Wf Tg.U9 c.σ
 w':Wf Tg.U9 σ'
 ht:∀τ o,σ' τ=some o->τ.U9=false
 hρ:∀x v,c.ρ.lookup x=some v->v.keeps λτ=>U τ\/τ.U9=true
theorem ZJ(E:Fn F.W U F.n f as (Ji Tg.U9 c.σ) a σ')(q:gD U c σ')(h:a.keeps λτ=>τ.U9=false):O4 F (λτ=>U τ\/τ.U9=true) c (λxs=>call f xs []) as a ⟨c.ρ,Di Tg.U9 c.σ σ'⟩:=λG s xs S r=>
 wpAny_call (cc (E _ _ s _ S.fr.st.mU S.fr.st.depth S.fr.st.units S.enter (r.mono λx z' z' r=>r.mono S.o6 x.V9)) λr z' z=>z.casesOn λG' v z e R i l=>by
  obtain⟨g,j,k⟩:=S.back e R q.w q.w' q.ht q.hρ;refine rL z ?_;exact⟨_,g,j,k a h v i,l⟩)
def Kp(W:Wd)(f:Nh):Prop:=∀h,W.K.In h->∃k,(k=Keeper.frame\/k=Keeper.machine\/k=Keeper.boundFrame)/\Looks (Mk W) h (keeperOf f) k
theorem nT(e:keepIn W.K f=true):Kp W f:=λh X=>keeps_K e h X
theorem m6{i:Cc}:Kp W (.builtin i):=λh X=>⟨.machine,.inr (.inl rfl),Looks.of_pure rfl⟩
theorem lZ{i:Cc}:Kp W (.type i):=λh X=>⟨.machine,.inr (.inl rfl),Looks.of_pure rfl⟩
theorem XZ{A:Kd}{env:Ub}{Q0:xh Nh->Uh->Prop}{Q:Args->Uh->Prop}(E:og (Mk W) A (spliced (Td pos (Hf es env))) Q0 no s)
  (hn:(Td pos (Hf es env)).any (·.1)=false) (k:∀vs s',Q0 vs s'->Q ⟨vs,[]⟩ s'):og (Mk W) A (evalArgs f true (Td pos (Hf es env)) []) Q no s:=by
 cases q:Td _ _ with
 |nil=>
  rw [q] at E;exact zh (Yh E (λvs s1 z=>zh (Ih (bf (zh (Ih (zh (Ih (Ih (k _ _ z))))))))) λz' z' x=>x)
 |cons p r=>
  obtain⟨b,x⟩:=p;rw [q] at E hn;rw [fe,Bool.or_eq_false_iff] at hn;haveI h:b=false:=hn.1;rw [h] at E⊢;exact evalArgs_plain (Yh E (λvs s' z=>k _ _ z) λz' z' x=>x)
theorem H0{Q:Args->Uh->Prop}(E:VT F U c es as c1)(S:ST F c G s.heap)(hn:(Td pos (Hf es F.env)).any (·.1)=false)
  (k:∀vs s',RA F U c1 G s (λG=>r9 (F9 G) as) vs s'->Q ⟨vs,[]⟩ s'):og (Mk F.W) F.A (evalArgs f true (Td pos (Hf es F.env)) []) Q no s:=XZ (E _ G s S) hn k
theorem N0{first:xh Nh}(j:Kp F.W f)(S:ST F c G s.heap)(i:r9 (F9 G) bs first)(h:∀τ,U τ->U' τ)(k:∀b∈bs,b.keeps U')(E:VT F U' c es as c1)(O:O4 F U c1 (λxs=>call f xs []) (bs++as) a c2)(hn:(Td pos (Hf es F.env)).any (·.1)=false):
  og (Mk F.W) F.A (callWith pos f first (Td pos (Hf es F.env)) []) (RA F U c2 G s λG=>F9 G a) no s:=
 callWith_of (rL hn rfl) j (H0 E S hn λvs s1 z=>z.casesOn λp g e l q=>⟨e.SX,zi (g.weak h) q (O _ _ _ e ((i.mono λx m z' r=>r.mono g (k x m)).append l))⟩)
def LD(F:Fm)(c:Cx)(x:Str)(p:Cf)(f:Nh):Prop:=∀G s,ST F c G s.heap->∀Q:Nh->Uh->Prop,(∀s',s'.heap=s.heap->SS s s'->Q f s')->og (Mk F.W) F.A (bc (.Name x p) F.env) Q no s
theorem D3{p:Cf}(N:LD F c x p f)(hk:Kp F.W f)(E:VT F U c es as c1)(O:O4 F U c1 (λxs=>call f xs []) as a c2)
  (hn:∀env,(Td pos (Hf es env)).any (·.1)=false):Ev F U c (.Call (.Name x p) es [] pos) a c2:=λG s S=>
 Call_Name rfl (N G s S _ λs' hs q=>zi .refl q (N0 hk (hs▸S) .nil (λz' h=>h) (λz' m=>(by nomatch m)) E O (hn _)))
theorem uO{p:Cf}{v:Nh}(e:nsIn F.W.K xf x=some (some v))(hx:F.env.kindOf x=some .globalImplicit)(hd:(x==("__debug__"))=false):LD F c x p v:=λG s S Q k=>
 ga S.fr.st.kind hx (loadGlobal_global (S.fr.st.glob▸F.W.top.g.keeps S.base) (mg_of F.W.SX F.W.top.g e) (k s rfl .refl)) hd
theorem g7{p:Cf}{v:Nh}(e:nsIn F.W.K xf x=some none)(h:Hb x=some v)(hn:x≠"__name__")(hx:F.env.kindOf x=some .globalImplicit)(hd:(x==("__debug__"))=false):LD F c x p v:=λG s S Q k=>
 ga S.fr.st.kind hx (loadGlobal_builtin (S.fr.st.glob▸F.W.top.g.keeps S.base) (mg_none_of F.W.SX F.W.top.g e) (S.fr.st.blt▸F.W.top.b.keeps S.base) ((F.W.top.builtins x hn).trans h) (k s rfl .refl)) hd
def Mt(F:Fm)(c:Cx)(a:AV)(name:Str)(f:Nh):Prop:=∀G s x (pl:ca Kh) (Q:Nh×xh Nh->Uh->Prop),ST F c G s.heap->F9 G a x->Q (f,[x]) s->og (Mk F.W) F.A (getMethod x name pl) Q no s
theorem gT{env:Ub}{n:Mh}(hn:(Td pos (Hf es env)).any (·.1)=false)(hl:n<30):methodCallForm n (Td pos (Hf es env)) []=true:=by
 unfold methodCallForm;haveI:(Td pos (Hf es env)).all (λx=> !x.1)=true:=by
  rw [<-Bool.not_eq_false,<-List.not_any_eq_all_not,hn];decide
 exact rL this (Rh hl)
theorem XN{o:Expr}{e:Cf}(E1:Ev F U c o b c1)(M:Mt F c1 b name f)(l:Kp F.W f)(k:∀τ,U τ->U' τ)(p:b.keeps U')(E:VT F U' c1 es as c2)(O:O4 F U c2 (λxs=>call f xs []) (b::as) a c3)
  (hn:∀env,(Td pos (Hf es env)).any (·.1)=false) (h:∀env,Se o name env (bc o env)=bc o env) (hl:(e.endLine==pos.line)=true) (hz:es.length+0<30):Ev F U c (.Call (.Attribute o name e) es [] pos) a c3:=λG s S=>by
 haveI j:bc (.Call (.Attribute o _ _) _ [] _) _=(do
  let w<-Se o _ _ _
  ma _
  methodCall o name e pos F.env _ (es.length+0) _ []):=rfl
 refine rL j ?_;rw [h];refine zh (E1.bind S λy v s1 g r i q=>zh (Re ?_));unfold methodCall;refine rL (gT (hn _) hz) ?_;refine zh (bf ?_);unfold calleeOf;refine M _ _ v _ _ g r ?_;unfold methodCallPos;exact rL hl (zh (Ih (zi i q (N0 l g (.cons r .nil) k (λx m=>(List.mem_singleton.mp m)▸p) E O (hn _)))))
theorem gR{xs:xh (Mh×AV)}{f:Mh}(e:c.σ τ=some (.inst C xs))(hc:q4 F.W C)(hf:De F.W.K (.ref C) name=some (some (.ref f)))(ht:isFn F.W.K (.ref f)=true)(hx:∀i,i<30->an i≠name):Mt F c (.g9 τ) name (.ref f):=λG s y pl Q S r q=>by
 obtain rfl:y= .ref (G.μ τ):=r;obtain⟨es,m,I⟩:=mZ S.sr e;exact method_fn S.SX I.I hc.get hc.gv hf (beq_iff_eq.mp ht) (by show(lookIn name (dictOf es m)).map _=_;rw [lookIn_dict,Wy I.r hx];rfl) q
variable{fl:Fl}
section
variable{kindOf:Str->Ah zc}
theorem QQ:∀{b:xh (Str×Nh)} {m:Str->Ah Nh},x∉b.map (·.1)->bindL kindOf b m x=m x:=by
 intro b;induction b with
 |nil=>exactλz'=>rfl
 |cons p r i=>
  intro m h;rw [Hg,yd,not_or] at h;unfold bindL;refine rL (i h.2) ?_;split
  ·exact Fh h.1
  ·rfl
theorem RQ:∀{b:xh (Str×Nh)} {m:Str->Ah Nh},x∉b.map (·.1)->bindC kindOf b m x=m x:=by
 intro b;induction b with
 |nil=>exactλz'=>rfl
 |cons p r i=>
  intro m h;rw [Hg,yd,not_or] at h;unfold bindC;refine rL (i h.2) ?_;split
  ·rfl
  ·exact Fh h.1
theorem CW{β:Type}:∀{ps:xh Str} {xs:xh β},x∈(ps.zip xs).map (·.1)->x∈ps:=by
 intro ps;induction ps with
 |nil=>intro xs h;exact h
 |cons p _ i=>
  intro xs h;cases xs with
  |nil=>cases h
  |cons y _=>exact(List.mem_cons.mp h).elim (λe=>e▸ .head _) λh=> .tail _ (i h)
theorem KR{ps:xh Str}{xs:xh Nh}(hn:ps.Nodup)(r:r9 (F9 G) as xs):∀{v},(ps.zip as).lookup x=some v->x∈ps/\∃y,F9 G v y/\(∀m,kindOf x=some .local->bindL kindOf (ps.zip xs) m x=some y)/\∀m,kindOf x≠some .local->bindC kindOf (ps.zip xs) m x=some y:=by
 induction r generalizing ps with
 |nil=>intro v h;rw [List.zip_nil_right] at h;cases h
 | @cons a y _ f r _ i=>
  intro v h;cases ps with
  |nil=>cases h
  |cons p ps=>
   rw [Bd] at hn;rw [Tb,Kg] at h;by_cases q:x=p
   ·rw [q,zg] at h;haveI e:p∉(ps.zip f).map _:=λz=>hn.1 (CW z);refine⟨q▸ .head _,y,Bh h▸r,λm k=> ?_,λm k=> ?_⟩
    ·refine rL Tb (rL q ?_);unfold bindL;refine rL (QQ e) (rL (Lh (q▸k)) ?_);exact Lh rfl
    ·refine rL Tb (rL q ?_);unfold bindC;refine rL (RQ e) (rL (Fh (q▸k)) ?_);exact Lh rfl
   ·rw [yg q] at h;obtain⟨z,w,r,l1,l2⟩:=i hn.2 h;exact⟨.tail _ z,w,r,λm k=>l1 _ k,λm k=>l2 _ k⟩
end
def UF(W:Wd)(fd:ja)(f n:Mh)(A:Kd)(L:Mh):Fm:=⟨W,A,aa fd L f,L::(sa (L+1) fd.scope.names []).map (·.2),n⟩
structure OM(W:Wd)(f:Mh)(fd:ja)(body:xh qf)(ps:xh Str):Prop where
 at_:∃oc od osl,W.K.lookup f=some ⟨oc,od,.func fd,osl⟩
 code:codeIn W.K fd.code fd.qualname=true
 body:fd.body= .stmts body
 glob:fd.globals=xf
 blt:fd.builtins=builtinsNs
 jj:fd.closure=[]
 bind:∀xs:xh Nh,xs.length=ps.length->bindArgs fd ⟨xs,[]⟩=pure (ps.zip xs)
 kind:∀p∈ps,X7 (fd.scope.names.lookup p)=true
 nd:ps.Nodup
 ij:((sa 0 fd.scope.names []).map (·.1)).Nodup
 co:fd.scope.isCoroutine=false
 gen:fd.scope.isGenerator=false
 fn:fd.scope.kind= .function
theorem CV{k:Ah zc}(h:X7 k=true):k=some .local\/k=some .cell:=by
 cases k with
 |none=>cases h
 |some k=>cases k<;>first|exact .inl rfl|exact .inr rfl|cases h
def Gh.drop(G:Gh):Gh:={G with own:=λa=>if(G.own a).any Tg.U9=true then none else G.own a}
theorem SR.drop(S:SR W σ G h):SR W (Ji Tg.U9 σ) G.drop h where
 base:=S.base
 y9:=S.y9
 S7:=S.S7
 fX:=S.fX
 kz:=S.kz
 g9:=λτ x e=>(S.g9 _ x (C6 e).2).mono ⟨λz' z' q=>q,λz' z' q=>⟨q,rfl⟩,λz' z' q=>⟨q,rfl⟩,λz' z'=>rfl⟩ x.V9
 O5:=λτ x a e w q=>S.O5 _ x a (C6 e).2 w q
 own:=λτ x a e w q=>by
  have:=S.own _ x a (C6 e).2 w q;exact(Fh λz=>by rw [this] at z;exact wg ((C6 e).1.symm.trans z)).trans this
 at_:=λa τ e=>by
  haveI e:(if(G.own a).any _=true then none else G.own a)=some τ:=e;split at e
  ·cases e
  ·rename_i n;obtain⟨z,o,r⟩:=S.at_ a _ e
   exact⟨z,o,(aW (Bool.eq_false_iff.mpr λq=>n (rL e q))).trans r.1,r.2⟩
theorem Gr.drop:Gr U G G.drop:=⟨λz' z' q=>q,λz' z' q=>⟨q,rfl⟩,λz' z' q=>⟨q,rfl⟩,λz' z'=>rfl⟩
def Fl.val:Fl->AV
 | .next=> .a9 .none
 | .ret a=>a
theorem PI.val{f:Flow}(r:PI G fl f):F9 G fl.val (match(generalizing:=false) f with| .ret v=>v|_=> .none):=by
 cases fl with
 |next=>refine rL (show f=_ from r) ?_;exact rfl
 |ret a=>obtain⟨v,e,r⟩:=r;refine rL e ?_;exact r
theorem DN{f n:Mh}{fd:ja}{body:xh qf}{ps:xh Str}(D:OM W f fd body ps)(i:as.length=ps.length)
  (E:∀A L,Xs (UF W fd f n A L) U ⟨ps.zip as,σ⟩ body fl c):Fn W U (n+1) (.ref f) as σ fl.val (Ji Tg.U9 c.σ):=λA G s xs K hd Q S r=>by
 obtain⟨V,Y,M,O⟩:=D.at_
 have B:=λb o e=>S.y9 b o (.inl (S.base b o e));haveI X:=W.SX.keeps B;refine codeAny_call_cells (dg (eg (Qh _ _) hd) (show 900<=recursionLimit by decide)) (X _ _ O) rfl (W.top.nolimit.keeps B) (codeRec_of X D.code) D.body (D.bind xs (r.length▸i)) D.jj (λx hx=>(CV (D.kind _ (CW (Mb hx)))).imp id λk=>⟨k,cellsFrom_some _ _ _ (.inl k)⟩) ?_ D.co D.gen D.fn;intro s1 x;have H:∀y c,(aa fd s.heap.objs.size f).cells.lookup y=some c->c∈((sa _ _ []).map (·.2)):=λy c e=>List.mem_map.mpr ⟨(y,c),mem_of_lookup e,rfl⟩;have fs:FS (UF W _ f n (A.deeper (aa fd s.heap.objs.size f)) _):=
  ⟨D.fn,D.glob,D.blt,K,(by show A.depth+1+2*n<900;rw [Gg];exact Oc hd),(by show A.units+3+20*n<9000;rw [Gg];exact eg (Sh (by decide:3<=20) _) Q),λa b c g P=>name_of_addr x.apart (mem_of_lookup g) (mem_of_lookup P),λa c g=>we (x.above a c (mem_of_lookup g)),.head _,
   λa h=>(List.mem_cons.mp h).imp id λh=>by
    obtain⟨⟨y,c⟩,hm,rfl⟩:=List.mem_map.mp h;exact⟨y,lookup_of_mem_nodup (cellsFrom_names _ 0 _ [] [] rfl▸D.ij) hm⟩,
   λz' a c g=> .tail _ (H a c g),λa g=>Option.isSome_iff_exists.mp (cellsFrom_some _ _ _ (.inl g))⟩
 haveI j:∀a,s.heap.objs.size<=a->¬G.has a:=λa h=>S.fresh h;have p:∀a∈((sa (s.heap.objs.size+1) fd.scope.names []).map (·.2)),¬G.has a:=λa h=>by
  obtain⟨⟨y,c⟩,hm,rfl⟩:=List.mem_map.mp h;exact j c (lf (x.above y c hm))
 have m:ST (UF W fd f n (A.deeper (aa fd s.heap.objs.size f)) s.heap.objs.size) ⟨ps.zip as,σ⟩ G s1.heap:=by
  refine⟨S.keeps x.toInCall.keep,fs,⟨_,x.toInCall.ns,λy v e k=> ?_⟩,λy v e k=> ?_,λy c e=>⟨_,x.cell y c e⟩,λa h=> ?_,λy c e=>⟨(G.v8 (p c (H y c e))).1,.inl (fs.Vq rfl y c e)⟩⟩
  ·obtain⟨_,z,l,l1,_⟩:=KR D.nd r e;exact⟨z,l1 _ k,l⟩
  ·obtain⟨hp,z,l,_,l2⟩:=KR (kindOf:=(aa _ _ f).kindOf) D.nd r e;have w:(aa _ s.heap.objs.size f).kindOf y=some .cell:=(CV (D.kind y hp)).elim (λq=>by
    haveI k:fd.scope.names.lookup y=some .cell\/fd.scope.names.lookup y=some .free:=k;rw [q] at k;rcases k with k|k<;>cases k) id
   obtain⟨c,I⟩:=fs.HR y w;exact⟨c,z,I,l2 _ (by refine rL w ?_;intro z;cases z)▸x.cell y c I,l⟩
  ·exact(List.mem_cons.mp h).elim (λe=>e▸j _ (Oh _)) (p a)
 refine Yh (E _ _ G _ m) (λf z' z=>z.casesOn λG' e N T q=> ?_) λz' z' x=>x.elim;obtain⟨J,tk,es⟩:=x.toInCall.same;exact⟨G'.drop,_,rfl,e.trans .drop,N.sr.drop,T.val.mono .drop AV.V9,SS.trans (es▸SS.heap _ _) q⟩
variable{vs:xh AV}{t:Kh}{d e:Jh}{ds:xh Jh}{i j:Dh}
theorem FX{f:Nh->Nh->ca Nh}(k:∀G s t g,ST F c G s.heap->og (Mk F.W) F.A (f (.int i t) (.int j g)) (RA F U c G s λG=>F9 G (.a9 d)) no s):Q5 F U c f (.a9 (.int i)) (.a9 (.int j)) (.a9 d) c:=λG s x y S r l=>by
 obtain⟨t,e1⟩:=r;obtain⟨g,e⟩:=l;refine rL e1 (rL e ?_);exact k G s _ _ S
theorem RA.int(S:ST F c G s.heap){i:Dh}{n m:Mh}:RA F U c G s (λG=>F9 G (.a9 (.int i))) (.int i n) {s with toks:=m}:= .here S ⟨_,rfl⟩ (SS.heap _ _)
theorem MB:Q5 F U c (yc .Add) (.a9 (.int i)) (.a9 (.int j)) (.a9 (.int (i+j))) c:=FX λz' z' z' z' S=>PyProof.Rows.add_int (.int S)
theorem xB:Q5 F U c (yc .Sub) (.a9 (.int i)) (.a9 (.int j)) (.a9 (.int (i-j))) c:=FX λz' z' z' z' S=>PyProof.Rows.sub_int (.int S)
theorem CB(hm:IntMulOk i j):Q5 F U c (yc .Mult) (.a9 (.int i)) (.a9 (.int j)) (.a9 (.int (i*j))) c:=FX λz' z' z' z' S=>PyProof.Rows.mul_int (.int S) hm
theorem DB(h:0<j):Q5 F U c (yc .Mod) (.a9 (.int i)) (.a9 (.int j)) (.a9 (.int (i%j))) c:=FX λz' z' z' z' S=>PyProof.Rows.mod_int (Int.ne_of_gt h) (Int.fmod_eq_emod_of_nonneg _ (Ge h)▸ .int S)
theorem LB(h:0<j)(hp:Ha i j=false):Q5 F U c (yc .FloorDiv) (.a9 (.int i)) (.a9 (.int j)) (.a9 (.int (i/j))) c:=FX λz' z' z' z' S=>PyProof.Rows.floordiv_int (Int.ne_of_gt h) (Int.fdiv_eq_ediv_of_nonneg _ (Ge h)▸ .int S) (.inl hp)
theorem BB:Sx F U c (unaryOp .USub) (.a9 (.int i)) (.a9 (.int (-i))) c:=λG s x S r=>by obtain⟨t,e1⟩:=r;refine rL e1 ?_;exact PyProof.Rows.neg_int (.int S)
theorem RA.bool(S:ST F c G s.heap){b:Kh}:RA F U c G s (λG=>F9 G (.a9 (.bool b))) (.bool b) s:= .here S rfl .refl
theorem Vw:Q5 F U c (Jf .Lt) (.a9 (.int i)) (.a9 (.int j)) (.a9 (.bool (decide (i<j)))) c:=FX λz' z' z' z' S=>PyProof.Rows.lt_int (.bool S)
theorem Yw:Q5 F U c (Jf .Gt) (.a9 (.int i)) (.a9 (.int j)) (.a9 (.bool (decide (j<i)))) c:=FX λz' z' z' z' S=>PyProof.Rows.gt_int (.bool S)
theorem Ww:Q5 F U c (Jf .LtE) (.a9 (.int i)) (.a9 (.int j)) (.a9 (.bool (decide (i<=j)))) c:=FX λz' z' z' z' S=>PyProof.Rows.le_int (.bool S)
theorem Zw:Q5 F U c (Jf .GtE) (.a9 (.int i)) (.a9 (.int j)) (.a9 (.bool (decide (j<=i)))) c:=FX λz' z' z' z' S=>PyProof.Rows.ge_int (.bool S)
def isNone:Jh->Kh
 | .none=>true
 |_=>false
theorem DR.isNone{P:Mh->Ah He}{v:Nh}(r:DR P d v):(v==Value.none)=isNone d:=by
 cases d with
 |none=>refine rL (show v=_ from r) ?_;rfl
 |bool b=>refine rL (show v=_ from r) ?_;rfl
 |int i=>obtain⟨t,e⟩:=r;refine rL e ?_;rfl
 |str i=>obtain⟨_,t,e⟩:=r;refine rL e ?_;rfl
 |tuple i=>obtain⟨_,_,_,e,_⟩:=r;refine rL e ?_;rfl
 |list i=>obtain⟨_,_,_,e,_⟩:=r;refine rL e ?_;rfl
 |dict i=>exact r.elim
theorem Xw:Q5 F U c (Jf .Is) (.a9 d) (.a9 .none) (.a9 (.bool (isNone d))) c:=λG s x y S r f=>by
 obtain rfl:y= .none:=f;exact is_none (DR.isNone r▸ .bool S)
theorem gK:Q5 F U c (Jf .IsNot) (.a9 d) (.a9 .none) (.a9 (.bool (!isNone d))) c:=λG s x y S r f=>by
 obtain rfl:y= .none:=f;exact isNot_none (DR.isNone r▸ .bool S)
theorem DR.reads{P:Mh->Ah He}(hp:∀a o,P a=some o->h.get? a=some o)(d:Jh):∀v,DR P d v->∃as,Reads h v d as:=
 PyData.rec (motive_2:=λd=>∀v,F3 P d v->∃as,ReadsAll h v d as) (motive_3:=λz'=>True) (motive_4:=λz'=>True)
  (λv r=>(r)▸⟨_,.none⟩) (λb v r=>(r)▸⟨_,.bool b⟩) (λi v r=>r.elim λt e=>e▸⟨_,.int i t⟩) (λi v r=>r.2.elim λt e=>e▸⟨_,.str i t⟩)
  (λz' f v r=>r.elim λa r=>r.elim λis r=>r.elim λn r=>(f _ r.2.2).elim λas z=>r.1▸⟨_,.list (hp _ _ r.2.1) rfl rfl z⟩)
  (λz' f v r=>r.elim λa r=>r.elim λis r=>r.elim λn r=>(f _ r.2.2).elim λas z=>r.1▸⟨_,.tuple (hp _ _ r.2.1) rfl rfl z⟩) (λz' z' z' r=>r.elim)
  (λv r=>(r)▸⟨_,.nil⟩) (λz' z' g k v r=>r.elim λy r=>r.elim λl r=>(g _ r.2.1).elim λas x=>(k _ r.2.2).elim λbs z=>r.1▸⟨_,.cons x z⟩) trivial (λz' z' z' z'=>trivial) (λz' z' z' z'=>trivial) d
def lay(d:Jh):Kh:=d.canLay0&&decide (d.depth<=8)
theorem q8(h:lay d=true):d.canLay0=true/\d.depth<=8:=by
 unfold lay at h;rw [gg,decide_eq_true_eq] at h;exact h
theorem ST.room(S:ST F c G h){n:Mh}(hn:n<=64):F.A.units+n<cLine:=dg (Dc (eg (Qh _ _) S.fr.st.units) hn) (by decide)
theorem ST.VJ(S:ST F c G h){a b:Mh}(q:a<=8):F.A.units+min a b<cLine:=eg (Sh (vh (Nat.min_le_left a b) q) _) (S.room (by decide))
theorem ST.wS(S:ST F c G h){a b:Mh}(q:b<=8):F.A.units+1+min a b<cLine:=eg (vh (Sh (vh (Nat.min_le_right a b) q) _) (Ph (Wg ..))) (S.room (by decide))
def Ls(σ:Tg->Ah d9)(a:AV)(vs:xh AV):Prop:=(∃ds,a= .a9 (.list ds)/\vs=ds.map .a9)\/∃τ w,a= .g9 τ/\σ τ=some (.list w vs)
theorem W7{v:Nh}(S:SR W σ G h)(hl:Ls σ a vs)(r:F9 G a v):∃y items n,v= .ref y/\h.get? y=some (listOf items n)/\r9 (F9 G) vs items.toList:=
 hl.elim (λq=>q.elim λds q=>by
  rw [q.1] at r;exact q.2▸r.imp λy r=>r.imp λitems r=>r.imp λn r=>⟨r.1,S.y9 _ _ (.inl r.2.1),r.2.2.M6⟩) λq=>q.elim λτ q=>q.elim λw q=>⟨_,(S.g9 _ _ q.2).imp λitems z=>z.imp λn z=>⟨show v= .ref _ by rw [q.1] at r;exact r,z⟩⟩
theorem U8{y:Mh}{items:gf Nh}{n:Mh}(e:h.get? y=some (listOf items n)):h.IsList y items:=⟨_,e,rfl,n,rfl⟩
theorem F3.reads{P:Mh->Ah He}(hp:∀a o,P a=some o->h.get? a=some o){ds:xh Jh}:∀{vs},F3 P ds vs->∃as,ReadsAll h vs ds as:=by
 induction ds with
 |nil=>intro vs r;exact(r)▸⟨_,.nil⟩
 |cons d _ i=>intro vs r;exact r.elim λy r=>r.elim λf r=>(DR.reads hp d _ r.2.1).elim λas x=>(i r.2.2).elim λbs z=>r.1▸⟨_,.cons x z⟩
theorem HZ{v:Nh}(S:SR W σ G h)(hl:Ls σ a (ds.map .a9))(r:F9 G a v):∃as,Reads h v (.list ds) as:=by
 obtain⟨y,items,n,e,g,q⟩:=W7 S hl r;obtain⟨as,z⟩:=F3.reads (λa o e=>S.y9 a o (.inl e)) q.M6;refine rL e ?_;exact⟨_,.list g rfl rfl z⟩
def Dv(σ:Tg->Ah d9)(a:AV)(d:Jh):Prop:=a= .a9 d\/∃ds,d= .list ds/\Ls σ a (ds.map .a9)
theorem P2{v:Nh}(S:SR W σ G h)(q:Dv σ a d)(r:F9 G a v):∃as,Reads h v d as:=
 q.elim (λe=>DR.reads (λa o e=>S.y9 a o (.inl e)) d v (show F9 G (.a9 d) v from e▸r)) λq=>q.elim λds q=>q.1▸HZ S q.2 r
theorem av{e:Jh}(hd:lay d=true)(h:lay e=true)(g:Dv c.σ a d)(k:Dv c.σ b e):Q5 F U c (Jf .Eq) a b (.a9 (.bool (yf d e))) c:=λG s x y S r f=>by
 obtain⟨as,p⟩:=P2 S.sr g r;obtain⟨bs,q⟩:=P2 S.sr k f;exact compareEq_reads p q (q8 hd).1 (q8 h).1 (S.VJ (q8 hd).2) (.bool S)
theorem Uw{e:Jh}(hd:lay d=true)(h:lay e=true)(g:Dv c.σ a d)(k:Dv c.σ b e):Q5 F U c (Jf .NotEq) a b (.a9 (.bool (!yf d e))) c:=λG s x y S r f=>by
 obtain⟨as,p⟩:=P2 S.sr g r;obtain⟨bs,q⟩:=P2 S.sr k f;exact compareNe_reads p q (q8 hd).1 (q8 h).1 (S.VJ (q8 hd).2) (.bool S)
theorem tV(h:lay (.list ds)=true):re ds=true:=by
 have:=(q8 h).1;exact this
theorem WS(h:lay (.tuple ds)=true):re ds=true:=by
 have:=(q8 h).1;exact this
theorem JB(hd:lay (.list ds)=true)(h:lay e=true)(hl:Ls c.σ b (ds.map .a9)):Q5 F U c (Jf .In) (.a9 e) b (.a9 (.bool (ds.any λy=>yf y e))) c:=λG s x y S r f=>by
 obtain⟨as,p⟩:=DR.reads (λa o e=>S.sr.y9 a o (.inl e)) e x r;obtain⟨bs,q⟩:=HZ S.sr hl f;exact in_list_reads q p (tV hd) (q8 h).1 (S.wS (q8 h).2) (.bool S)
theorem HS(hd:lay (.list ds)=true)(h:lay e=true)(hl:Ls c.σ b (ds.map .a9)):Q5 F U c (Jf .NotIn) (.a9 e) b (.a9 (.bool (!ds.any λy=>yf y e))) c:=λG s x y S r f=>by
 obtain⟨as,p⟩:=DR.reads (λa o e=>S.sr.y9 a o (.inl e)) e x r;obtain⟨bs,q⟩:=HZ S.sr hl f;exact notIn_list_reads q p (tV hd) (q8 h).1 (S.wS (q8 h).2) (.bool S)
theorem gO(hd:lay (.tuple ds)=true)(h:lay e=true):Q5 F U c (Jf .In) (.a9 e) (.a9 (.tuple ds)) (.a9 (.bool (ds.any λy=>yf y e))) c:=λG s x y S r f=>by
 obtain⟨as,p⟩:=DR.reads (λa o e=>S.sr.y9 a o (.inl e)) e x r;obtain⟨bs,q⟩:=DR.reads (λa o e=>S.sr.y9 a o (.inl e)) _ y f;exact in_tuple_reads q p (WS hd) (q8 h).1 (S.wS (q8 h).2) (.bool S)
theorem kV(hd:lay (.tuple ds)=true)(h:lay e=true):Q5 F U c (Jf .NotIn) (.a9 e) (.a9 (.tuple ds)) (.a9 (.bool (!ds.any λy=>yf y e))) c:=λG s x y S r f=>by
 obtain⟨as,p⟩:=DR.reads (λa o e=>S.sr.y9 a o (.inl e)) e x r;obtain⟨bs,q⟩:=DR.reads (λa o e=>S.sr.y9 a o (.inl e)) _ y f;exact notIn_tuple_reads q p (WS hd) (q8 h).1 (S.wS (q8 h).2) (.bool S)
theorem Ai{items:gf Nh}{j:Mh}(r:r9 (F9 G) vs items.toList)(e:vs[j]? =some a):∃y,items[j]? =some y/\F9 G a y:=by
 haveI q:=r.get j;rw [e,jf] at q;cases z:items[j]? with
 |none=>rw [z] at q;exact q.elim
 |some y=>rw [z] at q;exact⟨y,rfl,q⟩
def H8{β:Type}(k:Dh)(vs:xh β):Ah β:=if 0<=k then vs[k.toNat]? else if k= -1 then vs[vs.length-1]? else none
theorem HB{o i:Expr}{k:Dh}(hl:Ls c.σ a vs)(hx:H8 k vs=some b)(hz:vs.length<=1000000)(hs:∀a k t,xc i false (.ref a) (.int k t)=Za [.ref a,.int k t] (getItem (.ref a) (.int k t))):Q5 F U c (uc o i) a (.a9 (.int k)) b c:=λG s x y S p w=>by
 obtain⟨tk,rfl⟩:=w;obtain⟨z,items,n,rfl,g,q⟩:=W7 S.sr hl p;have hl:=U8 g;haveI h:=q.length.trans qg;refine tail_any hl.typeIs slot_list_getitem.lookup ?_ (hs _ _ _);unfold H8 at hx;by_cases l:0<=k
 ·rw [Lh l] at hx;obtain⟨v,f,r⟩:=Ai q hx;have m:=(Array.getElem?_eq_some_iff.mp f).1;exact wpAny_getItem_list hl l (wc l▸Ny (vh (lf m) (h▸hz))) f (.here S r .refl)
 ·rw [Fh l] at hx;by_cases e:k= -1
  ·rw [Lh e] at hx;obtain⟨v,f,r⟩:=Ai q hx;refine wpAny_getItem_list_neg hl (Int.not_le.mp l) (rL e (Int.neg_le_neg (Int.ofNat_le.mpr (eg (ng _) ((Array.getElem?_eq_some_iff.mp f).1))))) (by refine rL e ?_;decide) ?_ (.here S r .refl);refine rL e ?_;rw [<-h,IU];exact f
  ·rw [Fh e] at hx;cases hx
theorem eO{o i:Expr}{j:Mh}{k:Dh}(f:seqIndex? k (ds.map AV.a9).length=some j)(hx:(ds.map AV.a9)[j]? =some b)(h: -1000<=k/\k<=1000)(hs:∀a k t,xc i false (.ref a) (.int k t)=Za [.ref a,.int k t] (getItem (.ref a) (.int k t))):Q5 F U c (uc o i) (.a9 (.tuple ds)) (.a9 (.int k)) b c:=λG s x y S l m=>by
 obtain⟨z,items,rfl,n,q⟩:=wP S l;obtain⟨tk,rfl⟩:=m;obtain⟨v,g,r⟩:=Ai q hx;exact item_tupleT (show IsTup _ z _ by exact n) (Vd (by decide) h.1) (Rf h.2 (by decide)) (q.length▸f) (jf▸g) (.here S r .refl) (hs _ _ _)
theorem aI(hl:Ls c.σ a vs)(hz:vs.length<=1000000):O4 F U c (λxs=>call (.builtin "len") xs []) [a] (.a9 (.int vs.length)) c:=λG s z' S r=>by
 obtain⟨x,y,rfl,f,r⟩:=r.cons_inv;obtain rfl:=r.nil_inv;obtain⟨z,items,n,rfl,g,q⟩:=W7 S.sr hl f;haveI h:=q.length.trans qg;refine call_len_list (U8 g) (Ny (h▸hz)) ?_;exact h▸ .int S
theorem ZU(hl:Ls c.σ a (ds.map .a9)){es:xh Jh}(h:Ls c.σ b (es.map .a9))(hz:(ds++es).length<=1000000):Q5 F U c (yc .Add) a b (.a9 (.list (ds++es))) c:=λG s x y S r v=>by
 obtain⟨z,items,n,rfl,g,q⟩:=W7 S.sr hl r;obtain⟨A,i,n2,rfl,w,k⟩:=W7 S.sr h v;haveI l:(ds++es).length=items.size+i.size:=by refine rL Ch ?_;exact congr (yh _ (q.length▸Eh _).symm) (k.length▸Eh _).symm
 refine P.add_list g w ?_ (O9 (l▸vh hz (by decide)));obtain⟨f,m,p⟩:=S.data (ob:=listOf _ 0) rfl;exact⟨_,f,m,⟨_,_,_,rfl,p,F3.mono f.p (rL ud (.of (q.M6.all.append k.M6.all)))⟩,rfl,rfl,rfl⟩
theorem pQ{es:xh Jh}(h:ds≠[])(v:es≠[])(hz:(ds++es).length<=1000):Q5 F U c (yc .Add) (.a9 (.tuple ds)) (.a9 (.tuple es)) (.a9 (.tuple (ds++es))) c:=λG s x y S r f=>by
 obtain⟨a,items,n,rfl,p,r⟩:=r;obtain⟨w,i,n2,rfl,k,f⟩:=f;have l1:=r.all.length.trans qg;have l2:=f.all.length.trans qg;refine P.add_tuple (S.sr.y9 _ _ (.inl p)) (S.sr.y9 _ _ (.inl k)) (λq=>h (ic (l1.trans (Array.isEmpty_iff_size_eq_zero.mp q)))) (λq=>v (ic (l2.trans (Array.isEmpty_iff_size_eq_zero.mp q)))) ?_ (O9 (rR l1 (rR l2 (vh (Ch▸hz) (by decide)))));obtain⟨g,l,m⟩:=S.data (ob:=r7 _ 0) rfl;exact⟨_,g,l,⟨_,_,_,rfl,m,F3.mono g.p (rL ud (.of (r.all.append f.all)))⟩,rfl,rfl,rfl⟩
end
section
variable{α:Type}{c c1 c2 c3 c4:Cx}{F:Fm}{W:Wd}{σ:Tg->Ah d9}{G:Gh}{h h':Pf}{τ:Tg}{o o':d9}{U U' U'':Tg->Prop}{s:Uh}{a b r:AV}{R:Gh->α->Prop}{t u:Kh}{x:Str}{pos:Cf}{d e:Jh}{i j k:Dh}{f:Dh->Ah AV}
section
variable{α β K:Type}[xg K]{R:α->β->Prop}
theorem N7.some_of{x:Ah α}{y:Ah β}{a:α}(q:N7 R x y)(e:x=some a):∃v,y=some v/\R a v:=by
 rw [e] at q;cases y with
 |none=>exact q.elim
 |some v=>exact⟨v,rfl,q⟩
theorem N7.isSome{x:Ah α}{y:Ah β}(q:N7 R x y):y.isSome=x.isSome:=by
 cases x with
 |none=>cases y with
  |none=>rfl
  |some v=>exact q.elim
 |some a=>obtain⟨v,e,_⟩:=q.some_of rfl;refine rL e ?_;rfl
theorem U3{R:α->Nh->Prop}{f:K->Ah α}{kvs:xh (K×Nh)}{k:K}{u:α}{v:Nh}(g:∀k,N7 R (f k) (mf kvs k))(r:R u v)(x:K):N7 R (f9 f k u x) (mf (stored kvs k v) x):=by
 refine rL a6 ?_;unfold f9;by_cases h:x=k
 ·refine rL (Lh h) (rL (Lh h) ?_);exact r
 ·refine rL (Fh h) (rL (Fh h) ?_);exact g x
theorem gV{R:α->Nh->Prop}{f:K->Ah α}{kvs:xh (K×Nh)}{k:K}(g:∀k,N7 R (f k) (mf kvs k))(x:K):N7 R (H9 f k x) (mf (without kvs k) x):=by
 refine rL V0 ?_;unfold H9;by_cases h:x=k
 ·refine rL (Lh h) (rL (Lh h) ?_);trivial
 ·refine rL (Fh h) (rL (Fh h) ?_);exact g x
theorem K7{R:α->Nh->Prop}{f:K->Ah α}{kvs:xh (K×Nh)}(l:Wr f)(hn:(kvs.map (·.1)).Nodup)(n:∀k,N7 R (f k) (mf kvs k)):kvs.length<=1000000:=by
 obtain⟨L,h,hl⟩:=l;refine vh (vh (Ph (Eh _).symm) (Qb hn λk m=>h k ?_)) hl;obtain⟨p,hp,e⟩:=List.mem_map.mp m;obtain⟨v,g⟩:=i5 (List.any_eq_true.mpr ⟨p,hp,Rh e⟩);refine rR ((n k).isSome) (rL g ?_);rfl
theorem r6{prog:We}{w:Gc}{knd:KeyKind prog w K}{a:Mh}{kvs:xh (K×Nh)}(x:h.DictOf knd a kvs):(kvs.map (·.1)).Nodup:=x.elim λz' q=>q.elim λz' q=>q.elim λz' q=>q.2.2.2.2.2
end
theorem tX{l:Type}{f:Dh->Ah l}(h:∀t,(f t).isSome=true->f7 t=true):Wr f:=
 ⟨Mi 500,λk g=>by
  have:=h k g;unfold f7 at this;rw [gg,decide_eq_true_eq,decide_eq_true_eq] at this;exact List.mem_map.mpr ⟨k.toNat,List.mem_range.mpr ((Int.toNat_lt this.1).mpr this.2),wc this.1⟩,by decide⟩
theorem NP{g:Type}{f:Str->Ah g}(h:∀t,(f t).isSome=true->t∈SK):Wr f:=⟨SK,h,by decide⟩
section
variable{α K:Type}[xg K]{R:K->Prop}{f:K->Ah α}{k:K}{u:α}
theorem T6(h:∀t,(f t).isSome=true->R t)(r:R k)(t:K)(q:(f9 f k u t).isSome=true):R t:=by
 unfold f9 at q;split at q
 ·rename_i e;refine rL e ?_;exact r
 ·exact h t q
theorem xV(h:∀t,(f t).isSome=true->R t)(t:K)(q:(H9 f k t).isSome=true):R t:=by
 unfold H9 at q;split at q
 ·cases q
 ·exact h t q
end
def lk(l:xh (Dh×AV))(k:Dh):Ah AV:=(l.find? λp=>p.1=k).map (·.2)
def Vi:d9->Ah (Dh->Ah AV)
 | .p9 _ f=>some f
 | .M9 _ l=>some (lk l)
 |_=>none
theorem yA{l:xh (Dh×AV)}{kvs:xh (Dh×Nh)}(r:r9 (λx y=>x.1=y.1/\F9 G x.2 y.2) l kvs)(k:Dh):N7 (F9 G) (lk l k) (mf kvs k):=by
 unfold lk mf;induction r with
 |nil=>trivial
 |cons r _ i=>
  refine rL (te) (rL (te) (rR r.1 ?_));split
  ·exact r.2
  ·exact i
theorem zR(S:SR W σ G h)(e:σ τ=some o)(g:Vi o=some f):∃kvs,h.DictOf (Hc W.prog W.w) (G.μ τ) kvs/\∀k,N7 (F9 G) (f k) (mf kvs k):=by
 have r:=S.g9 _ o e;cases o with
 |p9 w f=>cases g;exact r.imp λkvs q=>⟨q.1,q.2.1⟩
 |M9 w l=>cases g;exact r.imp λkvs q=>⟨q.1,λk=>yA q.2 k⟩
 |_=>cases g
theorem SR.bT(S:SR W σ G h)(e:σ τ=some o)(hw:o.wr=true\/Nd<G.μ τ)(g:o.ad (G.μ τ) (G.μ τ)):(G.μ τ==sysModules)=false:=by
 have:=hw.elim (λw=>(S.at_ _ _ (S.own _ o _ e w g)).1.2.2.2) id;exact yg λz=>absurd (this) (by refine rL z ?_;decide)
theorem ii(k:Dh)(t:Tok):(Hc W.prog W.w).is k (.int k t)=true:=zg k
theorem mO{o' i:Expr}(e:c.σ τ=some o)(h:Vi o=some f)(hx:f k=some a)(hs:∀a k t,xc i false (.ref a) (.int k t)=Za [.ref a,.int k t] (getItem (.ref a) (.int k t))):Q5 F U c (uc o' i) (.g9 τ) (.a9 (.int k)) a c:=λG s x y S r n=>by
 obtain rfl:x= .ref _:=r;obtain⟨tk,rfl⟩:=n;obtain⟨kvs,hd,g⟩:=zR S.sr e h;obtain⟨v,l,m⟩:=(g k).some_of hx;exact tail_any hd.mapOf.typeIs slot_dict_getitem.lookup (wpAny_getItem_of (ii k _) hd.mapOf l (.here S m (SS.heap _ _))) (hs _ _ _)
theorem bI(e:c.σ τ=some o)(g:Vi o=some f)(hm:∀G h,SR F.W c.σ G h->(G.μ τ==sysModules)=false):Q5 F U c (Jf .In) (.a9 (.int k)) (.g9 τ) (.a9 (.bool (f k).isSome)) c:=λG s x y S r m=>by
 obtain rfl:y= .ref _:=m;obtain⟨tk,rfl⟩:=r;obtain⟨kvs,hd,l⟩:=zR S.sr e g;exact wpAny_in_of (ii k _) (hm G _ S.sr) hd.mapOf ((l k).isSome▸ .here S rfl (SS.heap _ _))
theorem mV(e:c.σ τ=some o)(g:Vi o=some f)(hm:∀G h,SR F.W c.σ G h->(G.μ τ==sysModules)=false):Q5 F U c (Jf .NotIn) (.a9 (.int k)) (.g9 τ) (.a9 (.bool (!(f k).isSome))) c:=λG s x y S r m=>by
 obtain rfl:y= .ref _:=m;obtain⟨tk,rfl⟩:=r;obtain⟨kvs,hd,l⟩:=zR S.sr e g;exact wpAny_notIn_of (ii k _) (hm G _ S.sr) hd.mapOf ((l k).isSome▸ .here S rfl (SS.heap _ _))
theorem qG{o' i:Expr}{f:Str->Ah AV}{k:Str}(e:c.σ τ=some (.s8 f))(hx:f k=some a)(hs:∀a k t,xc i false (.ref a) (.str k t)=Za [.ref a,.str k t] (getItem (.ref a) (.str k t))):Q5 F U c (uc o' i) (.g9 τ) (.a9 (.str k)) a c:=λG s x y S r m=>by
 obtain rfl:x= .ref _:=r;obtain⟨_,tk,rfl⟩:=m;obtain⟨kvs,hd,h,_⟩:=S.sr.g9 _ _ e;obtain⟨v,g,l⟩:=(h k).some_of hx;exact tail_any hd.mapOf.typeIs slot_dict_getitem.lookup (wpAny_getItem_of (by exact zg k) hd.mapOf g (.here S l (SS.heap _ _))) (hs _ _ _)
def KD(F:Fm)(U:Tg->Prop)(c:Cx)(f:Nh->Nh->ca Ib)(a b:AV)(c':Cx):Prop:=∀G s x y,ST F c G s.heap->F9 G a x->F9 G b y->og (Mk F.W) F.A (f x y) (RA F U c' G s λz' z'=>True) no s
def cL(F:Fm)(U:Tg->Prop)(c:Cx)(f:Nh->Nh->Nh->ca Ib)(a b d:AV)(c':Cx):Prop:=∀G s x y z,ST F c G s.heap->F9 G a x->F9 G b y->F9 G d z->og (Mk F.W) F.A (f x y z) (RA F U c' G s λz' z'=>True) no s
theorem RA.upd{l:Type}{R:Gh->l->Prop}{v:l}{tk:Mh}(S:ST F c G s.heap)(e:c.σ τ=some o)(hw:o.wr=true)(g:o'.wr=true)(p:∀a,o'.ad (G.μ τ) a↔a=G.μ τ)(h:∀a,o.ad (G.μ τ) a↔a=G.μ τ)(hs:Sf (G.μ τ) s.heap h')(r:OR F.W G h' (G.μ τ) o')(q:R G v):
  RA F U ⟨c.ρ,up c.σ τ o'⟩ G s R v {s with heap:=h',toks:=tk}:=
 ⟨G,.refl,S.upd e hw g (λa=>(p a).trans (h a).symm) (λa n=>hs.2 a λz=>n (z▸S.sr.own _ o _ e hw ((h _).mpr rfl))) r,q,SS.heap _ _⟩
theorem uG(e:c.σ τ=some (.p9 true f))(p:f7 k=true):cL F U c Zc (.g9 τ) (.a9 (.int k)) a ⟨c.ρ,up c.σ τ (.p9 true (f9 f k a))⟩:=λG s x y z S m n r=>by
 obtain rfl:x= .ref _:=m;obtain⟨tk,rfl⟩:=n;obtain⟨kvs,hd,l,g⟩:=S.sr.g9 _ _ e;exact Gd (ii k _) hd (λh' h hs=> .upd S e rfl rfl (λz'=>Sg) (λz'=>Sg) hs ⟨_,h,U3 l r,T6 g p⟩ trivial) (O9 (vh (K7 (tX g) (r6 hd) l) (by decide)))
def R6(l:xh (Dh×AV))(k:Dh)(v:AV):xh (Dh×AV):=if l.any (λp=>decide (p.1=k)) then l.map (λp=>if p.1=k then(p.1,v) else p) else l++[(k,v)]
theorem QS{l:xh (Dh×AV)}{kvs:xh (Dh×Nh)}(r:r9 (λx y=>x.1=y.1/\F9 G x.2 y.2) l kvs){v:Nh}(q:F9 G a v):r9 (λx y=>x.1=y.1/\F9 G x.2 y.2) (R6 l k a) (stored kvs k v):=by
 haveI e:l.any (λp=>decide (p.1=k))=kvs.any (λp=>decide (p.1=k)):=by
  induction r with
  |nil=>rfl
  |cons r _ i=>rw [fe,fe,r.1,i]
 unfold R6 stored;refine rL e ?_;split
 ·rename_i m;clear e m;induction r with
  |nil=>exact .nil
  | @cons p y _ _ r _ i=>
   refine .cons ?_ i;show(if p.1=k then(p.1,a) else p).1=(if y.1=k then(y.1,v) else y).1/\F9 G (if p.1=k then(p.1,a) else p).2 (if y.1=k then(y.1,v) else y).2;by_cases z:p.1=k
   ·refine rL (Lh z) (rL (Lh (r.1▸z)) ?_);exact⟨r.1,q⟩
   ·refine rL (Fh z) (rL (Fh (r.1▸z)) ?_);exact r
 ·exact r.append (.cons ⟨rfl,q⟩ .nil)
theorem sG{l:xh (Dh×AV)}(e:c.σ τ=some (.M9 true l))(hz:l.length<=1000000):cL F U c Zc (.g9 τ) (.a9 (.int k)) a ⟨c.ρ,up c.σ τ (.M9 true (R6 l k a))⟩:=λG s x y z S m n r=>by
 obtain rfl:x= .ref _:=m;obtain⟨tk,rfl⟩:=n;obtain⟨kvs,hd,g⟩:=S.sr.g9 _ _ e;exact Gd (ii k _) hd (λh' h hs=> .upd S e rfl rfl (λz'=>Sg) (λz'=>Sg) hs ⟨_,h,QS g r⟩ trivial) (O9 (vh (T4 g hz) (by decide)))
theorem pG{f:Str->Ah AV}{k:Str}(e:c.σ τ=some (.s8 f))(p:k∈SK):cL F U c Zc (.g9 τ) (.a9 (.str k)) a ⟨c.ρ,up c.σ τ (.s8 (f9 f k a))⟩:=λG s x y z S m n r=>by
 obtain rfl:x= .ref _:=m;obtain⟨_,tk,rfl⟩:=n;obtain⟨kvs,hd,l,g⟩:=S.sr.g9 _ _ e;exact Gd (by exact zg k) hd (λh' h hs=> .upd S e rfl rfl (λz'=>Sg) (λz'=>Sg) hs ⟨_,h,U3 l r,T6 g p⟩ trivial) (O9 (vh (K7 (NP g) (r6 hd) l) (by decide)))
theorem vG(e:c.σ τ=some (.p9 true f))(m:(f k).isSome=true):KD F U c delItem (.g9 τ) (.a9 (.int k)) ⟨c.ρ,up c.σ τ (.p9 true (H9 f k))⟩:=λG s x y S r n=>by
 obtain rfl:x= .ref _:=r;obtain⟨tk,rfl⟩:=n;obtain⟨kvs,hd,g,l⟩:=S.sr.g9 _ _ e;exact wpAny_delItem_slot hd.mapOf.typeIs (by decide) Qa (call_meetsIn Qa hd.mapOf.typeIs PySem.F.entry_dict_delitem (PySem.F.args_dict_delitem_2 _ _)
  (meets_dict_delitem_pairs _ _ (ii k _)) ⟨kvs,hd,O9 (vh (K7 (tX l) (r6 hd) g) (by decide)),(g k).isSome.trans m,λh' h hs=> .upd S e rfl rfl (λz'=>Sg) (λz'=>Sg) hs ⟨_,h,gV g,xV l⟩ trivial⟩)
theorem ZI{o i e:Expr}{p pos:Cf}(E1:Ev F U c e a c1)(m:∀τ,U τ->U' τ)(g:∀τ,U' τ->U'' τ)(A:a.keeps U')(E:Ev F U' c1 o b c2)(V:b.keeps U'')(E3:Ev F U'' c2 i r c3)(O:cL F U c3 Zc b r a c4)(hs:∀env,Nf e (some (.Subscript o i p)) pos.line env=pure false):X1 F U c (.Assign [.Subscript o i p] e pos) .next c4:=λG s S=>
 Db (E1.bind S λZ v z' D H B J=>E.bind D λj f z' M N n P=>E3.bind M λd Y X I w l Q=>Yh (O _ _ _ _ v I (N.mono l V) w (H.mono (n.trans (l.weak g)) A)) (λz' z' z=>z.casesOn λL T y z' q=>⟨L,((B.trans (n.weak m)).trans (l.weak λτ h=>g τ (m _ h))).trans T,y,rfl,((J.trans P).trans Q).trans q⟩) λz' z' z=>z) (hs _)
theorem UD{o i:Expr}{p pos:Cf}(E1:Ev F U c o a c1)(l:∀τ,U τ->U' τ)(h:a.keeps U')(E:Ev F U' c1 i b c2)(O:KD F U c2 delItem a b c3):X1 F U c (.Delete [.Subscript o i p] pos) .next c3:=λG s S=>
 wpAny_Delete (wpAny_deleteEach_cons (wpAny_delete_Subscript (E1.bind S λM v z' q r m A=>E.bind q λN w L B H g I=>Yh (O _ _ v w B (r.mono g h) H) (λz' z' z=>z.casesOn λD n y z' J=>wpAny_deleteEach_nil ⟨D,(m.trans (g.weak l)).trans n,y,rfl,(A.trans I).trans J⟩) λz' z' z=>z)))
end
section
variable{α:Type}{c c1:Cx}{F:Fm}{W:Wd}{σ:Tg->Ah d9}{vs:xh AV}{es:xh Expr}{G:Gh}{h h':Pf}{τ:Tg}{o:d9}{U:Tg->Prop}{s:Uh}{a r:AV}{R:Gh->α->Prop}{t u:Kh}{x name:Str}{d e:Jh}{i k:Dh}{f:xh KI->Ah AV}{ks:xh KI}
section
variable{K:Type}[xg K]
theorem Y7(xs:xh (K×Mh×Nh))(k:K):(atKey xs k).map (·.2)=mf (xs.map λx=>(x.1,x.2.2)) k:=by
 induction xs with
 |nil=>rfl
 |cons x _ i=>
  refine rL Hg (rL I9 ?_);unfold atKey at i⊢;refine rL (te) ?_;by_cases h:x.1=k
  ·refine rL (Lh h) (rL (Rh h) ?_);rfl
  ·refine rL (Fh h) (rL (Xh h) ?_);exact i
theorem RW(xs:xh (K×Mh×Nh))(k:K)(a:Mh)(v:Nh):(storedH xs k a v).map (λx=>(x.1,x.2.2))=stored (xs.map λx=>(x.1,x.2.2)) k v:=by
 unfold storedH stored;haveI:(atKey xs k).isSome=(xs.map λx=>(x.1,x.2.2)).any λg=>decide (g.1=k):=by
  rw [<-Eg,Y7];cases h:(xs.map λx=>(x.1,x.2.2)).any λg=>decide (g.1=k) with
  |true=>obtain⟨v,l⟩:=i5 h;refine rL l ?_;rfl
  |false=>rw [G3 (rL h wg)];rfl
 refine rL this ?_;split
 ·refine rL jg (rL jg ?_);refine ze λx z'=> ?_;show((if x.1=k then(x.1,x.2.1,v) else x).1,(if x.1=k then(x.1,x.2.1,v) else x).2.2)=if x.1=k then(x.1,v) else(x.1,x.2.2)
  by_cases h:x.1=k
  ·exact rL (Lh h) (rL (Lh h) rfl)
  ·exact rL (Fh h) (rL (Fh h) rfl)
 ·refine rL bg ?_;rfl
theorem gX(xs:xh (K×Mh×Nh))(k:K):(R5 xs k).map (λx=>(x.1,x.2.2))=without (xs.map λx=>(x.1,x.2.2)) k:=by
 unfold R5 without;refine rL List.filter_map ?_;exact yh _ (ua λx z'=>by
  exact(decide_not).symm)
end
theorem fN{prog:We}{w:Gc}{P:Mh->Ah He}:∀{l vs},F3 P (l.map .int) vs->ItemsAre (Hc prog w) l vs:=by
 intro l;induction l with
 |nil=>intro vs r;refine rL (show vs=[] from r) ?_;exact .nil
 |cons i l g=>intro vs r;obtain⟨y,m,e,⟨t,q⟩,z⟩:=r;refine rL e ?_;exact .cons (q▸zg i) (g z)
theorem LA{prog:We}{w:Gc}{P:Mh->Ah He}(hp:∀a o,P a=some o->h.get? a=some o){k:KI}{v:Nh}(r:DR P (KI.a9 k) v):CY prog w h k v:=by
 cases k with
 |tup l=>exact r.imp λa r=>r.elim λitems r=>r.elim λn r=>⟨r.1,_,items,n,hp _ _ r.2.1,rfl,rfl,fN r.2.2⟩
 |_=>exact r
theorem WO{prog:We}{w:Gc}{P:Mh->Ah He}(hp:∀a o,P a=some o->h.get? a=some o){g:xh KI}{vs:xh Nh}(r:r9 (λk v=>DR P (KI.a9 k) v) g vs):r9 (CY prog w h) g vs:=r.mono λz' z' z' r=>LA hp r
theorem r9.cC{l β m:Type}{R:β->m->Prop}{f:l->β}{xs:xh l}:∀{g},r9 R (xs.map f) g->r9 (λx y=>R (f x) y) xs g:=by
 induction xs with
 |nil=>intro g r;refine rL r.nil_inv ?_;exact .nil
 |cons x _ i=>intro g r;obtain⟨y,p,e,r,q⟩:=r.cons_inv;refine rL e ?_;exact .cons r (i q)
def bD(G:Gh)(g:xh KI)(a:Mh):Prop:=∃items n,G.P a=some (r7 items n)/\r9 (λk v=>DR G.P (KI.a9 k) v) g items.toList
theorem UX(S:SR W σ G h){v:Nh}(r:F9 G (.a9 (.tuple (ks.map KI.a9))) v):∃a,v= .ref a/\bD G ks a/\(JZ W.prog W.w).is h ks a:=by
 obtain⟨a,items,n,e,p,q⟩:=r;haveI q:=q.all.cC;exact⟨a,e,⟨items,n,p,q⟩,_,items,n,S.y9 _ _ (.inl p),rfl,rfl,WO (λa o e=>S.y9 a o (.inl e)) q⟩
theorem PV(S:SR W σ G h)(e:σ τ=some (.W9 f)):∃xs,h.DictOfH (JZ W.prog W.w) (G.μ τ) xs/\(∀x∈xs,bD G x.1 x.2.1)/\∀k,N7 (F9 G) (f k) (mf (xs.map λx=>(x.1,x.2.2)) k):=by
 obtain⟨_,xs,⟨es,ep,g,q⟩,l,n,r⟩:=S.g9 _ _ e;exact⟨xs,⟨_,es,ep,g,⟨rfl,rfl,rfl⟩,rfl,q,λx hx=>(l x hx).elim λitems z=>z.elim λn z=>⟨_,items,n,S.y9 _ _ (.inl z.1),rfl,rfl,WO (λa o e=>S.y9 a o (.inl e)) z.2⟩,n⟩,l,λk=>Y7 _ k▸r k⟩
theorem yI{xs:xh (xh KI×Mh×Nh)}{a:Mh}(d:h.DictOfH (JZ W.prog W.w) a xs)(w:∀x∈xs,bD G x.1 x.2.1)(r:∀k,N7 (F9 G) (f k) (mf (xs.map λx=>(x.1,x.2.2)) k))(v:∀k,(f k).isSome=true->k∈TK):OR W G h a (.W9 f):=by
 obtain⟨o,es,ep,q,⟨c1,m,p⟩,hd,n,_,hn⟩:=d;refine⟨v,xs,⟨es,ep,q.trans (yh _ ?_),n⟩,w,hn,λk=>Y7 _ k▸r k⟩;obtain⟨c,l,g,s⟩:=o;cases c1;cases m;cases p;cases hd;rfl
theorem nG(e:c.σ τ=some (.W9 f)):O4 F U c (λxs=>call (.builtin "dict.get") xs []) [.g9 τ,.a9 (.tuple (ks.map KI.a9))] ((f ks).getD (.a9 .none)) c:=λG s z' S r=>by
 obtain⟨x,A,rfl,w,r⟩:=r.cons_inv;obtain⟨y,A,rfl,z,r⟩:=r.cons_inv;obtain rfl:=r.nil_inv;obtain rfl:x= .ref _:=w;obtain⟨xs,hd,_,B⟩:=PV S.sr e;obtain⟨a,rfl,_,m⟩:=UX S.sr z;refine call_meetsIn Fe hd.typeIs Tc (PySem.F.args_dict_get_2 _ _) (meetsH_dict_get _ _ a (S.sr.bT e (.inl rfl) rfl)) ⟨S.room (n:=1+8) (by decide),ks,xs,m,hd,?_⟩;refine .here S ?_ (SS.heap _ _);rw [Y7];haveI:=B ks;cases p:f _ with
 |none=>rw [p] at this;cases h:mf _ ks with
  |none=>exact rfl
  |some v=>rw [h] at this;exact this.elim
 |some u=>rw [p] at this;obtain⟨v,h,q⟩:=this.some_of rfl;refine rL h ?_;exact q
theorem I0{xs:xh (xh KI×Mh×Nh)}{a:Mh}(d:h.DictOfH (JZ W.prog W.w) a xs):(xs.map (·.1)).Nodup:=d.elim λz' q=>q.elim λz' q=>q.elim λz' q=>q.2.2.2.2.2
theorem rV{n:Mh}:(Mi n).length=n:=by unfold Mi;rw [Eh,Qg]
theorem j2{n β:Type}{l:xh n}{g:n->xh β}{m:Mh}(h:∀a,(g a).length=m):(l.flatMap g).length=l.length*m:=by
 induction l with
 |nil=>rw [Va,Nat.zero_mul];rfl
 |cons a l i=>rw [List.flatMap_cons,Ch,i,h,Ze,Nat.succ_mul,af]
theorem MO:kY.length=3661:=by
 unfold kY;refine rL Ch ?_;rw [j2 λz'=>by rw [Eh],Ze,Eh,rV]
theorem aF:TK.length<=1000000:=by
 unfold TK;refine rL Ch ?_;rw [j2 λz'=>by rw [Eh],rV,j2 λz'=>by
  rw [j2 (m:=2*14) λz'=>by rfl,MO]]
 decide
theorem gy{xs:xh (xh KI×Mh×Nh)}(h:∀k,(f k).isSome=true->k∈TK)(hn:(xs.map (·.1)).Nodup)(g:∀k,N7 (F9 G) (f k) (mf (xs.map λx=>(x.1,x.2.2)) k)):xs.length<=Qe:=by
 haveI:=K7 ⟨TK,h,aF⟩ (rL jg hn) g;rw [Eh] at this;exact O9 (vh this (by decide))
theorem mG(e:c.σ τ=some (.W9 f))(A:ks∈TK):cL F U c Zc (.g9 τ) (.a9 (.tuple (ks.map KI.a9))) a ⟨c.ρ,up c.σ τ (.W9 (f9 f ks a))⟩:=λG s x y z S r w v=>by
 obtain rfl:x= .ref _:=r;obtain⟨xs,hd,l,p⟩:=PV S.sr e;have q:=(S.sr.g9 _ _ e).1;obtain⟨a,rfl,kk,g⟩:=UX S.sr w;refine wpAny_setItem_heap (S.room (n:=1+8) (by decide)) g hd (λh' h hs=> .upd S e rfl rfl (λz'=>Sg) (λz'=>Sg) hs (yI h (λx hx=> ?_) (λk=>by rw [RW];exact U3 p v k) (T6 q A)) trivial) (gy q (I0 hd) p);unfold storedH at hx;split at hx
 ·obtain⟨y,m,rfl⟩:=List.mem_map.mp hx;unfold putAt;split
  ·exact l y m
  ·exact l y m
 ·exact(List.mem_append.mp hx).elim (l x) λhx=>List.mem_singleton.mp hx▸kk
theorem oG(e:c.σ τ=some (.W9 f))(p:(f ks).isSome=true):KD F U c delItem (.g9 τ) (.a9 (.tuple (ks.map KI.a9))) ⟨c.ρ,up c.σ τ (.W9 (H9 f ks))⟩:=λG s x y S r q=>by
 obtain rfl:x= .ref _:=r;obtain⟨xs,hd,v,l⟩:=PV S.sr e;have m:=(S.sr.g9 _ _ e).1;obtain⟨a,rfl,kk,g⟩:=UX S.sr q;exact iW (S.room (n:=1+8) (by decide)) g hd (by rw [<-Eg,Y7,(l _).isSome];exact p) (λh' z' h hs=> .upd S e rfl rfl (λz'=>Sg) (λz'=>Sg) hs (yI h (λx hx=>v x (List.mem_filter.mp hx).1) (λk=>by rw [gX];exact gV l k) (xV m)) trivial) (gy m (I0 hd) l)
theorem xO{id:Cc}(e:c.σ τ=some (.W9 f))(g:Slot "dict" name id)(h:typeOf (.builtin id)=pure (.type "method_descriptor")):Mt F c (.g9 τ) name (.builtin id):=λG s x z' Q S r q=>by
 obtain rfl:x= .ref _:=r;obtain⟨xs,hd,_⟩:=PV S.sr e;exact getMethod_builtin hd.typeIs PySem.F.plainAttrs_dict g h (λa z=>by cases z;exact let⟨o,_,_,ho,hc,_⟩:=hd;⟨o,ho,hc.2.1⟩) q
variable{c2:Cx}{ws:xh AV}{G':Gh}{U':Tg->Prop}{s' s'':Uh}{b:AV}{pos:Cf}{ds:xh Jh}{j:Dh}
theorem N3{y n:Mh}{items:gf Nh}(g:s.heap.get? y=some (listOf items n)):s.TypeIs (.ref y) "list":=⟨_,g,rfl⟩
theorem LX{id:Cc}(hl:Ls c.σ a vs)(f:Slot "list" name id)(h:typeOf (.builtin id)=pure (.type "method_descriptor")):Mt F c a name (.builtin id):=λG s x z' Q S r q=>by
 obtain⟨y,items,n,rfl,g,_⟩:=W7 S.sr hl r;exact getMethod_builtin (N3 g) PySem.F.plainAttrs_list f h (λa z=>by cases z;exact⟨_,g,rfl⟩) q
theorem RA.lst{α:Type}{R:Gh->α->Prop}{v:α}(S:ST F c G s.heap)(e:c.σ τ=some (.list true vs)){items:gf Nh}{n:Mh}(g:s.heap.get? (G.μ τ)=some (listOf items n))(f:gf Nh->gf Nh)(r:r9 (F9 G) ws (f items).toList)(q:R G v):
  RA F U ⟨c.ρ,up c.σ τ (.list true ws)⟩ G s R v {s with heap:=s.heap.update (G.μ τ) (Obj.mapSeq f)}:=
 .upd S e rfl rfl (λz'=>Sg) (λz'=>Sg) (Ie s.heap (G.μ τ) _) ⟨f items,_,IsL.update g f,r⟩ q
theorem nO(e:c.σ τ=some (.list true vs))(hz:vs.length<=1000000):O4 F U c (λxs=>call (.builtin "list.append") xs []) [.g9 τ,a] (.a9 .none) ⟨c.ρ,up c.σ τ (.list true (vs++[a]))⟩:=λG s z' S r=>by
 obtain⟨x,m,rfl,l,r⟩:=r.cons_inv;obtain⟨y,m,rfl,f,r⟩:=r.cons_inv;obtain rfl:=r.nil_inv;obtain rfl:x= .ref _:=l;obtain⟨items,n,g,q⟩:=S.sr.g9 _ _ e;exact call_meets PySem.F.slot_list_append (N3 g) PySem.F.entry_list_append (PySem.F.args_list_append_2 _ _) (list_append _ _ n _ (O9 (vh (Ph (q.length.trans qg).symm) (vh hz (by decide))))) ⟨g,.lst S e g _ (rL Je (q.append (.cons f .nil))) rfl⟩
theorem kO(e:c.σ τ=some (.list true vs))(hl:Ls c.σ a ws)(hz:vs.length+ws.length<=1000000):O4 F U c (λxs=>call (.builtin "list.extend") xs []) [.g9 τ,a] (.a9 .none) ⟨c.ρ,up c.σ τ (.list true (vs++ws))⟩:=λG s z' S r=>by
 obtain⟨x,p,rfl,m,r⟩:=r.cons_inv;obtain⟨y,p,rfl,l,r⟩:=r.cons_inv;obtain rfl:=r.nil_inv;obtain rfl:x= .ref _:=m;obtain⟨items,n,g,q⟩:=S.sr.g9 _ _ e;obtain⟨w,i,n2,rfl,v,f⟩:=W7 S.sr hl l;have hz:items.size+i.size<=1000000:=by refine rR (q.length.trans qg) (rR (f.length.trans qg) ?_);exact hz
 refine call_meets PySem.F.slot_list_extend (N3 g) PySem.F.entry_list_extend (PySem.F.args_list_extend_2 _ _) (AutoSeq1.list_extend_list_list_0 _ _ n _ _ _ ?_ (O9 (vh (Qh _ _) (vh hz (by decide)))) (vg (O9 (vh hz (by decide))))) ⟨g,v,.lst S e g _ (rL ud (q.append f)) rfl⟩;unfold Builtin.List.listTooLong;intro _;have z:=sizeLine_eq;lia
theorem AB(e:c.σ τ=some (.list true (vs++[a])))(hz:vs.length<=1000000):O4 F U c (λxs=>call (.builtin "list.pop") xs []) [.g9 τ] a ⟨c.ρ,up c.σ τ (.list true vs)⟩:=λG s z' S r=>by
 obtain⟨x,p,rfl,f,r⟩:=r.cons_inv;obtain rfl:=r.nil_inv;obtain rfl:x= .ref _:=f;obtain⟨items,n,g,q⟩:=S.sr.g9 _ _ e;have hl:vs.length+1=items.size:=by refine rR (q.length.trans qg) (rL Ch ?_);rfl
 obtain⟨y,h,m⟩:=Ai q (j:=items.size-1) (rR hl (List.getElem?_concat_length));refine call_meets PySem.F.slot_list_pop (N3 g) PySem.F.entry_list_pop (PySem.F.args_list_pop_1 _) (MeetsSeq.list_pop_last _ _ n y h (O9 (hl▸vh (Vh hz) (by decide)))) ⟨g,.lst S e g _ ?_ m⟩;haveI q:=q.take vs.length;rw [List.take_left' rfl] at q;obtain⟨l⟩:=items;simp only [Ga,Ic];rw [((Nat.eq_sub_of_add_eq hl))] at q;rw [Fa,List.drop_eq_nil_of_le (show l.length<=l.length-1+1 from Nat.le_succ_of_pred_le (Oh _)),Th];exact q
theorem QN{hi:Expr}{p:Cf}(E:Ev F U c hi (.a9 (.int i)) c1):Ev F U c (.Slice none (some hi) none p) (.slice none (some i) none) c1:=λG s S=>
 wpAny_Slice (by
  rw [evalPart_none];exact Ih (E.bind S λG1 v1 s1 S1 r1 g1 q1=>Ih (r1.elim λtk e=>by
   obtain⟨g4,S4,p⟩:=S1.data (ob:={cls:= .type "slice",data:= .fields #[.none,v1,.none]}) rfl;exact⟨_,g1.trans g4,S4,⟨_,_,v1,_,rfl,p,.none,e▸ .int i tk,.none⟩,q1.trans ⟨rfl,rfl,rfl⟩⟩)))
theorem qE{f:Expr}{p:Cf}(E:Ev F U c f (.a9 (.int i)) c1):Ev F U c (.Slice none none (some f) p) (.slice none none (some i)) c1:=λG s S=>
 wpAny_Slice (by
  exact Ih (Ih (E.bind S λw v z' n r m q=>(r.elim λtk e=>by
   obtain⟨l,g,p⟩:=n.data (ob:={cls:= .type "slice",data:= .fields #[.none,.none,v]}) rfl;exact⟨_,m.trans l,g,⟨_,_,_,v,rfl,p,.none,.none,e▸ .int i _⟩,q.trans ⟨rfl,rfl,rfl⟩⟩))))
inductive GJ(F:Fm)(U:Tg->Prop)(c:Cx)(G:Gh)(s:Uh)(ws:xh AV)(v:Nh)(s':Uh):Prop
 |mk (G':Gh) (e:Gr U G G') (S:ST F c G' s'.heap) (q:SS s s') (x:Mh) (items:gf Nh) (n:Mh) (v:v= .ref x) (g:s'.heap.get? x=some (listOf items n)) (f:¬G'.has x) (fa:x∉F.fa) (fc:∀y d,F.env.cells.lookup y=some d->d≠x) (st:Nd<x) (r:r9 (F9 G') ws items.toList)
def gL(F:Fm)(U:Tg->Prop)(c:Cx)(e:Expr)(ws:xh AV)(c':Cx):Prop:=∀G s,ST F c G s.heap->og (Mk F.W) F.A (bc e F.env) (GJ F U c' G s ws) no s
theorem GJ.uT{v:Nh}(e:Gr U G G')(q:SS s s')(z:GJ F U c G' s' ws v s''):GJ F U c G s ws v s'':=z.casesOn λw y S A x items n v g f p l m r=>⟨w,e.trans y,S,q.trans A,x,items,n,v,g,f,p,l,m,r⟩
theorem GJ.push{items:gf Nh}{tk n:Mh}(S:ST F c G s.heap)(r:r9 (F9 G) ws items.toList)(hk:∀b o,s.heap.get? b=some o->h'.get? b=some o){x:Mh}(hx:s.heap.objs.size<=x)(g:h'.get? x=some (listOf items n)):GJ F U c G s ws (.ref x) {s with heap:=h',toks:=tk}:=
 ⟨G,.refl,S.keeps hk,SS.heap _ _,x,items,n,rfl,g,S.sr.fresh hx,S.fr.fresh hx,λy d e z=>(S.fr.alive.2 y d e).elim λz' q=>Nat.not_lt.mpr hx (z▸vf q),dg S.sr.statics hx,r⟩
theorem GJ.a9{v:Nh}(z:GJ F U c G s (ds.map .a9) v s'):RA F U c G s (λG=>F9 G (.a9 (.list ds))) v s':=z.casesOn λG2 e2 S q2 x items n v g f fa fc st r=>
 ⟨G2.y9 x (listOf items n),e2.trans (.y9 f),S.u4 f fa g,⟨x,items,n,v,Lh rfl,r.M6.mono (Gr.y9 (U:=U) f).p⟩,q2⟩
theorem gL.a9{e:Expr}(E:gL F U c e (ds.map .a9) c1):Ev F U c e (.a9 (.list ds)) c1:=λG s S=>Yh (E G s S) (λz' z' z=>z.a9) λz' z' z=>z
theorem XF{es:xh Expr}{pos:Cf}(E:VT F U c es ws c1)(hz:ws.length<=10000000):gL F U c (.List es pos) ws c1:=λG s S=>
 List_ ((E _).bind S λl z' z' f r g q=>wpAny_newList (.uT g q (.push f r (λz' z' e=>Ng _ e) (Oh _) (Lg _ rfl))) (O9 (T4 r hz)))
def u3{β:Type}(lo hi st:Ah Dh)(vs:xh β):Ah (xh β):=
 if lo=none/\st=none then hi.bind λb=>if 0<=b then some (vs.take b.toNat) else if b= -1 then some (vs.take (vs.length-1)) else none
 else if lo=none/\hi=none/\st=some (-1) then some vs.reverse else none
theorem uY(items:gf Nh):(slicePick items none none (some (-1))).toList=items.toList.reverse:=by rw [krv_pick]
theorem eQ{β:Type}{R:β->Nh->Prop}{m l g:Ah Dh}{vs ws:xh β}{items:gf Nh}(e:u3 m l g vs=some ws)(r:r9 R vs items.toList):g≠some 0/\r9 R ws (slicePick items m l g).toList:=by
 unfold u3 at e;split at e
 ·rename_i z;refine rL z.1 (rL z.2 ?_);refine⟨λz=>(by cases z),?_⟩;cases l with
  |none=>cases e
  |some b=>
   haveI e:(if 0<=b then some _ else if b= -1 then some _ else none)=some ws:=e;split at e
   ·rename_i h;obtain⟨n,rfl⟩:=Int.eq_ofNat_of_zero_le h;rw [slicePick_upto',<-Bh e];exact r.take n
   ·split at e
    ·rename_i h;exact rL h (rL (show(-1)= -((1:Mh):Dh) from rfl) (rL ((slicePick_butLast items 1 (Oh _))) (rR (Bh e) (rL r.length (r.take _)))))
    ·cases e
 ·split at e
  ·rename_i z;refine rL z.1 ?_;rw [z.2.1,z.2.2,uY,<-Bh e];exact⟨λz=>(by cases z),r.reverse⟩
  ·cases e
def Rr(F:Fm)(c:Cx)(a:AV)(vs:xh AV):Prop:=∀G s v,ST F c G (Shared.heap s)->F9 G a v->∃y items,v= .ref y/\s.heap.IsList y items/\r9 (F9 G) vs items.toList
theorem Ls.rd(hl:Ls c.σ a vs):Rr F c a vs:=λG s v S r=>(W7 S.sr hl r).imp λy z=>z.imp λitems z=>z.elim λn z=>⟨z.1,U8 z.2.1,z.2.2⟩
theorem eW{o i:Expr}{A h n:Ah Dh}(E1:Ev F U c o a c1)(H:Ev F U' c1 i (.slice A h n) c2)(E:∀τ,U τ->U' τ)(J:a.keeps U')(hl:Rr F c2 a vs)(hp:u3 A h n vs=some ws)(hz:vs.length<=1000000)
  (hs:∃f:Nh->Nh->xh Nh,∀a b,xc i false (.ref a) (.ref b)=Za (f (.ref a) (.ref b)) (getItem (.ref a) (.ref b))):gL F U c (.Subscript o i pos) ws c2:=λG s S=>
 Subscript_ (E1.bind S λT v z' K B L M=>H.bind K λV w X m r z O=>by
  obtain⟨f,hs⟩:=hs;obtain⟨y,items,rfl,g,q⟩:=hl _ _ _ m (B.mono z J);haveI hsz:=q.length.trans qg▸hz;obtain⟨x,l,u,Q,rfl,p,P,I,D⟩:=r;obtain⟨N,q⟩:=eQ hp q;exact tail_any g.typeIs slot_list_getitem.lookup (wpAny_getItem_list_slice g ⟨_,m.sr.y9 _ _ (.inl p),rfl,rfl⟩ P I D N (.uT (L.trans (z.weak E)) (M.trans O) (.push m q (λz' z' e=>Ng _ e) (Oh _) (Lg _ rfl))) (O9 (vh hsz (by decide)))) (hs _ _))
end
section
variable{α:Type}{c:Cx}{F:Fm}{W:Wd}{σ σ':Tg->Ah d9}{ρ ρ':xh (Str×AV)}{G:Gh}{h h':Pf}{τ:Tg}{o:d9}{U:Tg->Prop}{s:Uh}{a b:AV}{R:Gh->α->Prop}{t:Kh}{y:Str}{e:Jh}{k:Dh}{x:Mh}
def Gh.putL(G:Gh)(τ:Tg)(x:Mh)(L:xh Mh):Gh:={G with μ:=λτ'=>if τ'=τ then x else G.μ τ',own:=λb=>if b∈L then some τ else if G.own b=some τ then none else G.own b}
abbrev Gh.put(G:Gh)(τ:Tg)(x:Mh):Gh:=G.putL τ x [x]
theorem H6{L:xh Mh}:(G.putL τ x L).μ τ=x:=Lh rfl
theorem Q1{L:xh Mh}{f:Tg}(q:f≠τ):(G.putL τ x L).μ f=G.μ f:=Fh q
theorem Gr.put{L:xh Mh}(h:¬U τ):Gr U G (G.putL τ x L):=⟨λz' z' q=>q,λz' z' q=>⟨q,rfl⟩,λz' z' q=>⟨q,rfl⟩,λf q=>Q1 λe=>h (e▸q)⟩
theorem yS{L:xh Mh}{b:Mh}{f:Tg}(q:f≠τ)(hx:b∉L):(G.putL τ x L).own b=some f↔G.own b=some f:=by
 show(if b∈L then some _ else if G.own b=some _ then none else G.own b)=some _↔_;refine rL (Fh hx) ?_;split
 ·rename_i z;refine rL z ?_;exact⟨λe=>(by cases e),λe=>absurd (Bh e).symm q⟩
 ·exact Sg
structure Ur(W:Wd)(σ σ':Tg->Ah d9)(G:Gh)(h h':Pf)(τ:Tg)(x:Mh)(L:xh Mh)(τ':Tg):Prop where
 ex:(σ' τ'=σ τ'/\(∀b,G.own b=some τ'->h'.get? b=h.get? b)/\∀o,σ τ'=some o->o.keeps (·≠τ))\/∃o1 o2,σ τ'=some o1/\o1.wr=true/\σ' τ'=some o2/\o2.wr=true/\(∀a,o2.ad (G.μ τ') a↔o1.ad (G.μ τ') a)/\OR W (G.putL τ x L) h' (G.μ τ') o2
theorem SR.put{L:xh Mh}(S:SR W σ G h)(hx:∀b∈L,¬G.has b)(s:∀b∈L,Nd<b)(w:o.wr=true)(a:∀b,o.ad x b↔b∈L)(R:OR W (G.putL τ x L) h' x o)(e:σ' τ=some o)(H:∀f,f≠τ->Ur W σ σ' G h h' τ x L f)(hp:∀b,(∃o,G.P b=some o\/G.K b=some o)\/(∃o,G.Z b=some o)->h'.get? b=h.get? b):SR W σ' (G.putL τ x L) h' where
 base:=S.base
 y9:=λb q e=>(hp b (.inl ⟨q,e⟩)).trans (S.y9 b q e)
 S7:=λb t q e=>(hp b (.inr ⟨_,e⟩)).trans (S.S7 b t q e)
 fX:=S.fX
 kz:=S.kz
 g9:=λf q z=>by
  by_cases n:f=τ
  ·rw [n] at z⊢;refine rL H6 ?_;exact Bh (e.symm.trans z)▸R
  ·refine rL (Q1 n) ?_;rcases(H _ n).ex with⟨e1,v,N⟩|⟨K,D,e1,w1,v,A,g,E⟩
   ·rw [e1] at z;refine((S.g9 _ q z).mono (.put λz=>z rfl) (N q z)).move λb y=> ?_;cases l:q.wr with
    |true=>exact v b (S.own _ q b z l y)
    |false=>exact hp b (.inr ((S.O5 _ q b z l y).elim λz' z=>⟨_,z⟩))
   ·exact Bh (v.symm.trans z)▸E
 own:=λf q b z l y=>by
  by_cases n:f=τ
  ·rw [n] at z y⊢;rw [H6,<-Bh (e.symm.trans z)] at y;exact Lh ((a b).mp y)
  ·rw [Q1 n] at y;have:G.own b=some f:=by
    rcases(H _ n).ex with⟨e1,_,_⟩|⟨K,D,e1,w1,v,A,g,E⟩
    ·exact S.own _ q b (e1▸z) l y
    ·exact S.own _ _ b e1 w1 ((g b).mp (Bh (v.symm.trans z)▸y))
   exact(yS n λz=>hx b z (.inl ⟨f,this⟩)).mpr this
 O5:=λf q b z l y=>by
  by_cases n:f=τ
  ·rw [n] at z;exact absurd ((Bh (e.symm.trans z)▸w).symm.trans l) (by decide)
  ·rw [Q1 n] at y;rcases(H _ n).ex with⟨e1,_,_⟩|⟨K,D,e1,w1,v,A,g,E⟩
   ·exact S.O5 _ q b (e1▸z) l y
   ·exact absurd ((Bh (v.symm.trans z)▸A).symm.trans l) (by decide)
 at_:=λb f q=>by
  by_cases n:b∈L
  ·have:=(Bh ((Lh n).symm.trans q)).symm;refine rL this (rL H6 ?_);haveI I:=G.v8 (hx b n);exact⟨⟨I.2.1,I.2.2.1,I.2.2.2,s b n⟩,o,e,w,(a b).mpr n⟩
  ·have m:f≠τ:=λz=>by
    haveI q:(if b∈L then some _ else if G.own b=some _ then none else G.own b)=some f:=q;rw [Fh n] at q;split at q
    ·cases q
    ·rename_i y;exact y (z▸q)
   rw [yS m n] at q;refine rL (Q1 m) ?_;obtain⟨y,p,z,l,M⟩:=S.at_ b _ q
   rcases(H _ m).ex with⟨e1,_,_⟩|⟨K,D,e1,w1,v,A,g,E⟩
   ·exact⟨y,p,e1.trans z,l,M⟩
   ·exact⟨y,D,v,A,(g b).mpr (Bh (z.symm.trans e1)▸M)⟩
theorem zS{L:xh Mh}{b:Mh}(n:b∉L)(q:¬G.has b):¬(G.putL τ x L).has b:=Gh.D4
 ⟨(Fh n).trans (rL ((G.v8 q).1) (Fh λe=>by cases e)),(G.v8 q).2⟩
theorem FR.put{L:xh Mh}(S:FR F ρ G h)(hx:∀b∈L,¬G.has b)(f:∀b∈L,b∉F.fa)(k:∀y v,ρ.lookup y=some v->v.keeps (·≠τ)):FR F ρ (G.putL τ x L) h:=
 S.mono (.put λz=>z rfl) k (λb m=>zS (λz=>f b z m) (S.rY b m)) λb q z y=>(Fh λe=>hx b e (.inr (.inl ⟨q,.inr z⟩))).trans (rL y (Fh λe=>by cases e))
theorem FR.sub(S:FR F ρ G h)(hs:∀y v,ρ'.lookup y=some v->ρ.lookup y=some v):FR F ρ' G h:=
 ⟨S.st,S.ns.imp λm q=>⟨q.1,λx v e1 f=>q.2 x v (hs x v e1) f⟩,λx v e=>S.cell x v (hs x v e),S.live,S.rY,S.e5⟩
theorem v5{p:Mh->Prop}(h:p x):∀b∈[x],p b:=λb m=>List.mem_singleton.mp m▸h
theorem ST.Qw{L:xh Mh}(S:ST F c G h)(R:OR F.W G h x o)(w:o.wr=true)(ad:∀b,o.ad x b↔b∈L)(hx:∀b∈L,¬G.has b)(hf:∀b∈L,b∉F.fa)(st:∀b∈L,Nd<b)(hw:o.keeps (·≠τ))(hσ:∀τ' o,τ'≠τ->c.σ τ'=some o->o.keeps (·≠τ))(hρ:∀y v,c.ρ.lookup y=some v->v.keeps (·≠τ)):
  ST F ⟨c.ρ,up c.σ τ o⟩ (G.putL τ x L) h:=
 ⟨S.sr.put hx st w ad (R.mono (.put λz=>z rfl) hw) q7 (λτ' n=>⟨.inl ⟨u8 n,λz' z'=>rfl,λo=>hσ τ' o n⟩⟩) λz' z'=>rfl,S.fr.put hx hf hρ⟩
theorem ST.own(S:ST F c G h)(R:OR F.W G h x o)(w:o.wr=true)(a:∀b,o.ad x b↔b=x)(hx:¬G.has x)(g:x∉F.fa)(s:Nd<x)(hw:o.keeps (·≠τ))(hσ:∀f o,f≠τ->c.σ f=some o->o.keeps (·≠τ))(hρ:∀y v,c.ρ.lookup y=some v->v.keeps (·≠τ)):
  ST F ⟨c.ρ,up c.σ τ o⟩ (G.put τ x) h:=S.Qw R w (λb=>(a b).trans List.mem_singleton.symm) (v5 hx) (v5 g) (v5 s) hw hσ hρ
end
section
variable{α:Type}{c c1:Cx}{F:Fm}{ws:xh AV}{xs:xh (Mh×AV)}{es:xh Expr}{G G':Gh}{h h':Pf}{τ τh:Tg}{o o' oh oh':d9}{U:Tg->Prop}{s s':Uh}{a b r:AV}{R:Gh->α->Prop}{C i x:Mh}{y:Str}{pos:Cf}{d:Jh}{j k:Dh}{e:Expr}{f:Dh->Ah AV}
def IJ(F:Fm)(c:Cx)(e:Expr)(a:AV):Prop:=∀G s,ST F c G s.heap->∀Q:Nh->Uh->Prop,(∀v tk,F9 G a v->Q v {s with toks:=tk})->og (Mk F.W) F.A (bc e F.env) Q no s
theorem vX{x:Str}(n:c.ρ.lookup x=some a)(l:OZ (F.env.kindOf x)=true)(hd:(x==("__debug__"))=false)(A:(x==("__classdict__"))=false):IJ F c (.Name x pos) a:=λG s S Q k=>by
 cases q:F.env.kindOf x with
 |none=>rw [q] at l;cases l
 |some kd=>
  cases kd with
  |«local»=>obtain⟨m,hn,hm⟩:=S.fr.ns;obtain⟨y,z,r⟩:=hm x a n q;exact Cb (wpAny_loadName_local S.fr.st.kind q hn z (k y _ r)) hd
  |cell=>obtain⟨c,y,h,p,r⟩:=S.fr.cell x a n (.inl q);exact Cb (wpAny_loadName_cell S.fr.st.kind q h p (k y _ r)) hd
  |free=>obtain⟨c,y,h,p,r⟩:=S.fr.cell x a n (.inr q);exact Cb (wpAny_loadName_free S.fr.st.kind q h p (k y _ r) A) hd
  |_=>rw [q] at l;cases l
theorem aG{o:Expr}(E:IJ F c o (.g9 τ))(e:c.σ τ=some (.inst C xs))(l:q4 F.W C)(hp:De F.W.K (.ref C) (an i)=some none)(q:i<30)(hx:xs.lookup i=some a)(A:∀env,Se o (an i) env (bc o env)=bc o env):IJ F c (.Attribute o (an i) pos) a:=λG s S Q k=>by
 show og _ _ (do
  let p<-Se o _ _ _
  ma _;let r<-na [p] _
  letTemporaryGo o _ r
  pure r) _ _ s
 rw [A];refine zh (E G s S _ λv z' r=>zh (Re (zh (bf ?_))));obtain rfl:v= .ref _:=r;obtain⟨es,m,I⟩:=mZ S.sr e;obtain⟨w,z,h⟩:=JT I.r q;rw [hx] at h;cases w with
 |none=>exact h.elim
 |some w=>exact get_value S.SX I.I l.get (findObj_own l.FF hp (by rfl) (by exact z)) (F9.handed h) (zh (wpAny_letTemporaryGo (Ih (k w _ h))))
inductive pi(F:Fm)(U:Tg->Prop)(c:Cx)(G:Gh)(s:Uh)(o:d9)(v:Nh)(s':Uh):Prop
 |mk (G':Gh) (e:Gr U G G') (S:ST F c G' s'.heap) (q:SS s s') (x:Mh) (v:v= .ref x) (g:OR F.W G' s'.heap x o) (w:o.wr=true) (ad:∀a b,o.ad a b↔b=a) (f:¬G'.has x) (fa:x∉F.fa) (fc:∀y d,F.env.cells.lookup y=some d->d≠x) (st:Nd<x)
def oY(F:Fm)(U:Tg->Prop)(c:Cx)(e:Expr)(o:d9)(c':Cx):Prop:=∀G s,ST F c G s.heap->og (Mk F.W) F.A (bc e F.env) (pi F U c' G s o) no s
theorem gL.own(E:gL F U c e ws c1):oY F U c e (.list true ws) c1:=λG s S=>Yh (E G s S) (λv z' z=>z.casesOn λA l S q x items n v g f w p m r=>⟨A,l,S,q,x,v,⟨items,n,g,r⟩,rfl,λz' z'=> .rfl,f,w,p,m⟩) λz' z' z=>z
structure UQ(c:Cx)(o:d9)(τ:Tg):Prop where
 w:o.keeps (·≠τ)
 s:∀τ' o,τ'≠τ->c.σ τ'=some o->o.keeps (·≠τ)
 r:∀y v,c.ρ.lookup y=some v->v.keeps (·≠τ)
theorem ry(E:oY F U c e o c1)(h:¬U τ)(L:UQ c1 o τ):Ev F U c e (.g9 τ) ⟨c1.ρ,up c1.σ τ o⟩:=λG s S=>
 Yh (E G s S) (λv z' z=>z.casesOn λp m S q x v g w a f n z' l=>⟨_,m.trans (.put h),S.own g w (a x) f n l L.w L.s L.r,by refine rL v ?_;exact yh _ H6.symm,q⟩) λz' z' z=>z
structure JJ(c:Cx)(o:d9)(τ τh:Tg):Prop where
 n:τh≠τ
 w:o.keeps (·≠τ)
 s:∀τ' o,τ'≠τ->τ'≠τh->c.σ τ'=some o->o.keeps (·≠τ)
 r:∀y v,c.ρ.lookup y=some v->v.keeps (·≠τ)
theorem ST.BE(S:ST F c G h)(g:OR F.W G h x o)(B:o.wr=true)(p:∀a b,o.ad a b↔b=a)(hx:¬G.has x)(w:x∉F.fa)(D:∀y d,F.env.cells.lookup y=some d->d≠x)(s:Nd<x)(L:JJ c o τ τh)
  (e:c.σ τh=some oh) (w1:oh.wr=true) (A:oh'.wr=true) (m:∀a,oh'.ad (G.μ τh) a↔oh.ad (G.μ τh) a) (hs:∀b,G.own b≠some τh->h'.get? b=h.get? b) (R:OR F.W (G.put τ x) h' (G.μ τh) oh'):
  ST F ⟨c.ρ,up (up c.σ τ o) τh oh'⟩ (G.put τ x) h':=by
 haveI v:∀b,(((∃o,G.P b=some o\/G.K b=some o)\/∃o,G.Z b=some o)\/b=x)->h'.get? b=h.get? b:=λb q=>hs b λz=>by
  have y:=(S.sr.at_ b _ z).1;rcases q with(⟨o,q|q⟩|⟨o,q⟩)|q
  ·exact s9 q y.1
  ·exact s9 q y.2.1
  ·exact s9 q y.2.2.1
  ·exact hx (q▸ .inl ⟨τh,z⟩)
 refine⟨S.sr.put (v5 hx) (v5 s) B (λb=>(p x b).trans List.mem_singleton.symm) ((g.mono (.put λz=>z rfl) L.w).move λb q=>v b (.inr ((p x b).mp q))) ((u8 (vd L.n)).trans q7) (λl n=>⟨?_⟩) λb q=>v b (.inl q),(S.fr.put (v5 hx) (v5 w) L.r).step ?_ ?_⟩
 ·by_cases z:l=τh
  ·exact .inr ⟨oh,oh',z▸e,w1,z▸q7,A,z▸m,z▸R⟩
  ·exact .inl ⟨(u8 z).trans (u8 n),λb q=>hs b λy=>z (Bh (q.symm.trans y)),λo=>L.s _ o n z⟩
 ·exact hs _ λz=>S.fr.rY _ S.fr.st.GD (.inl ⟨_,z⟩)
 ·exactλy d q=>hs _ λz=>jc _ (z.symm.trans (S.fr.e5 y d q).1)
theorem sU{o' i:Expr}{p:Cf}(E:oY F U c e o c1)(Eo:IJ F c1 o' (.g9 τh))(Ei:IJ F c1 i (.a9 (.int k)))(hU:¬U τ)(L:JJ c1 o τ τh)(eh:c1.σ τh=some (.p9 true f))(hr:f7 k=true)(hk:∀j v,j≠k->f j=some v->v.keeps (·≠τ))(hs:∀env,Nf e (some (.Subscript o' i p)) pos.line env=pure false):
  X1 F U c (.Assign [.Subscript o' i p] e pos) .next ⟨c1.ρ,up (up c1.σ τ o) τh (.p9 true (f9 f k (.g9 τ)))⟩:=λG s S=>
 Db (Yh (E G s S) (λv s1 z=>z.casesOn λG1 g1 S1 q1 x v gx w0 ad hx hfa hfc st=>Eo G1 s1 S1 _ λov tk r1=>Ei G1 {s1 with toks:=tk} S1 _ λiv tk2 r2=>by
  obtain rfl:ov= .ref (G1.μ τh):=r1;obtain⟨tk3,rfl⟩:=r2;obtain⟨kvs,hd,hq,hf⟩:=S1.sr.g9 τh _ eh;refine Gd (ii k tk3) hd (λh' hd' hs'=> ?_) (O9 (vh (K7 (tX hf) (r6 hd) hq) (by decide)));refine⟨G1.put τ x,g1.trans (.put hU),S1.BE gx w0 ad hx hfa hfc st L eh rfl rfl (λz'=>Sg) (λb n=>hs'.2 b λz=>n (z▸S1.sr.own τh _ _ eh rfl rfl)) ⟨_,hd',λj=> ?_,T6 hf hr⟩,rfl,q1.trans (SS.heap _ _)⟩;rw [a6];unfold f9;by_cases z:j=k
  ·rw [Lh z,Lh z,v];exact yh wb H6.symm
  ·rw [Fh z,Fh z];exact(hq j).mono λw m z' q=>q.mono (.put λz=>z rfl) (hk j w z m)) λz' z' z=>z) (hs _)
theorem tU{y:Str}{p p':Cf}(E:oY F U c e o c1)(ho:c1.ρ.lookup y=some (.g9 τh))(hk:OZ (F.env.kindOf y)=true)(hd:(y==("__debug__":Str))=false)(hcl:(y==("__classdict__":Str))=false)(hU:¬U τ)(L:JJ c1 o τ τh)
  (hi:c1.σ τh=some (.inst C xs)) (hc:q4 F.W C) (hp:De F.W.K (.ref C) (an i)=some none) (h30:i<30) (hkp:∀p∈xs,p.1≠i->p.2.keeps (·≠τ)) (hs:∀env,Nf e (some (.Attribute (.Name y p') (an i) p)) pos.line env=pure false):
  X1 F U c (.Assign [.Attribute (.Name y p') (an i) p] e pos) .next ⟨c1.ρ,up (up c1.σ τ o) τh (.inst C (T9 xs i (.g9 τ)))⟩:=λG s S=>
 plainObj_wpAny_Assign_Attribute (Yh (E G s S) (λv s1 z=>z.casesOn λG1 g1 S1 q1 x' v gx w0 ad hx' hfa hfc st=>(vX ho hk hd hcl) G1 s1 S1 _ λov tk r1=>by
  obtain rfl:ov= .ref (G1.μ τh):=r1;refine BZ (s:={s1 with toks:=tk}) S1.SX S1.sr hi hc hp h30 λh' hs hO tk=>⟨G1.put τ x',g1.trans (.put hU),S1.BE gx w0 ad hx' hfa hfc st L hi rfl rfl (λz'=>Sg) (λb n=>hs.2 b λz=>n (z▸S1.sr.own τh _ _ hi rfl (.inr rfl))) ?_,rfl,q1.trans (SS.heap h' tk)⟩;have:=hO (G1.put τ x') (λp m n y r=>r.mono (.put λz=>z rfl) (hkp p m n)) (.g9 τ) (Q1 L.n) (v.trans (yh wb H6.symm));exact this) λz' z' z=>z) (hs _)
end
section
variable{c:Cx}{F:Fm}{W:Wd}{vs:xh AV}{G G' G2:Gh}{h h' h2:Pf}{τ:Tg}{o:d9}{U:Tg->Prop}{s s':Uh}{a b r:AV}{t:Kh}{y:Str}{d:Jh}{i k:Dh}{x:Mh}{e:Expr}{ob:He}
def Gh.hold(G:Gh)(x:Mh)(ob:He):Gh:={G with K:=λb=>if b=x then some ob else G.K b}
def Gh.u0(G:Gh)(x:Mh):Gh:={G with K:=λb=>if b=x then none else G.K b}
theorem Gr.hold(q:¬G.has x):Gr U G (G.hold x ob):=
 ⟨λz' z' e=>e,λb z e=>⟨(Fh λy=>s9 (y▸e) (G.v8 q).2.2.1).trans e,rfl⟩,λz' z' e=>⟨e,rfl⟩,λz' z'=>rfl⟩
structure L5(F:Fm)(G:Gh)(h:Pf)(x:Mh):Prop where
 has:¬G.has x
 fa:x∉F.fa
 fc:∀y d,F.env.cells.lookup y=some d->d≠x
theorem ST.new(S:ST F c G h)(hx:h.objs.size<=x):L5 F G h x:=⟨S.sr.fresh hx,S.fr.fresh hx,λy d e z=>(S.fr.alive.2 y d e).elim λz' q=>Nat.not_lt.mpr hx (z▸vf q)⟩
theorem ST.hold(S:ST F c G h)(N:L5 F G h x)(e:h.get? x=some ob):ST F c (G.hold x ob) h:=by
 haveI n:=G.v8 N.has;refine⟨S.sr.grow (.hold N.has) rfl rfl (λb z q=> ?_) (λb z q=> ?_) (λb τ z=>⟨(S.sr.at_ b _ z).1.1,(Fh λ(y)=>s9 (y▸z) n.1).trans (S.sr.at_ b _ z).1.2.1⟩),S.fr.mono (.hold N.has) (λz' v z'=>v.V9) (λb m q=>S.fr.rY b m (q.imp id λq=>q.imp (λq=>q.imp λo q=>q.imp id λq=>(Fh λ(y:b=x)=>N.fa (y▸m)).symm.trans q) id)) λz' z' z' z=>z⟩
 ·by_cases y:b=x
  ·refine rL y ?_;exact n.2.2.2
  ·exact S.sr.kz b z ((Fh y).symm.trans q)
 ·by_cases y:b=x
  ·exact q.elim (λq=>S.sr.y9 b z (.inl q)) λq=>by refine rL y ?_;exact e.trans ((Lh y).symm.trans q)
  ·exact S.sr.y9 b z (q.imp id λq=>(Fh y).symm.trans q)
structure rp(F:Fm)(U:Tg->Prop)(c:Cx)(G G2:Gh)(h2:Pf)(x:Mh)(ob:He):Prop where
 S:ST F c (G2.u0 x) h2
 g:Gr U G (G2.u0 x)
 n:L5 F (G2.u0 x) h2 x
 at_:h2.get? x=some ob
 v:∀a v,F9 G2 a v->F9 (G2.u0 x) a v
theorem ST.u0(N:L5 F G h x)(g:Gr U (G.hold x ob) G2)(S:ST F c G2 h2):rp F U c G G2 h2 x ob:=by
 haveI k:=g.k x _ (Lh rfl);haveI n:=G.v8 N.has;have o:=Option.eq_none_iff_forall_ne_some.mpr λτ z=>s9 k.1 (S.sr.at_ x _ z).1.2.1;have l:∀b z,(G2.u0 x).K b=some z->b≠x/\G2.K b=some z:=λb z q=>by
  haveI q:(if b=x then none else G2.K b)=some z:=q;split at q
  ·cases q
  ·rename_i y;exact⟨y,q⟩
 haveI v:∀a v,F9 G2 a v->F9 _ a v:=λa v r=>F9.V7 ⟨λz' z' z=>z,λz' z'=>rfl⟩ a.V9 r;refine⟨⟨⟨S.sr.base,λb z q=>S.sr.y9 b z (q.imp id λq=>(l b z q).2),S.sr.S7,S.sr.fX,λb z q=>S.sr.kz b z (l b z q).2,λτ z q=>OR.V7 ⟨λz' z' z=>z,λz' z'=>rfl⟩ z.V9 (S.sr.g9 _ z q),S.sr.own,S.sr.O5,λb τ q=> ?_⟩,S.fr.st,?_,?_,S.fr.live,λb m q=>S.fr.rY b m (q.imp id λq=>q.imp (λq=>q.imp λz q=>q.imp id λq=>(l b z q).2) id),λy d q=>⟨(S.fr.e5 y d q).1,(S.fr.e5 y d q).2.imp id λz=> ?_⟩⟩,⟨g.p,λb z q=> ?_,g.z,g.m⟩,⟨(Gh.D4 ⟨o,k.2.trans n.2.1,Lh rfl,S.sr.kz x ob k.1⟩),N.fa,N.fc⟩,S.sr.y9 x _ (.inr k.1),v⟩
 ·obtain⟨y,z⟩:=S.sr.at_ b _ q
  exact⟨⟨y.1,Option.eq_none_iff_forall_ne_some.mpr λz q=>s9 (l b z q).2 y.2.1,y.2.2⟩,z⟩
 ·exact S.fr.ns.imp λm q=>⟨q.1,λx w e1 p=>(q.2 x w e1 p).imp λy r=>⟨r.1,v _ _ r.2⟩⟩
 ·exactλx w e1 p=>(S.fr.cell x w e1 p).imp λc q=>q.imp λy q=>⟨q.1,q.2.1,v _ _ q.2.2⟩
 ·refine rL (show(G2.u0 x).K d=G2.K d from Fh (N.fc y d q)) ?_;exact z
 ·have e:b≠x:=λy=>s9 (y▸q) n.2.2.1;obtain⟨y,w⟩:=g.k b z ((Fh e).trans q);exact⟨(Fh e).trans y,w⟩
theorem ST.same(S:ST F c G h)(N:L5 F G h x)(hs:Sf x h h'):ST F c G h':=
 ⟨S.sr.frame N.has hs,S.fr.step (hs.2 _ λq=>N.fa (q▸S.fr.st.GD)) λy d q=>hs.2 d (N.fc y d q)⟩
theorem ST.ext(S:ST F c G h)(N:L5 F G h x)(hs:Oa x h h'):ST F c G h':=
 ⟨S.sr.step λb q=>keeps_eq1 (S.sr.live q) λob e=>hs b _ (λz=>N.has (z▸q)) e,S.fr.step (keeps_eq1 S.fr.alive.1 λob e=>hs _ _ (λz=>N.fa (z▸S.fr.st.GD)) e) λy d q=>keeps_eq1 (S.fr.alive.2 y d q) λob e=>hs d _ (N.fc y d q) e⟩
where keeps_eq1 {h h':Pf} {a:Mh} (e:∃o,h.get? a=some o) (k:∀o,h.get? a=some o->h'.get? a=some o):h'.get? a=h.get? a:=e.elim λo e=>(k o e).trans e.symm
def owners:xh Cc:=["enumerate","zip","dict_itemiterator","dict_reverseitemiterator","odict_iterator","itertools.zip_longest","itertools.pairwise"]
def nY(h:Pf)(I:Mh):Prop:=∃o n vs,h.get? I=some o/\o.cls= .type n/\o.data= .fields vs/\owners.contains n=false
set_option tactic.hygienic true in
theorem nY.go{I:Mh}{A:Kd}{t:Expr}{v:Nh}{Q:Ib->Uh->Prop}{E:Nh->Uh->Prop}(x:nY s.heap I)(q:Q () s):og (Mk W) A (letOwnedTupleGo t (.ref I) v) Q E s:=by
 obtain⟨o,n,vs,e,h,hd,hn⟩:=x;cases t<;>(first|exact Ih q|skip)
 all_goals
  cases v<;>(first|exact Ih q|skip)
  refine zh (wpAny_load e ?_);refine rL h (rL hd ?_);rename_i a;show og _ A (if(owners.contains n&&vs[0]? ==some _)=true then _ else _) Q E s;exact rL (Fh (by rw [hn];exact wg)) (Ih q)
structure MD W G I(vs:xh AV)(q:xh (Mh×He))(S:Mh->Pf->Prop):Prop where
 live:∀i h,S i h->nY h I
 frame:∀i h h',S i h->h'.get? I=h.get? I->S i h'
 self:∀i A s Q E,S i s.heap->Q (.ref I) s->og (Mk W) A (pyIter (.ref I)) Q E s
 item:∀i x A s Q,vs[i]? =some x->A.handled=none->(∀p∈q,s.heap.get? p.1=some p.2)->S i s.heap->
  (∀v h' tk,F9 G x v->S (i+1) h'->Sf I s.heap h'->Q (some v) {s with heap:=h',toks:=tk})->og (Mk W) A (pyNext (.ref I)) Q no s
 done:∀A s Q,A.handled=none->(∀p∈q,s.heap.get? p.1=some p.2)->S vs.length s.heap->(∀h' tk,Oa I s.heap h'->Q none {s with heap:=h',toks:=tk})->og (Mk W) A (pyNext (.ref I)) Q no s
inductive Sr(F:Fm)(c:Cx)(G:Gh)(s:Uh)(vs:xh AV)(v:Nh)(s':Uh):Prop
 |mk (G':Gh) (e:Gr q0 G G') (S:ST F c G' s'.heap) (q:SS s s') (I:Mh) (pr:xh (Mh×He)) (St:Mh->Pf->Prop) (z:v= .ref I) (N:L5 F G' s'.heap I) (it:MD F.W G' I vs pr St) (st:St 0 s'.heap) (hp:∀p∈pr,G'.P p.1=some p.2\/∃τ,G'.Z p.1=some (τ,p.2))
def ND(F:Fm)(c:Cx)(a:AV)(vs:xh AV):Prop:=∀G s x,ST F c G s.heap->F9 G a x->og (Mk F.W) F.A (pyIter x) (Sr F c G s vs) no s
variable{α:Type}{c1 c2 c3:Cx}{σ:Tg->Ah d9}{as:xh AV}{xs:xh (Str×AV)}{es:xh Expr}{U':Tg->Prop}{R:Gh->α->Prop}{u:Kh}{fl:Fl}{pos:Cf}{ds:xh Jh}{f:Dh->Ah AV}
def Mp(σ:Tg->Ah d9)(a:AV)(vs:xh AV):Prop:=(∃ds,a= .a9 (.list ds)/\vs=ds.map .a9)\/∃τ,a= .g9 τ/\σ τ=some (.list false vs)
theorem wA{v:Nh}(S:SR W σ G h)(hl:Mp σ a vs)(r:F9 G a v):∃y items n,v= .ref y/\(G.P y=some (listOf items n)\/∃τ,G.Z y=some (τ,listOf items n))/\r9 (F9 G) vs items.toList:=
 hl.elim (λq=>q.elim λds q=>by
  rw [q.1] at r;exact q.2▸r.imp λy r=>r.imp λitems r=>r.imp λn r=>⟨r.1,.inl r.2.1,r.2.2.M6⟩) λq=>q.elim λτ q=>(S.O5 _ _ _ q.2 rfl rfl).elim λob z=>by
  obtain⟨items,n,y⟩:=S.g9 _ _ q.2;rw [q.1] at r;exact⟨_,items,n,r,.inr ⟨τ,Bh ((S.S7 _ _ _ z).symm.trans y.1)▸z⟩,y.2⟩
theorem aR(hl:Mp c.σ a vs):ND F c a vs:=λG s v S r=>by
 obtain⟨y,items,n,rfl,p,q⟩:=wA S.sr hl r;have g:=p.elim (λp=>S.sr.y9 _ _ (.inl p)) λp=>p.elim λz' p=>S.sr.S7 _ _ _ p;refine wpAny_pyIter_list (U8 g) ⟨G,.refl,S.push _,SS.heap _ _,s.heap.objs.size,[(y,listOf items n)],λi h=>h.IsListIter s.heap.objs.size y i,rfl,⟨S.sr.fresh (Oh _),S.fr.fresh (Oh _),(S.new (Oh _)).fc⟩,⟨(λi h ⟨o,w,K,hd⟩=>⟨o,_,_,w,K,hd,by decide⟩),(λi h h' ⟨o,w,r⟩ q=>⟨o,q.trans w,r⟩),(λi A s Q E l q=>wpAny_pyIter_listiter l q),?_,?_⟩,⟨_,Lg _ rfl,rfl,rfl⟩,λz m=>List.mem_singleton.mp m▸p⟩
 ·exactλi x A s Q hx z' hp l B=>by
   obtain⟨v,H,I⟩:=Ai q hx;exact wpAny_pyNext_list_item l (U8 (hp _ (.head _))) H λh' D hs=>B v _ _ I D hs
 ·exactλA s Q J hp l B=>wpAny_pyNext_list_end J l (U8 (hp _ (.head _))) (by rw [Array.getElem?_eq_none_iff,q.length];exact Oh _) λh' hs=>B _ _ hs
theorem BV{y n:Mh}{items:gf Nh}(S:ST F c G s.heap)(p:G.P y=some (r7 items n))(q:r9 (F9 G) vs items.toList):og (Mk F.W) F.A (pyIter (.ref y)) (Sr F c G s vs) no s:=by
 refine iter_tuple ⟨_,S.sr.y9 _ _ (.inl p),rfl,_,rfl⟩ ⟨G,.refl,S.push _,SS.heap _ _,s.heap.objs.size,[(y,r7 items n)],λi h=>IsTupIter h s.heap.objs.size y i,rfl,⟨S.sr.fresh (Oh _),S.fr.fresh (Oh _),(S.new (Oh _)).fc⟩,⟨(λi h ⟨o,l,J,hd⟩=>⟨o,_,_,l,J,hd,by decide⟩),(λi h h' ⟨o,l,r⟩ q=>⟨o,q.trans l,r⟩),(λi A s Q E g q=>wpAny_pyIter_tupleiter g q),?_,?_⟩,⟨_,Lg _ rfl,rfl,rfl⟩,λz m=>List.mem_singleton.mp m▸ .inl p⟩
 ·exactλi x A s Q hx z' hp g w=>by
   obtain⟨v,D,H⟩:=Ai q hx;exact next_tuple_item g ⟨_,hp _ (.head _),rfl,_,rfl⟩ D λh' B hs=>w v _ _ H B hs
 ·exactλA s Q I hp g w=>next_tuple_end I g ⟨_,hp _ (.head _),rfl,_,rfl⟩ (by rw [Array.getElem?_eq_none_iff,q.length];exact Oh _) λh' hs=>w _ _ hs
theorem AF(h:∀G v,F9 G a v->∃y items n,v= .ref y/\G.P y=some (r7 items n)/\r9 (F9 G) vs items.toList):ND F c a vs:=λG s v S r=>by
 obtain⟨y,items,n,rfl,p,q⟩:=h G v r;exact BV S p q
theorem AL:∀G v,F9 G (.a9 (.tuple ds)) v->∃y items n,v= .ref y/\G.P y=some (r7 items n)/\r9 (F9 G) (ds.map .a9) items.toList:=λG v r=>
 r.imp λy r=>r.imp λitems r=>r.imp λn r=>⟨r.1,r.2.1,r.2.2.M6⟩
theorem gN{n:Dh}(H:0<=n)(I:n<=1000000):ND F c (.range n) ((ug n.toNat).map λ(i:Mh)=> .a9 (.int i)):=λG s v S r=>by
 obtain⟨y,K,L,t,rfl,p⟩:=r;have hsz:ya 0 n 1=n:=by rw [rangeSize_one];split;exact Int.sub_zero n;exact nb H (Int.not_lt.mp ‹_›)
 refine wpAny_pyIter_range (S.sr.y9 _ _ (.inl p)) (small_one (by decide) (by decide) (Vd (by decide) H) (Rf I (by decide))) ?_;refine rL hsz ?_;refine⟨G,.refl,S.push _,SS.heap _ _,s.heap.objs.size,[],λi h=>IsRangeIter h s.heap.objs.size (i) (n-i) 1,rfl,⟨S.sr.fresh (Oh _),S.fr.fresh (Oh _),(S.new (Oh _)).fc⟩,⟨(λi h l=>⟨_,_,_,l,rfl,rfl,by decide⟩),(λi h h' l q=>q.trans l),(λi A s Q E g q=>wpAny_pyIter_rangeiter g q),?_,?_⟩,?_,λz m=>(by cases m)⟩
 ·intro i x A _ Q hx _ _ g w;have D:i<n.toNat:=by
   by_cases q:i<n.toNat
   ·exact q
   ·rw [jb (by rw [Eh,Qg];exact me q)] at hx;cases hx
  rw [kg,Ob D] at hx;cases hx;refine wpAny_pyNext_range_item g (Int.sub_pos_of_lt (Int.lt_toNat.mp D)) λh' B hs=>w _ _ _ ⟨_,rfl⟩ ?_ hs;refine rL (show((i+1:Mh))=(i:Dh)+1 from rfl) ?_;rw [<-Int.sub_sub];exact B
 ·intro A _ Q J _ g w;rw [Eh,Qg] at g;exact wpAny_pyNext_range_end J g (Int.sub_nonpos_of_le (Int.self_le_toNat n)) λh' hs=>w _ _ hs
 ·show IsRangeIter _ _ _ _ _;exact rL (show n-((0:Mh))=n from Int.sub_zero n) (Lg _ rfl)
def Lp(F:Fm)(U:Tg->Prop)(target:Expr)(body:xh qf)(fl:Fl)(c':Cx):xh AV->Cx->Prop
 |[],c=>fl= .next/\c'=c
 |x::xs,c=>∃c1 c2,As F c target x c1/\((Xs F U c1 body .next c2/\∃c3:Cx,c3.σ=c2.σ/\(∀y v,c3.ρ.lookup y=some v->c2.ρ.lookup y=some v)/\Lp F U target body fl c' xs c3)\/(Xs F U c1 body fl c2/\c'=c2/\fl≠ .next))
theorem ST.cut(S:ST F c G h){c':Cx}(hs:c'.σ=c.σ)(g:∀y v,c'.ρ.lookup y=some v->c.ρ.lookup y=some v):ST F c' G h:=⟨hs▸S.sr,S.fr.sub g⟩
theorem aX{β:Type}{vs xs:xh β}{i:Mh}{x:β}(e:vs.drop i=x::xs):vs[i]? =some x/\vs.drop (i+1)=xs:=
 ⟨by refine rR (Wa) (rL e ?_);rfl,by refine rR List.tail_drop (rL e ?_);rfl⟩
inductive FI(F:Fm)(U:Tg->Prop)(target:Expr)(body:xh qf)(I:Mh)(vs:xh AV)(St:Mh->Pf->Prop)(G:Gh)(s:Uh)(fl:Fl)(c1:Cx)(k:Mh)(s':Uh):Prop
 |mk (i:Mh) (rest:xh AV) (G':Gh) (c':Cx) (hr:vs.drop i=rest) (hk:k=rest.length+1) (hi:i+rest.length=vs.length) (g:Gr U G G') (S:ST F c' G' s'.heap) (st:St i s'.heap) (L:Lp F U target body fl c1 rest c') (q:SS s s') (N:L5 F G' s'.heap I)
inductive si(W:Wd) G(I:Mh) x(m:Pf->Prop)(s:Uh):Ah Nh->Uh->Prop
 |mk v h tk (r:F9 G x v) (t:m h) (hs:Sf I s.heap h):si W G I x m s (some v) {s with heap:=h,toks:=tk}
inductive ui(I:Mh)(s:Uh):Ah Nh->Uh->Prop
 |mk h tk (hs:Oa I s.heap h):ui I s none {s with heap:=h,toks:=tk}
theorem L5.move(N:L5 F G h x):L5 F G h' x:=⟨N.has,N.fa,N.fc⟩
inductive bw(F:Fm)(U:Tg->Prop)(P:Mh->Uh->Prop)(G:Gh)(s:Uh)(fl:Fl)(c1:Cx)(k:Mh):Flow->Uh->Prop
 |next {m:Mh} {s':Uh} (hm:m<k) (h:P m s'):bw F U P G s fl c1 k .next s'
 |ret {v:Nh} {s':Uh} (h:RA F U c1 G s (λG=>PI G fl) (.ret v) s'):bw F U P G s fl c1 k (.ret v) s'
inductive Qr F(U:Tg->Prop)(P:Mh->Uh->Prop) t(body:xh qf) I G s fl c1 k:Ah Nh->Uh->Prop
 |done {s':Uh} (h:RA F U c1 G s (λG=>PI G fl) .next s'):Qr F U P t body I G s fl c1 k none s'
 |item {v:Nh} {s':Uh} (l:nY s'.heap I) (h:og (Mk F.W) F.A (assign t F.env v) (λz' m=>og (Mk F.W) F.A (execs body F.env) (bw F U P G s fl c1 k) no m) no s'):Qr F U P t body I G s fl c1 k (some v) s'
theorem yN{t:Expr}{body:xh qf}{I:Mh}{h:xh (Mh×He)}{T:Mh->Pf->Prop}{s1:Uh}{k:Mh}{P:Mh->Uh->Prop}(r:∀k s,FI F U t body I vs T G s' fl c1 k s->P k s)(n:MD F.W G I vs h T)(m:∀v∈vs,v.keeps U)(hp:∀p∈h,G.P p.1=some p.2\/∃τ,G.Z p.1=some (τ,p.2))(X:FI F U t body I vs T G s' fl c1 k s1):
  og (Mk F.W) F.A (pyNext (.ref I)) (Qr F U P t body I G s' fl c1 k) no s1:=by
 obtain⟨i,rest,G,c',k,E,V,g,S,o,l,q,N⟩:=X;have h:=λp m=>(hp p m).elim (λz=>S.sr.y9 _ _ (.inl (g.p _ _ z))) λz=>z.elim λτ z=>S.sr.S7 _ _ _ (g.z _ _ z).1;cases rest with
 |nil=>exact n.done _ _ _ S.fr.st.mU h ((V)▸o) λH tk hs=> .done ⟨G,g,l.2▸S.ext N hs,l.1▸rfl,q.trans (SS.heap _ _)⟩
 |cons x xs=>
  obtain⟨hx,hd⟩:=aX k;refine n.item i x _ _ _ hx S.fr.st.mU h o λv H tk h K hs=> .item (n.live _ _ K) ?_;obtain⟨ob,_,_,R,_⟩:=n.live _ _ K;obtain⟨c,c,A,l⟩:=l;refine Yh (A _ {s1 with heap:=H,toks:=tk} v ((S.same N hs).hold N.move R) (h.mono (g.trans (.hold N.has)) (m x (Bf hx)))) (λz' s z=>z.casesOn λG h Z z' k=> ?_) λz' z' x=>x;haveI u:∀{c O} {Y:Uh},Gr U _ _->ST F c _ _->rp F U c _ O Y.heap I ob:=λq B=>ST.u0 (N.move (h':=H)) ((h.weak λz' z'=>trivial).trans q) B;have W:∀{E},SS _ _->SS _ E:=λb=>q.trans ((SS.heap _ _).trans (k.trans b));refine l.elim (λL=>Yh (L.1 _ _ Z) (λf Y y=>y.casesOn λO q B D M=> ?_) λz' z' x=>x) λL=>Yh (L.1 _ _ Z) (λf z' y=>y.casesOn λO q B D M=> ?_) λz' z' x=>x
  ·have Q:=u q B;exact L.2.elim λc J=>(D)▸ .next (rL E (uf _)) (r _ _ ⟨i+1,xs,_,_,hd,rfl,(Og i _).trans V,g.trans Q.g,Q.S.cut J.1 J.2.1,n.frame _ _ _ K (Q.at_.trans R.symm),J.2.2,W M,Q.n⟩)
  ·have Q:=u q B;cases fl with
   |next=>exact absurd rfl L.2.2
   |ret a=>exact D.elim λw r=>r.1▸ .ret ⟨_,g.trans Q.g,L.2.1▸Q.S,⟨w,rfl,Q.v _ _ r.2⟩,W M⟩
theorem AN{t:Expr}{body:xh qf}{I:Mh}{m:xh (Mh×He)}{S:Mh->Pf->Prop}(i:MD F.W G I vs m S)(L:Lp F U t body fl c1 vs c)(n:∀v∈vs,v.keeps U)(w:ST F c G s.heap)(N:L5 F G s.heap I)(q:S 0 s.heap)(hp:∀p∈m,G.P p.1=some p.2\/∃τ,G.Z p.1=some (τ,p.2)):
  vc (Mk F.W) F.A (.forLoop t (.ref I) body [] F.env) (λr s'=>match r with| .ok f=>RA F U c1 G s (λG=>PI G fl) f s'| .error e=>cameBackBy (Mk F.W) F.A F.env no e s') s:=
 codeAny_forLoop_any _ (λk z' X=>Yh (yN (λz' z' x=>x) i n hp X) (λr z' z=>z.casesOn (λh=>wpAny_execs_nil h) λl h=>l.go (Yh h (λz' z' h=>Yh h (λf z' b=>b.casesOn (λhm h=>⟨_,hm,h⟩) λh=>h) λz' z' x=>x.elim) λz' z' x=>x.elim)) λz' z' x=>x.elim) (vs.length+1) ⟨0,vs,G,c,rfl,rfl,kf _,.refl,w,q,L,.refl,N⟩
inductive ni(F:Fm)(U:Tg->Prop)(c:Cx)(G:Gh)(s:Uh)(vs:xh AV)(v:Nh)(s':Uh):Prop
 |mk (G1:Gh) (s1:Uh) (g:Gr U G G1) (q:SS s s1) (r:Sr F c G1 s1 vs v s')
def xW(F:Fm)(U:Tg->Prop)(c:Cx)(e:Expr)(vs:xh AV)(c':Cx):Prop:=∀G s,ST F c G s.heap->og (Mk F.W) F.A (bc e F.env) (λv s1=>og (Mk F.W) F.A (pyIter v) (ni F U c' G s vs) no s1) no s
theorem Do.iter(E:Ev F U c e a c1)(I:ND F c1 a vs):xW F U c e vs c1:=λG s S=>E.bind S λm v s1 l r g q=>Yh (I _ _ v l r) (λz' z' z=>⟨m,s1,g,q,z⟩) λz' z' x=>x
theorem zQ{k:Mh}(E:VT F U c es as c1)(hz:as.length<=1000):xW F U c (.Tuple es k pos) as c1:=λG s S=>
 Tuple_ ((E _).bind S λD z' s1 m n q A=>Wb (by
  obtain⟨B,w,p⟩:=m.data (ob:=r7 _ 0) rfl;exact Yh (BV w p (n.mono λa z' v r=>r.mono (.y9 (m.sr.fresh (Oh _))) a.V9)) (λz' z' z=>⟨_,{s1 with heap:=s1.heap.push _},q.trans B,A.trans ⟨rfl,rfl,rfl⟩,z⟩) λz' z' x=>x) (O9 (T4 n (vh hz (by decide)))))
theorem LJ{t iter:Expr}{body:xh qf}(E:xW F U' c iter vs c1)(p:∀τ,U' τ->U τ)(h:∀v∈vs,v.keeps U)(L:Lp F U t body fl c2 vs c1)(hs:∀x,ab iter F.env x=pure x):X1 F U' c (.For t iter body [] pos) fl c2:=λG s S=>
 wpAny_For (Yh (E G s S) (λv z' z=>Yh z (λK z' z=>z.casesOn λJ z' n A z=>z.casesOn λM H w B I z' z' e N i m hp=>by
  refine rL e ?_;refine cc (AN i L h w N m hp) λr z' z=> ?_;cases r with
  |error e=>exact z
  |ok f=>exact RA.uT (n.trans (H.weak λz' z'=>trivial)) (A.trans B) (z.casesOn λg D S r q=>⟨g,D.weak p,S,r,q⟩)) λz' z' x=>x) λz' z' x=>x) hs
variable{o':d9}
structure Fz(o o':d9):Prop where
 w:o.wr=true
 w':o'.wr=false
 ad:∀a b,o.ad a b↔b=a
 np:∀a b,o'.ad a b↔b=a
 r:∀W G h a,OR W G h a o↔OR W G h a o'
 k:∀U,o.keeps U↔o'.keeps U
 cls:∀D as,o'≠ .inst D as/\o≠ .inst D as
 w7:∀w f,o'≠ .p9 w f/\o≠ .p9 w f
theorem C5:Fz (.list true vs) (.list false vs):=⟨rfl,rfl,λz' z'=> .rfl,λz' z'=> .rfl,λz' z' z' z'=> .rfl,λz'=> .rfl,λz' z'=>⟨nofun,nofun⟩,λz' z'=>⟨nofun,nofun⟩⟩
theorem TZ{l:xh (Dh×AV)}:Fz (.M9 true l) (.M9 false l):=⟨rfl,rfl,λz' z'=> .rfl,λz' z'=> .rfl,λz' z' z' z'=> .rfl,λz'=> .rfl,λz' z'=>⟨nofun,nofun⟩,λz' z'=>⟨nofun,nofun⟩⟩
def Gh.freeze(G:Gh)(τ:Tg)(ob:He):Gh:={G with Z:=λb=>if b=G.μ τ then some (τ,ob) else G.Z b,own:=λb=>if b=G.μ τ then none else G.own b}
def Gh.dQ(G:Gh)(τ:Tg):Gh:={G with Z:=λb=>if b=G.μ τ then none else G.Z b,own:=λb=>if b=G.μ τ then some τ else G.own b}
theorem OR.X6{a:Mh}(p:G'.P=G.P)(m:G'.μ=G.μ)(r:OR W G h a o):OR W G' h a o:=r.V7 ⟨λz' z' z=>p▸z,λz' z'=>m▸rfl⟩ o.V9
theorem F9.X6{v:Nh}(p:G'.P=G.P)(m:G'.μ=G.μ)(r:F9 G a v):F9 G' a v:=r.V7 ⟨λz' z' z=>p▸z,λz' z'=>m▸rfl⟩ a.V9
theorem j8{β:Type}{p:Prop}[ub p]{a b:Ah β}{z:β}(q:(if p then a else b)=some z):(p/\a=some z)\/(¬p/\b=some z):=by
 by_cases x:p
 ·exact .inl ⟨x,(Lh x).symm.trans q⟩
 ·exact .inr ⟨x,(Fh x).symm.trans q⟩
structure Rest(F:Fm)(c:Cx)(G:Gh)(h:Pf)(τ:Tg)(o':d9)(ob:He):Prop where
 S:ST F ⟨c.ρ,up c.σ τ o'⟩ (G.freeze τ ob) h
 g:Gr q0 G (G.freeze τ ob)
 p:G.P (G.μ τ)=none
 z:G.Z (G.μ τ)=none
 st:Nd<G.μ τ
theorem ST.freeze(S:ST F c G h)(e:c.σ τ=some o)(z:Fz o o')(g:h.get? (G.μ τ)=some ob):Rest F c G h τ o' ob:=by
 have l:=S.sr.own _ o _ e z.w ((z.ad _ _).mpr rfl);obtain⟨⟨p,k,B,s⟩,_⟩:=S.sr.at_ _ _ l
 haveI E:Gr q0 G (G.freeze _ ob):=⟨λz' z' q=>q,λz' z' q=>⟨q,rfl⟩,λb z' q=>⟨(Fh λy=>s9 (y▸q) B).trans q,rfl⟩,λz' z'=>rfl⟩;refine⟨⟨⟨S.sr.base,S.sr.y9,λb t q y=>((j8 y).elim (λy=>y.1▸(sf (Bh y.2)).2▸g) λy=>S.sr.S7 b t q y.2),λb t q y=>(j8 y).elim (λy=>y.1▸s) λy=>S.sr.fX b t q y.2,λb q y=>(Fh λz=>s9 (z▸y) k).trans (S.sr.kz b q y),λt q y=>(OR.X6 (G:=G) (a:=G.μ t) rfl rfl ((R4 y).elim (λy=>y.1▸y.2▸(z.r _ _ _ _).mp (S.sr.g9 τ o e)) λy=>S.sr.g9 t q y.2)),λt q b y w r=>((R4 y).elim (λy=>absurd ((y.2▸z.w').symm.trans w) (by decide)) λy=>(Fh λ(m:b=_)=>y.1 (Bh ((S.sr.own t _ b y.2 w r).symm.trans (m▸l)))).trans (S.sr.own t q b y.2 w r)),λt q b y w r=>((R4 y).elim (λy=>⟨ob,(Lh (by rw [y.1,y.2] at r;exact(z.np _ _).mp r)).trans (rL y.1 rfl)⟩) λy=>(S.sr.O5 t q b y.2 w r).imp λob q=>(Fh λz=>s9 (z▸q) B).trans q),λb t q=> ?_⟩,S.fr.mono E (λz' v z'=>v.V9) (λb m q=>S.fr.rY b m ?_) λb q z' y=>by show(if b=_ then _ else _)=_;rw [y,Zb]⟩,E,p,B,s⟩
 ·obtain⟨n,q⟩:=(j8 q).resolve_left λq=>(by nomatch q.2);obtain⟨y,A,D,w,r⟩:=S.sr.at_ b t q
  refine⟨⟨y.1,y.2.1,(Fh n).trans y.2.2.1,y.2.2.2⟩,A,(u8 λm=>n ?_).trans D,w,r⟩;rw [m] at D r;exact(z.ad _ _).mp (Bh (D.symm.trans e)▸r)
 ·exact q.elim (λq=>q.elim λt q=>(j8 q).elim (λq=>(by nomatch q.2)) λq=> .inl ⟨t,q.2⟩) λq=>q.elim (λq=> .inr (.inl q)) λq=>q.elim λt q=>(j8 q).elim (λq=>q.1▸ .inl ⟨_,l⟩) λq=> .inr (.inr ⟨t,q.2⟩)
structure Mr F(c:Cx) U(l G:Gh) h τ o:Prop where
 S:ST F ⟨c.ρ,up c.σ τ o⟩ (G.dQ τ) h
 g:Gr U l (G.dQ τ)
theorem ST.dQ{D:Cx}(X:Rest F D G2 h2 τ o' ob)(z:Fz o o')(g:Gr U (G2.freeze τ ob) G)(u:U τ)(S:ST F c G h)(e:c.σ τ=some o'):Mr F c U G2 G h τ o:=by
 have m:G.μ _=G2.μ τ:=g.m _ u;obtain⟨Z,P⟩:=g.z _ _ (Lh rfl);rw [<-m] at Z P;have kn:=Option.eq_none_iff_forall_ne_some.mpr λo q=>s9 Z (S.sr.kz _ _ q);refine⟨⟨⟨S.sr.base,S.sr.y9,λb t q y=>((j8 y).elim (λy=>(by nomatch y.2)) λy=>S.sr.S7 b t q y.2),λb t q y=>(j8 y).elim (λy=>(by nomatch y.2)) λy=>S.sr.fX b t q y.2,λb q y=> ?_,λt q y=> ?_,λt q b y w r=> ?_,λt q b y w r=> ?_,λb t q=> ?_⟩,S.fr.st,?_,?_,S.fr.live,λb n q=>S.fr.rY b n ?_,λx d q=> ?_⟩,?_⟩
 ·show(if b=_ then none else G.Z b)=none;refine rL (S.sr.kz b q y) ?_;rw [Zb]
 ·exact OR.X6 (G:=G) (a:=G.μ t) rfl rfl ((R4 y).elim (λy=>y.1▸y.2▸(z.r _ _ _ _).mpr (S.sr.g9 _ _ e)) λy=>S.sr.g9 t q y.2)
 ·exact(R4 y).elim (λy=>(Lh (by rw [y.1,y.2] at r;exact(z.ad _ _).mp r)).trans (rL y.1 rfl)) λy=>(Fh λ(n:b=_)=>s9 (S.sr.own t _ b y.2 w r) (n▸(Option.eq_none_iff_forall_ne_some.mpr λt q=>s9 Z (S.sr.at_ _ _ q).1.2.2.1))).trans (S.sr.own t q b y.2 w r)
 ·exact(R4 y).elim (λy=>absurd ((y.2▸z.w).symm.trans w) (by decide)) λy=>(S.sr.O5 t q b y.2 w r).imp λob q=>(Fh λ(n)=>y.1 (sf (Bh ((n▸q).symm.trans Z))).1).trans q
 ·by_cases n:b=G.μ τ
  ·haveI:=(Bh ((Lh n).symm.trans q)).symm;exact rL this (rL n (⟨⟨(P.trans (m▸X.p)),kn,Lh rfl,m▸X.st⟩,o,q7,z.w,(z.ad _ _).mpr rfl⟩))
  ·obtain⟨y,p,B,w,r⟩:=S.sr.at_ b t ((Fh n).symm.trans q)
   exact⟨⟨y.1,y.2.1,(Fh n).trans y.2.2.1,y.2.2.2⟩,p,(u8 λm=>by rw [m,e] at B;exact absurd ((Bh B▸w).symm.trans z.w') (by decide)).trans B,w,r⟩
 ·exact S.fr.ns.imp λm q=>⟨q.1,λx v e1 A=>(q.2 x v e1 A).imp λy r=>⟨r.1,F9.X6 rfl rfl r.2⟩⟩
 ·exactλx v e1 A=>(S.fr.cell x v e1 A).imp λc q=>q.imp λy q=>⟨q.1,q.2.1,F9.X6 rfl rfl q.2.2⟩
 ·exact q.elim (λq=>q.elim λt q=>(j8 q).elim (λq=>q.1▸ .inr (.inr ⟨_,Z⟩)) λq=> .inl ⟨t,q.2⟩) λq=>q.elim (λq=> .inr (.inl q)) λq=>q.elim λt q=>(j8 q).elim (λq=>(by nomatch q.2)) λq=> .inr (.inr ⟨t,q.2⟩)
 ·exact⟨(Fh λ(n:d=_)=>(S.fr.e5 x d q).2.elim (λy=>S.fr.rY d y (n▸ .inr (.inr ⟨_,Z⟩))) λy=>by rw [n,kn] at y;cases y).trans (S.fr.e5 x d q).1,(S.fr.e5 x d q).2⟩
 ·have l:=(X.g.weak λz' z'=>trivial).trans g;exact⟨l.p,l.k,λb q y=>⟨(Fh λ(n:b=_)=>s9 y (n▸m▸X.z)).trans (l.z b q y).1,(l.z b q y).2⟩,l.m⟩
theorem Do.O5{t:ca α}(z:Fz o o')(e:c.σ τ=some o)(E:Do F (λt=>U t\/t=τ) ⟨c.ρ,up c.σ τ o'⟩ t R c1)(e1:c1.σ τ=some o')(hR:∀G τ v,R G v->R (Gh.dQ G τ) v):Do F U c t R ⟨c1.ρ,up c1.σ τ o⟩:=λG s S=>
 (S.sr.g9 τ o e).live ((z.ad _ _).mpr rfl)|>.elim λob g=>
 have X:=S.freeze e z g
 Yh (E _ s X.S) (λv s' y=>y.casesOn λG' g' S' r q=>have w:=S'.dQ X z g' (.inr rfl) e1;⟨_,w.g.weak λz'=> .inl,w.S,hR _ _ _ r,q⟩) λz' z' x=>x
theorem TD{s:qf}(z:Fz o o')(e:c.σ τ=some o)(E:X1 F (λt=>U t\/t=τ) ⟨c.ρ,up c.σ τ o'⟩ s fl c1)(e1:c1.σ τ=some o'):X1 F U c s fl ⟨c1.ρ,up c1.σ τ o⟩:=
 Do.O5 z e E e1 λG z' v r=>by
  cases fl with
  |next=>exact r
  |ret a=>exact r.imp λv r=>⟨r.1,r.2.X6 rfl rfl⟩
theorem wy(z:Fz o o')(g:c.σ τ=some o)(E:Ev F (λt=>U t\/t=τ) ⟨c.ρ,up c.σ τ o'⟩ e a c1)(e1:c1.σ τ=some o'):Ev F U c e a ⟨c1.ρ,up c1.σ τ o⟩:=Do.O5 z g E e1 λG z' v r=>r.X6 rfl rfl
inductive Ord(G:Gh)(f:Dh->Ah AV)(kvs:xh (Dh×Nh)):Prop
 |mk (l:xh (Dh×AV)) (r:r9 (λx y=>x.1=y.1/\F9 G x.2 y.2) l kvs) (e:∀x∈l,f x.1=some x.2)
theorem ZS{l:xh (Dh×AV)}{kvs:xh (Dh×Nh)}(r:r9 (λx y=>x.1=y.1/\F9 G x.2 y.2) l kvs):l.map (·.1)=kvs.map (·.1):=by
 induction r with
 |nil=>rfl
 |cons r _ i=>exact List.cons_eq_cons.mpr ⟨r.1,i⟩
variable{σ':Tg->Ah d9}{ρ:xh (Str×AV)}{ws:xh AV}{C:Mh}{j:Dh}
def Wh(F:Fm)(U:Tg->Prop)(t:Expr)(body:xh qf)(fl:Fl)(c':Cx):Mh->Cx->Prop
 |0,_=>False
 |n+1,c=>(It F U c t false c'/\fl= .next)\/∃c1 g,It F U c t true c1/\((Xs F U c1 body .next g/\∃l:Cx,l.σ=g.σ/\(∀y v,l.ρ.lookup y=some v->g.ρ.lookup y=some v)/\Wh F U t body fl c' n l)\/(Xs F U c1 body fl g/\c'=g/\fl≠ .next))
inductive WI F U test body G s fl c1 k s':Prop
 |mk G' c' (g:Gr U G G') (S:ST F c' G' s'.heap) (L:Wh F U test body fl c1 k c') (q:SS s s')
inductive Nr F U P body G s fl c1 k:Kh->Uh->Prop
 |done {s':Uh} (h:RA F U c1 G s (λG=>PI G fl) .next s'):Nr F U P body G s fl c1 k false s'
 |go {s':Uh} (h:og (Mk F.W) F.A (execs body F.env) (bw F U P G s fl c1 k) no s'):Nr F U P body G s fl c1 k true s'
theorem wU{t:Expr}{body:xh qf}{s1:Uh}{k:Mh}{P:Mh->Uh->Prop}(h:∀k s,WI F U t body G s' fl c1 k s->P k s)(X:WI F U t body G s' fl c1 k s1):og (Mk F.W) F.A (isTrue t F.env (bc t F.env)) (Nr F U P body G s' fl c1 k) no s1:=by
 obtain⟨Q,c',B,K,H,A⟩:=X;cases k with
 |zero=>exact H.elim
 |succ k=>
  refine H.elim (λL=>Yh (L.1 _ _ K) (λb z' y=>y.casesOn λg l S r q=>(r)▸ .done ⟨g,B.trans l,S,L.2▸rfl,A.trans q⟩) λz' z' x=>x) λL=>L.elim λc L=>L.elim λO L=>Yh (L.1 _ _ K) (λb M y=>y.casesOn λg l S r q=>(r)▸ .go ?_) λz' z' x=>x;refine L.2.elim (λL=>Yh (L.1 g M S) (λf J y=>y.casesOn λv z D n m=>(L.2.elim λT p=>(n)▸ .next (uf _) (h k J ⟨v,_,(B.trans l).trans z,D.cut p.1 p.2.1,p.2.2,(A.trans q).trans m⟩))) λz' z' x=>x) λL=>Yh (L.1 g M S) (λf J y=>y.casesOn λv z D n m=> ?_) λz' z' x=>x
  ·cases fl with
   |next=>exact absurd rfl L.2.2
   |ret a=>exact n.elim λw r=>r.1▸ .ret ⟨v,(B.trans l).trans z,L.2.1▸D,⟨w,rfl,r.2⟩,(A.trans q).trans m⟩
theorem lL{t:Expr}{body:xh qf}{n:Mh}(L:Wh F U t body fl c1 n c):X1 F U c (.While t body [] pos) fl c1:=λG s S=>
 wpAny_While (codeAny_whileLoop (WI F U _ _ G s _ _) (λk z' X=>Yh (wU (λz' z' x=>x) X) (λb z' z=>z.casesOn (λh=>wpAny_execs_nil h) λh=>Yh h (λf z' b=>b.casesOn (λhm h=>⟨_,hm,h⟩) λh=>h) λz' z' x=>x.elim) λz' z' x=>x.elim) n ⟨G,c,.refl,S,L,.refl⟩)
def Ts(F:Fm)(U:Tg->Prop)(c:Cx)(i:xh Expr)(t:Kh)(c':Cx):Prop:=
 Do F U c (forIn i true λc r=>if r=true then do let o<-isTrue c F.env (bc c F.env);pure (ld o) else pure (ld r)) (λz' b=>b=t) c'
theorem xP:Ts F U c [] true c:=λG s S=>wpAny_tests_nil (.here S rfl .refl)
theorem pH(E:It F U c e t c1):Ts F U c [e] t c1:=λG s S=>wpAny_tests_one (E G s S)
def Tk(F:Fm)(tg:Expr)(a:AV)(ρ ρ1:xh (Str×AV)):Prop:=(∀σ,As F ⟨ρ,σ⟩ tg a ⟨ρ1,σ⟩)/\∀z v,ρ.lookup z=some v->ρ1.lookup z=some v
structure Cm where
 x:Expr
 ifs:xh Expr
 γ:Type
 cmp:(γ->Uh->Prop)->Uh->Prop
 R:AV->Gh->γ->Prop
def Cp(F:Fm)(U:Tg->Prop)(k:Cm)(n:xh (Str×AV))(σ':Tg->Ah d9):xh AV->(Tg->Ah d9)->xh AV->Prop
 |[],σ,ws=>ws=[]/\σ'=σ
 |a::vs,σ,ws=>∃(g:xh (Str×AV)) (l:Tg->Ah d9),Tk F k.x a n g/\((Ts F U ⟨g,σ⟩ k.ifs false ⟨g,l⟩/\Cp F U k n σ' vs l ws)\/∃b m us,Ts F U ⟨g,σ⟩ k.ifs true ⟨g,l⟩/\(∀G s,ST F ⟨g,l⟩ G s.heap->k.cmp (RA F U ⟨g,m⟩ G s (k.R b)) s)/\b.keeps U/\ws=b::us/\Cp F U k n σ' vs m us)
structure fD(F:Fm)(U:Tg->Prop)(k:Cm)(D:Mh)(rD:k.γ->ca Ib)(cont:Gh->Pf->xh AV->Prop):Prop where
 mo:∀(P Q:k.γ->Uh->Prop) s,k.cmp P s->(∀x s,P x s->Q x s)->k.cmp Q s
 ex:∀G h us,cont G h us->∃od,h.get? D=some od
 mv:∀G G' h h' us,cont G h us->Gr U G G'->(∀v∈us,v.keeps U)->h'.get? D=h.get? D->cont G' h' us
 rm:∀b G G' x,(∀a v,F9 G a v->F9 G' a v)->k.R b G x->k.R b G' x
 st:∀G s us b x (Q:Ib->Uh->Prop),cont G s.heap us->k.R b G x->us.length<=1000000->(∀h' tk,cont G h' (us++[b])->Sf D s.heap h'->Q () {s with heap:=h',toks:=tk})->og (Mk F.W) F.A (rD x) Q no s
inductive CI(F:Fm)(U:Tg->Prop)(kd:Cm)(ρ:xh (Str×AV))(I D:Mh)(cont:Gh->Pf->xh AV->Prop)(vs:xh AV)(St:Mh->Pf->Prop)(G:Gh)(s:Uh)(ws:xh AV)(σ:Tg->Ah d9)(k:Mh)(s':Uh):Prop
 |mk (i:Mh) (rest:xh AV) (G':Gh) (σ':Tg->Ah d9) (us us':xh AV) (hr:vs.drop i=rest) (hk:k=rest.length+1) (hi:i+rest.length=vs.length) (hu:us.length<=i) (g:Gr U G G') (S:ST F ⟨ρ,σ'⟩ G' s'.heap) (st:St i s'.heap) (L:Cp F U kd ρ σ rest σ' us') (q:SS s s') (N:L5 F G' s'.heap I) (M:L5 F G' s'.heap D) (r:cont G' s'.heap us) (e:us++us'=ws) (w:∀v∈us,v.keeps U)
inductive CE F U ρ D(c:Gh->Pf->xh AV->Prop) G s ws σ(r:Result) s':Prop
 |mk G' (z:r= .ok .next) (g:Gr U G G') (S:ST F ⟨ρ,σ⟩ G' s'.heap) (q:SS s s') (M:L5 F G' s'.heap D) (r:c G' s'.heap ws)
theorem L5.u0{I D:Mh}(N:L5 F G h I):L5 F (G.u0 D) h' I:=⟨λz=>N.has (z.imp id λz=>z.imp (λz=>z.imp λo z=>z.imp id λz=>((j8 z).resolve_left λz=>jc _ z.2.symm).2) id),N.fa,N.fc⟩
theorem L5.hold{I D:Mh}{ob:He}(N:L5 F G h I)(n:I≠D):L5 F (G.hold D ob) h' I:=⟨λz=>N.has (z.imp id λz=>z.imp (λz=>z.imp λo z=>z.imp id λz=>((j8 z).resolve_left λz=>n z.1).2) id),N.fa,N.fc⟩
structure vp(F:Fm)(U:Tg->Prop)(c:Cx)(G G2:Gh)(h2:Pf)(I D:Mh)(oi od:He):Prop where
 S:ST F c ((G2.u0 I).u0 D) h2
 g:Gr U G ((G2.u0 I).u0 D)
 N:L5 F ((G2.u0 I).u0 D) h2 I
 M:L5 F ((G2.u0 I).u0 D) h2 D
 i:h2.get? I=some oi
 d:h2.get? D=some od
 v:∀a v,F9 G2 a v->F9 ((G2.u0 I).u0 D) a v
theorem ST.two{I D:Mh}{o l:He}(N:L5 F G h I)(M:L5 F G h D)(n:I≠D)(g:Gr U ((G.hold D l).hold I o) G2)(S:ST F c G2 h2):vp F U c G G2 h2 I D o l:=
 have A:=ST.u0 (N.hold n (h':=h)) g S;have B:=ST.u0 M A.g A.S
 ⟨B.S,B.g,A.n.u0,B.n,A.at_,B.at_,λa v r=>B.v a v (A.v a v r)⟩
inductive Nx(P:Mh->Uh->Prop) k s:Prop
 |mk m (hm:m<k) (h:P m s)
inductive Xr(F:Fm)(P:Mh->Uh->Prop)(s:ca Ib) k:Kh->Uh->Prop
 |no {s':Uh} (h:Nx P k s'):Xr F P s k false s'
 |yes {s':Uh} (h:og (Mk F.W) F.A s (λz'=>Nx P k) no s'):Xr F P s k true s'
inductive Zr F(P:Mh->Uh->Prop)(Q:Uh->Prop) I y(i:xh Expr)(s:ca Ib) k:Ah Nh->Uh->Prop
 |done {s':Uh} (h:Q s'):Zr F P Q I y i s k none s'
 |item {v:Nh} {s':Uh} (l:nY s'.heap I) (h:og (Mk F.W) F.A (assign y F.env v) (λz' p=>og (Mk F.W) F.A (forIn i true λc r=>if r=true then do let o<-isTrue c F.env (bc c F.env);pure (ld o) else pure (ld r)) (Xr F P s k) no p) no s'):Zr F P Q I y i s k (some v) s'
theorem KQ{kd:Cm}{H:ca Ib}{O:kd.γ->ca Ib}{g:Gh->Pf->xh AV->Prop}{I D:Mh}{h:xh (Mh×He)}{j:Mh->Pf->Prop}{s1:Uh}{k:Mh}{P:Mh->Uh->Prop}{Q:Uh->Prop}(C:fD F U kd D O g)(E:∀Q s,kd.cmp (λx s=>og (Mk F.W) F.A (O x) Q no s) s->og (Mk F.W) F.A H Q no s)
  (hP:∀k s,CI F U kd ρ I D g vs j G s' ws σ' k s->P k s) (q:∀s,CE F U ρ D g G s' ws σ' (.ok .next) s->Q s) (Y:MD F.W G I vs h j) (hv:∀v∈vs,v.keeps U)
  (hz:vs.length<=1000000) (hp:∀p∈h,G.P p.1=some p.2\/∃τ,G.Z p.1=some (τ,p.2)) (n:I≠D) (X:CI F U kd ρ I D g vs j G s' ws σ' k s1):og (Mk F.W) F.A (pyNext (.ref I)) (Zr F P Q I kd.x kd.ifs H k) no s1:=by
 obtain⟨i,rest,G,h,us,u,h,hk,m,W,V,w,t,l,q1,N,d,J,e1,w1⟩:=X;have T:=λp m=>(hp p m).elim (λz=>w.sr.y9 _ _ (.inl (V.p _ _ z))) λz=>z.elim λτ z=>w.sr.S7 _ _ _ (V.z _ _ z).1;cases rest with
 |nil=>
  refine Y.done _ _ _ w.fr.st.mU T ((m)▸t) λZ tk hs=> .done (q _ ⟨G,rfl,V,l.2▸w.ext N hs,q1.trans (SS.heap _ _),d.move,?_⟩);rw [l.1,Th] at e1;exact e1▸C.mv _ _ _ _ _ J .refl w1 ((C.ex _ _ _ J).elim λy e=>(hs _ _ n.symm e).trans e.symm)
 |cons x xs=>
  obtain⟨hx,hd⟩:=aX h;refine Y.item i x _ _ _ hx w.fr.st.mU T t λv Z tk r u hs=> .item (Y.live _ _ u) ?_;obtain⟨o,_,_,hI,_⟩:=Y.live _ _ u;obtain⟨y,h⟩:=C.ex _ _ _ J;haveI gh:Gr U _ ((G.hold D y).hold I o):=(Gr.hold d.has).trans (.hold (N.hold n (h':=Z)).has);refine l.elim λq l=>l.elim λq l=> ?_;have K:=l.1.2;refine Yh (l.1.1 _ _ {s1 with heap:=Z,toks:=tk} v (((w.same N hs).hold d.move ((hs.2 D n.symm).trans h)).hold (N.hold n) hI) (r.mono (V.trans gh) (hv x (Bf hx)))) (λz' s z=>z.casesOn λG r S z' q3=> ?_) λz' z' x=>x;have un:∀{c B} {A:Uh},Gr U _ _->ST F c _ _->vp F U c _ B A.heap I D _ y:=λq S=>ST.two N d n ((r.weak λz' z'=>trivial).trans q) S;have g:∀{R B A vs' us''},Gr U _ _->ST F _ _ _->A.heap.get? I=some _->SS _ _->L5 F _ _ I->L5 F _ _ D->g B _ _->us''++vs'=ws->(∀v∈us'',v.keeps U)->us''.length<=i+1->Cp F U _ _ _ _ R _->Nx P k A:=λq S o M N h r e w g L=>
   ⟨xs.length+1,hk▸uf _,hP _ _ ⟨i+1,xs,_,_,_,_,hd,rfl,((Og i xs.length).trans m),g,V.trans q,S,Y.frame _ _ _ u (o.trans hI.symm),L,(λa=>q1.trans ((SS.heap Z tk).trans (q3.trans a))) M,N,h,r,e,w⟩⟩
  refine l.2.elim (λL=>Yh (L.1 _ _ S) (λb z' z=>z.casesOn λB q S r M=> ?_) λz' z' x=>x) λL=>L.elim λb L=>L.elim λf L=>L.elim λu L=>Yh (L.1 _ _ S) (λt A z=>z.casesOn λB q S r M=>(r)▸ .yes ?_) λz' z' x=>x
  ·haveI Q:=un q S;exact(r)▸ .no (g Q.g (Q.S.cut rfl K) Q.i M Q.N Q.M (C.mv _ _ _ _ _ J Q.g w1 (Q.d.trans h.symm)) e1 w1 (vg W) L.2)
  ·refine E _ _ (C.mo _ _ _ (L.2.1 _ A S) λx s z=>z.casesOn λG r S E k=> ?_);haveI Q:=un (q.trans r) S;refine C.st _ _ us b x _ (C.mv _ _ _ _ _ J Q.g w1 (Q.d.trans h.symm)) (C.rm _ _ _ _ Q.v E) (vh W (vh (vh (Qh i _) (Ph m)) hz)) λq t d h=>g Q.g ((Q.S.cut (c':=⟨ρ,f⟩) rfl K).same Q.M h) ((h.2 I n).trans Q.i) (M.trans (k.trans (SS.heap q _))) Q.N.move Q.M.move d ?_ ?_ ?_ L.2.2.2.2
   ·rw [ag];exact(yh _ L.2.2.2.1).symm.trans e1
   ·exactλv m=>(List.mem_append.mp m).elim (w1 v) λm=>List.mem_singleton.mp m▸L.2.2.1
   ·refine rL Ch ?_;exact Vh W
def wW(W:Wd)(e:Expr)(p:Cf)(x:Expr)(ifs:xh Expr)(e6:ca Ib)(it acc:Nh)(env:Ub):Prop:=(∀A:Kd,A.under (.compLoop e 0 it acc env)=A)/\(Mk W).den (.compLoop e 0 it acc env)=(do
 ma p
 match<-pyNext it with
 |none=>pure (Fin.done .next)
 |some v=>
  letOwnedTupleGo x it v
  assign x env v;let mut ok:=true
  for c in ifs do
   if ok then ok<-isTrue c env (bc c env)
  if ok then e6
  again (.compLoop e 0 it acc env)).onRaise (λx=>do noteFrame x env;theTreesLotGoes x)
theorem LQ{e:Expr}{p:Cf}{kd:Cm}{A:ca Ib}{q:kd.γ->ca Ib}{g:Gh->Pf->xh AV->Prop}{I D:Mh}{B:xh (Mh×He)}{S:Mh->Pf->Prop}(T:wW F.W e p kd.x kd.ifs A (.ref I) (.ref D) F.env)(C:fD F U kd D q g)(w:∀Q s,kd.cmp (λx s=>og (Mk F.W) F.A (q x) Q no s) s->og (Mk F.W) F.A A Q no s)(K:MD F.W G I vs B S)(L:Cp F U kd ρ σ' vs σ ws)(O:∀v∈vs,v.keeps U)
  (hz:vs.length<=1000000) (P:ST F ⟨ρ,σ⟩ G s.heap) (N:L5 F G s.heap I) (M:L5 F G s.heap D) (J:S 0 s.heap) (hp:∀p∈B,G.P p.1=some p.2\/∃τ,G.Z p.1=some (τ,p.2)) (n:I≠D) (H:g G s.heap []):
  vc (Mk F.W) F.A (.compLoop e 0 (.ref I) (.ref D) F.env) (CE F U ρ D g G s ws σ') s:=by
 refine codeAny_loop rfl (CI F U _ _ I D _ _ _ G s ws _) (λk z' X=> ?_) _ ⟨0,vs,G,σ,[],ws,rfl,rfl,kf _,Oh _,.refl,P,J,L,.refl,N,M,H,rfl,λz' m=>(by nomatch m)⟩;rw [T.1,T.2];refine wpAny_noted (zh (Re (zh (Yh (KQ C w (λz' z' x=>x) (λz' x=>x) K O hz hp n X) (λr z' z=> ?_) λz' z' x=>x.elim))));cases z with
 |done h=>exact Ih h
 |item l h=>
  refine zh (l.go (zh (Yh h (λz' z' h=>zh (Yh h (λt z' c=> ?_) λz' z' x=>x.elim)) λz' z' x=>x.elim)));cases c with
  |no h=>exact Ih ⟨rfl,h.casesOn λm hm h=>⟨m,hm,h⟩⟩
  |yes h=>exact zh (Yh h (λz' z' h=>Ih ⟨rfl,h.casesOn λm hm h=>⟨m,hm,h⟩⟩) λz' z' x=>x.elim)
theorem bQ{e x iter:Expr}{i:xh Expr}{s:Bg}{g acc:Nh}{env:Ub}:wW W (.ListComp e [⟨x,iter,i,0⟩] s pos) iter.pos x i (do let _<-call (.builtin "list.append") [acc,<-bc e env]) g acc env:=⟨λz'=>rfl,rfl⟩
theorem cQ{k v x iter:Expr}{i:xh Expr}{p:Bg}{q:Nh}{D:Mh}{env:Ub}:wW W (.DictComp k v [⟨x,iter,i,0⟩] p pos) iter.pos x i (do
 let m<-bc k env;let n<-na [m] (bc v env)
 ma {k.pos with endLine:=v.pos.endLine,endCol:=v.pos.endCol}
 na [m,n] (dictSet D m n)) q (.ref D) env:=⟨λz'=>rfl,rfl⟩
def i0(env:Ub)(cs:xh (Str×Addr))(x:Str×zc):xh (Str×Addr):=if(x.2== .free)=true then(match env.cells.lookup x.1 with|some c=>(x.1,c)::cs|none=>cs) else cs
def pW(scope:Bg)(env:Ub):xh (Str×Addr):=scope.names.foldl (i0 env) []
theorem lJ{env:Ub}{n:xh (Str×zc)}{cs:xh (Str×Addr)}(h:∀x∈n,x.2= .free->∃c,env.cells.lookup x.1=some c):
  (forIn n cs λx r=>do
   if x.2== .free then
    let c<-cellOf env x.1
    pure (ld ((x.1,c)::r))
   else pure (ld r):ca (xh (Str×Addr)))=pure (n.foldl (i0 env) cs):=by
 induction n generalizing cs with
 |nil=>rfl
 |cons x _ i=>
  rw [List.forIn_cons,List.foldl_cons];unfold i0;by_cases q:(x.2==Ef)=true
  ·obtain⟨c,w⟩:=h x (.head _) (eq_of_beq q);refine rL (Lh q) (rL (Lh q) ?_);unfold cellOf;exact rL w (i λy l=>h y (.tail _ l))
  ·exact rL (Fh q) (rL (Fh q) (i λy l=>h y (.tail _ l)))
theorem oW{scope:Bg}{env:Ub}(h:∀x∈scope.names,x.2= .free->∃c,env.cells.lookup x.1=some c):closureFor scope env=pure (pW scope env):=by
 unfold closureFor pW;refine rR (lJ h) ?_;rw [bind_pure]
theorem Gi{x y:Str}{c:Addr}{l:xh (Str×Addr)}:((y,c)::l).lookup x=if x=y then some c else l.lookup x:=by
 refine rL Kg ?_;by_cases q:x=y
 ·refine rL q ?_;rw [zg,Lh rfl]
 ·exact rL (Fh q) (rL (show(x==y)=false from beq_eq_false_iff_ne.mpr q) rfl)
theorem cX{env:Ub}{x:Str}{names:xh (Str×zc)}{cs:xh (Str×Addr)}:(names.foldl (i0 env) cs).lookup x=if(x,Ef)∈names/\(env.cells.lookup x).isSome=true then env.cells.lookup x else cs.lookup x:=by
 induction names generalizing cs with
 |nil=>exact(Fh λq=>(by nomatch q.1)).symm
 |cons y names ih=>
  rw [List.foldl_cons,ih];by_cases p:(x,Ef)∈names/\(env.cells.lookup x).isSome=true
  ·rw [Lh p,Lh ⟨.tail _ p.1,p.2⟩]
  ·rw [Fh p];have st:(i0 env cs y).lookup x=if y=(x,Ef)/\(env.cells.lookup x).isSome=true then env.cells.lookup x else cs.lookup x:=by
    unfold i0;by_cases q:(y.2==Ef)=true
    ·rw [Lh q];cases e:env.cells.lookup y.1 with
     |none=>exact(Fh λz=>by rw [z.1] at e;rw [e] at z;cases z.2).symm
     |some c=>
      rw [Gi];by_cases n:x=y.1
      ·have:y=(x,Ef):=Ac n.symm (eq_of_beq q);rw [Lh n,n,e,Lh ⟨Ac rfl (eq_of_beq q),rfl⟩]
      ·rw [Fh n,Fh λz=>n (yh Prod.fst z.1).symm]
    ·rw [Fh q,Fh λz=>q (by rw [z.1];rfl)]
   rw [st];by_cases m:y=(x,Ef)/\(env.cells.lookup x).isSome=true
   ·rw [Lh m,Lh ⟨m.1▸ .head _,m.2⟩]
   ·rw [Fh m,Fh λz=>(List.mem_cons.mp z.1).elim (λw=>m ⟨w.symm,z.2⟩) λw=>p ⟨w,z.2⟩]
theorem l7{scope:Bg}{env:Ub}{x:Str}{c:Addr}(h:(pW scope env).lookup x=some c):env.cells.lookup x=some c:=
 (j8 (cX.symm.trans h)).elim (·.2) λz=>(by nomatch z.2)
theorem GR{scope:Bg}{env:Ub}{x:Str}{c:Addr}(h:env.cells.lookup x=some c)(q:(x,Ef)∈scope.names):(pW scope env).lookup x=some c:=cX.trans ((Lh ⟨q,by refine rL h ?_;rfl⟩).trans h)
def ZM(F:Fm)(scope:Bg)(L:Mh):Fm:=⟨F.W,F.A,compEnvC scope (pW scope F.env) L F.env,[L],F.n⟩
structure TQ(F:Fm)(scope:Bg):Prop where
 cell:∀y∈scope.names,y.2≠ .cell
 kind:scope.kind= .function
 names:∀y∈scope.names,y.2= .local->scope.names.lookup y.1=some .local
 free:∀y∈scope.names,y.2= .free->F.env.kindOf y.1=some .cell
theorem T3{scope:Bg}{env:Ub}{x:Str}{k:zc}(w:k= .cell\/k= .free)(l:∀y∈scope.names,y.2≠ .cell)(h:(relabel scope env).names.lookup x=some k):(x,Ef)∈scope.names:=by
 haveI:∀g:xh _,(∀y∈g,y.2≠ .cell)->(g.map λ(n,k)=>if(k==Ef&&env.scope.kind== .function&&env.kindOf n==some .cell) then(n,NameKind.cell) else(n,k)).lookup x=some k->(x,Ef)∈g:=λg p h=>by
  induction g with
  |nil=>cases h
  |cons y _ i=>
   obtain⟨n,kn⟩:=y;rw [Hg,Kg] at h;split at h
   ·rename_i e;split at e
    ·rename_i q;exact rL (eq_of_beq e) (rR (show kn= .free from eq_of_beq (Bool.and_eq_true_iff.mp (Bool.and_eq_true_iff.mp q).1).1) (.head _))
    ·rename_i q;rw [Fh q] at h;cases h;exact rL (eq_of_beq e) (w.elim (λe=>absurd e (p _ (.head _))) λe=>e▸ .head _)
   ·exact .tail _ (i (λz m=>p z (.tail _ m)) h)
 exact this _ l h
variable{ρ':xh (Str×AV)}
def pf:Tg->Kh:=λz'=>false
theorem IK:Ji pf σ=σ:=funext λτ=>Fh wg
theorem YB:Di pf σ σ'=σ':=funext λτ=>Fh wg
theorem MJ:Wf pf σ:=⟨(λz' z' q=>(by nomatch q)),λτ o z'=>d9.t9 (λz' z'=>rfl) o.V9⟩
theorem ST.pJ(S:ST F c G h){y:Str}{d:Mh}(q:F.env.cells.lookup y=some d): @LT.lt Mh _ d h.objs.size:=(S.fr.alive.2 y d q).elim λz' e=>vf e
theorem ST.inner{scope:Bg}{L:Mh}{m:Str->Ah Nh}(S:ST F c G h)(sc:TQ F scope)(hs:∀y v,ρ'.lookup y=some v->c.ρ.lookup y=some v)(hL0:h.objs.size<=L)(hk:∀b o,h.get? b=some o->h'.get? b=some o)(hn:h'.Ns L m)(hloc:∀x v,ρ'.lookup x=some v->(ZM F scope L).env.kindOf x≠some .local):
  ST (ZM F scope L) ⟨ρ',c.σ⟩ (G.enter pf h F.fa) h':=by
 have R:SR F.W c.σ (G.enter pf h F.fa) h:=by have:=S.enter (p:=pf);rwa [IK] at this
 have lt:∀{x:Str} {c:Mh},(pW scope F.env).lookup x=some c-> @LT.lt Mh _ c L:=λq=>dg (S.pJ (l7 q)) hL0;have ck:∀{x:Str} {k:zc},k= .cell\/k= .free->(ZM F scope L).env.kindOf x=some k->(x,Ef)∈scope.names/\F.env.kindOf x=some .cell:=λhk q=>⟨T3 hk sc.cell q,sc.free _ (T3 hk sc.cell q) rfl⟩;refine⟨R.keeps hk,⟨sc.kind,S.fr.st.glob,S.fr.st.blt,S.fr.st.mU,S.fr.st.depth,S.fr.st.units,λx y c h1 h2=>S.fr.st.inj x y c (l7 h1) (l7 h2),λx c q=>Uf (lt q),.head _,λa ha=> .inl (List.mem_singleton.mp ha),(λq=>(by nomatch q)),λx q=> ?_⟩,⟨m,hn,λx v q k=>absurd k (hloc x v q)⟩,λx v q k=> ?_,λx c q=> ?_,λa ha=> ?_,λx c q=> ?_⟩
 ·obtain⟨hf,kc⟩:=ck (.inl rfl) q;exact(S.fr.st.HR x kc).imp λc hc=>GR hc hf
 ·obtain⟨hf,kc⟩:=k.elim (ck (.inl rfl)) (ck (.inr rfl));exact(S.fr.cell x v (hs _ _ q) (.inl kc)).imp λc z=>z.imp λy z=>⟨GR z.1 hf,z.2.1.imp λo z=>⟨hk _ _ z.1,z.2⟩,z.2.2.mono S.o6 v.V9⟩
 ·exact(S.fr.live x c (l7 q)).imp λv z=>z.imp λo z=>⟨hk _ _ z.1,z.2⟩
 ·rw [List.mem_singleton.mp ha];exact R.fresh hL0
 ·obtain⟨o1,o2⟩:=S.fr.e5 x c (l7 q);refine⟨?_,.inr (o2.elim (λm=>(S.RY (.inl m)).elim λo z=>by rw [z.2];rfl) λz=> ?_)⟩
  ·show(if(G.own c).any pf=true then none else G.own c)=none;rw [o1];exact Zb _
  ·exact(Option.isSome_iff_exists.mp z).elim λo z=>by rw [(S.o6).k c o z|>.1];rfl
structure Fo(W:Wd) where
 ex:Expr
 sc:Bg
 x:Expr
 iter:Expr
 ifs:xh Expr
 nm:Cc
 d0:Data
 γ:Type
 cmp:Kd->Ub->(γ->Uh->Prop)->Uh->Prop
 R:AV->Gh->γ->Prop
 e6:Mh->Ub->ca Ib
 rD:Mh->γ->ca Ib
 cont:Mh->Gh->Pf->xh AV->Prop
 turn:∀it D env,∃p,wW W ex p x ifs (e6 D env) it (.ref D) env
 start:∀{A env it acc R s},vc (Mk W) A (.compLoop ex 0 it acc env) R s->og (Mk W) A (pyIter it) (λit' s'=>vc (Mk W) A (.compLoop ex 0 it' acc env) R s') (notedBy (Mk W) A env λx s'=>R (.error x) s') s->vc (Mk W) A (.compStart ex 0 it acc env) R s
 ct:∀(A:Kd) (env:Ub) (fa:xh Mh) (n:Mh) (U:Tg->Prop) (D:Mh),fD ⟨W,A,env,fa,n⟩ U ⟨x,ifs,γ,cmp A env,R⟩ D (rD D) (cont D)
 step:∀A env D Q s,cmp A env (λx s=>og (Mk W) A (rD D x) Q no s) s->og (Mk W) A (e6 D env) Q no s
 new:∀G h D,h.get? D=some {cls:= .type nm,dict:=none,data:=d0}->cont D G h []
 sz:sizeOk d0
 fr:({cls:= .type nm,dict:=none,data:=d0}:He).isFreed=false
 cl:clausesOf ex=[⟨x,iter,ifs,0⟩]
def Fo.kd{W:Wd}(f:Fo W)(A:Kd)(env:Ub):Cm:=⟨f.x,f.ifs,f.γ,f.cmp A env,f.R⟩
inductive rx(F:Fm)(U:Tg->Prop)(f:Fo F.W)(c:Cx)(G:Gh)(s:Uh)(ws:xh AV)(acc:Nh)(C:Mh)(s':Uh):Prop
 |mk (G':Gh) (g:Gr U G G') (S:ST F c G' s'.heap) (q:SS s s') (D:Mh) (v:acc= .ref D) (M:L5 F G' s'.heap D) (N:L5 F G' s'.heap C) (st:Nd<D) (ne:D≠C) (r:f.cont D G' s'.heap ws) (m:Str->Ah Nh) (hn:s'.heap.Ns C m)
theorem L5.of{x:Mh}(S:ST F c G h)(hx:h.objs.size<=x)(n:¬G'.has x):L5 F G' h' x:=⟨n,(S.new hx).fa,(S.new hx).fc⟩
theorem JQ{f:Fo F.W}{I:Mh}{h:xh (Mh×He)}{g:Mh->Pf->Prop}(P:MD F.W G I vs h g)(S:ST F c G s.heap)(m:g 0 s.heap)(N:L5 F G s.heap I)(hp:∀p∈h,G.P p.1=some p.2\/∃τ,G.Z p.1=some (τ,p.2))
  (q:TQ F f.sc) (hs:∀z v,ρ'.lookup z=some v->c.ρ.lookup z=some v/\(relabel f.sc F.env).names.lookup z≠some .local) (R:vs.length<=1000000) (L:∀L,Cp (ZM F f.sc L) U (f.kd F.A (ZM F f.sc L).env) ρ' σ' vs c.σ ws) (hv:∀v∈vs,v.keeps U) (hρ:∀x v,c.ρ.lookup x=some v->v.keeps U)
  (E:∀D G G' h us,f.cont D G h us->(∀a v,F9 G a v->F9 G' a v)->f.cont D G' h us)
  {RR:Nh->Addr->Result->Uh->Prop} (r:∀acc C s',rx F U f ⟨c.ρ,σ'⟩ G s ws acc C s'->RR acc C (.ok .next) s'):
  og (Mk F.W) F.A (newObj (.type f.nm) f.d0) (λacc t=>og (Mk F.W) F.A (newFunctionEnv f.sc F.env.globals (pW f.sc F.env) [] F.env.qual none .none (some F.env)) (λV W=>
   vc (Mk F.W) F.A (.compStart f.ex 0 (.ref I) acc {V with scope:=relabel f.sc F.env}) (RR acc V.locals) W) no t) no s:=by
 refine wpAny_newObj_type (hd:=f.sz) (wpAny_newFunctionEnv q.cell (λy h=>(by nomatch h)) (λg X O=> ?_) q.kind);dsimp only at X O⊢;generalize hH2:s.heap.push {cls:= .type _,dict:=none,data:=f.d0}=H2 at X O⊢;have h:H2.objs.size=s.heap.objs.size+1:=by rw [<-hH2,Heap.size_push]
 have J:s.heap.objs.size<=H2.objs.size:=h▸Vg _;have j:s.heap.objs.size≠H2.objs.size:=by refine rL h ?_;exact Uf (uf _)
 have u:=λb o e=>
  O.extBut b o (λz=>Nat.not_lt.mpr J (z▸vf e)) (Ng _ (hH2▸Ng _ e))
 haveI k:∀{b},(∃o,s.heap.get? b=some o)->g.get? b=s.heap.get? b:=λe=>U6 u e;obtain⟨o,_,_,h,_⟩:=P.live _ _ m;haveI l:=vf h;have ge:Gr U G (G.enter pf _ _):=S.o6.weak λz' z'=>trivial;haveI nh:∀{b},b∉F.fa->¬G.has b->¬(G.enter pf s.heap _).has b:=λh q=>by
  haveI q:=G.v8 q;refine Gh.D4 ⟨?_,q.2.1,(Fh λz=>z.elim h λz=> ?_).trans q.2.2.1,q.2.2.2⟩
  ·show(if _ then none else G.own _)=none;refine rL q.1 ?_;exact Zb _
  ·rw [q.1] at z;cases z
 haveI n:∀{b},L5 F G s.heap b->b≠H2.objs.size->L5 (ZM F f.sc _) _ g b:=λN n=>⟨nh N.fa N.has,λz=>n (List.mem_singleton.mp z),λy d e=>N.fc y d (l7 e)⟩;have h:=P.frame _ _ _ m (k ⟨_,h⟩);haveI M:=S.new (Oh _);haveI K:=(f.turn _ _ (ZM F _ _).env).elim λp T=>cc (LQ (kd:=f.kd _ (ZM F _ _).env) (s:={s with heap:=g,toks:=s.toks+([]:xh (Str×Nh)).length}) T (f.ct _ _ _ _ _ _) (λQ s=>f.step _ _ _ Q s) (⟨P.live,P.frame,P.self,λi x A s Q a b c d k=>P.item i x A s Q a b c d λv h' tk r=>k v h' tk (r.mono S.o6 x.V9),P.done⟩) (L _) hv R (S.inner q (λz v e=>(hs z v e).1) J u X λx v e=>(hs x v e).2)
  (n N (Uf (dg l J))) (n M j) h (λq m=>(hp q m).imp (ge.p _ _) λz=>z.imp λτ z=>(ge.z _ _ z).1) (Uf l) (f.new _ _ _ (O.extBut _ _ j (Ng _ (hH2▸Lg _ f.fr))))) λr z' z=>by
  obtain⟨G',rfl,g,h,q,M,r'⟩:=z;obtain⟨g1,g,k⟩:=S.back g h.sr MJ MJ (λz' z' z'=>rfl) λz v e=>AV.t9 (λz'=> .inl) (hρ z v e);haveI b:∀{b},s.heap.objs.size<=b->¬G'.has b->¬(G.back pf _).has b:=λE q=>by
   haveI q:=G'.v8 q;haveI w:=G.v8 (S.sr.fresh E);refine Gh.D4 ⟨?_,q.2.1,w.2.2.1,q.2.2.2⟩;show(if _ then G.own _ else G'.own _)=none;refine rL q.1 (rL w.1 ?_);exact Zb _
  obtain⟨m,hn,_⟩:=h.fr.ns;exact r _ _ _ ⟨_,g1.weak λz'=> .inl,g,(SS.heap _ _).trans q,_,rfl,.of S (Oh _) (b (Oh _) M.has),.of S J (b J (h.fr.rY _ (.head _))),S.sr.statics,j,E _ _ _ _ _ r' λa v r=>k a (AV.t9 (λz' z'=>rfl) a.V9) v r,m,hn⟩
 exact f.start K (P.self 0 _ _ _ _ h K)
theorem TQ.qr{scope:Bg}(S:ST F c G h)(s:TQ F scope):closureFor scope F.env=pure (pW scope F.env):=
 oW λx hx g=>S.fr.st.HR _ (s.free x hx g)
structure gU(F:Fm)(U:Tg->Prop)(c:Cx)(f:Fo F.W)(ws:xh AV)(c1:Cx)(σ':Tg->Ah d9):Prop where
 ex:∃vs ρ',xW F U c f.iter vs c1/\(∀z v,ρ'.lookup z=some v->c1.ρ.lookup z=some v/\(relabel f.sc F.env).names.lookup z≠some .local)/\vs.length<=1000000/\(∀L,Cp (ZM F f.sc L) U (f.kd F.A (ZM F f.sc L).env) ρ' σ' vs c1.σ ws)/\(∀v∈vs,v.keeps U)/\∀x v,c1.ρ.lookup x=some v->v.keeps U
 sc:TQ F f.sc
 hs:∀x,ab f.iter F.env x=pure x
 hb:∀D G G' h us,f.cont D G h us->(∀a v,F9 G a v->F9 G' a v)->f.cont D G' h us
theorem gU.go{f:Fo F.W}{p:Cf}{use:Ah (Nh->ca Ib)}{Q:Nh->Uh->Prop}(E:gU F U c f ws c1 σ')(S:ST F c G s.heap){first:ca Nh}(h:first=bc f.iter F.env)
  (k:∀acc C s',rx F U f ⟨c1.ρ,σ'⟩ G s ws acc C s'->compPost (Mk F.W) F.A no use Q acc C (.ok .next) s'):og (Mk F.W) F.A (comprehension f.ex f.sc F.env p (newObj (.type f.nm) f.d0) false first use) Q no s:=by
 obtain⟨vs,ρ',E1,hs,hl,L,H,hρ⟩:=E.ex;refine wpAny_comprehension_free f.cl E.hs (E.sc.qr S) E.sc.kind E.sc.names ?_;refine rL h ?_;refine Yh (E1 G s S) (λv z' z=>Yh z (λT z' z=>z.casesOn λO z' K B z=>z.casesOn λP J A w I z' z' e N i l hp=> ?_) λz' z' x=>x) λz' z' x=>x;exact e▸JQ i A l N hp E.sc hs hl L H hρ E.hb λacc C s' z=>k _ C _ (z.casesOn λG' g S q D v M N l n r m hn=>⟨G',(K.trans (J.weak λz' z'=>trivial)).trans g,S,(B.trans w).trans q,D,v,M,N,l,n,r,m,hn⟩)
def HV(W:Wd)(elt x iter:Expr)(ifs:xh Expr)(sc:Bg)(pos:Cf):Fo W where
 ex:= .ListComp elt [⟨x,iter,ifs,0⟩] sc pos
 sc:=sc
 x:=x
 iter:=iter
 ifs:=ifs
 nm:="list"
 d0:= .seq ([]:xh Nh).toArray
 γ:=Nh
 cmp A env Q s:=og (Mk W) A (bc elt env) Q no s
 R b G v:=F9 G b v
 e6 D env:=do let _<-call (.builtin "list.append") [.ref D,<-bc elt env]
 rD D v:=do let _<-call (.builtin "list.append") [.ref D,v]
 cont D G h us:=∃items,h.PlainList D items/\r9 (F9 G) us items.toList
 turn it D env:=⟨_,bQ⟩
 start h0 h1:=codeAny_compStart_list h0 h1
 ct A env fa n U D:={
  mo:=λP Q s h k=>Yh h k λz' z' x=>x
  ex:=λG h us r=>r.elim λitems r=>r.1.imp' _ λz' z=>z
  mv:=λG G' h h' us r g w e=>r.imp λitems r=>⟨r.1.imp λk z=>e.trans z,r.2.mono λv m z' r=>r.mono g (w v m)⟩
  rm:=λb G G' x k r=>k _ _ r
  st:=λG s us b x Q r q hz k=>r.elim λitems r=>zh (wpAny_list_append_plain (hsz:=O9 (vh (T4 r.2 hz) (by decide))) r.1 λh7 d7 hs7=>Ih (k h7 s.toks ⟨_,d7,by rw [Je];exact r.2.append (.cons q .nil)⟩ hs7))}
 step A env D Q s h:=zh (Yh h (λz' z' h=>h) λz' z' x=>x)
 new G h D e:=⟨#[],⟨_,e⟩,.nil⟩
 sz:=by size_fits
 fr:=rfl
 cl:=rfl
theorem PF{e x iter:Expr}{i:xh Expr}{s:Bg}:∀D G G' h us,(HV W e x iter i s pos).cont D G h us->(∀a v,F9 G a v->F9 G' a v)->(HV W e x iter i s pos).cont D G' h us:=
 λD G z' h z' r k=>r.imp λitems r=>⟨r.1,r.2.mono λa z' v r=>k a v r⟩
theorem YF{e x iter:Expr}{i:xh Expr}{scope:Bg}(E:gU F U c (HV F.W e x iter i scope pos) ws c1 σ'):gL F U c (.ListComp e [⟨x,iter,i,0⟩] scope pos) ws ⟨c1.ρ,σ'⟩:=λG s S=>by
 exact E.go S rfl λacc C z' z=>z.casesOn λG' g S q D v M N l p r m hn=>r.elim λitems r=>r.1.elim λn d=>
  ⟨m,hn,λh hs=>⟨G',g,S.same N hs,q.trans (SS.heap _ _),D,items,n,v,(hs.2 D p).trans d,M.has,M.fa,M.fc,l,r.2⟩⟩
theorem EW{x:Str}{p:Cf}{elt y iter:Expr}{ifs:xh Expr}{scope:Bg}{spos:Cf}(E:gU F U c (HV F.W elt y iter ifs scope spos) (ds.map .a9) c1 σ')(hk:X7 (F.env.kindOf x)=true)(hf:F.env.func.isSome=true\/F.env.kindOf x=some .local)
  (hsw:Nf (.ListComp elt [⟨y,iter,ifs,0⟩] scope spos) (some (.Name x p)) pos.line F.env=pure true):X1 F U c (.Assign [.Name x p] (.ListComp elt [⟨y,iter,ifs,0⟩] scope spos) pos) .next ⟨T9 c1.ρ x (.a9 (.list ds)),σ'⟩:=λG s S=>by
 rw [exec_Assign_Name_used _ _ _ _ hsw];refine zh (Re (zh ?_));rw [arm_evalThenUse_ListComp];refine zh (E.go S rfl λacc C s' z=>z.casesOn λG' g S q D v M N st ne r m hn=>r.elim λitems r=>r.1.elim λn d=> ?_);have S2:=S.u4 M.has M.fa d;have N2:L5 F (G'.y9 D (listOf items n)) s'.heap C:=⟨λz=>N.has (z.imp id λz=>z.imp (λz=>z.imp λo z=>z.imp (λz=>((j8 z).resolve_left λw=>ne w.1.symm).2) id) id),N.fa,N.fc⟩;have gp:Gr U G' (G'.y9 D (listOf items n)):= .y9 M.has;have hn':=hn;obtain⟨o,_,_,ho,_⟩:=hn';have r2:F9 ((G'.y9 D (listOf items n)).hold C o) (.a9 (.list ds)) acc:=⟨D,items,n,v,Lh rfl,r.2.M6.mono gp.p⟩;refine lc (f6 hk hf (S2.hold N2 ho) r2 λs5 S5 q5=> ?_);have Q:=ST.u0 (U:=U) N2 .refl S5;exact⟨m,hZ hn (Q.at_.trans ho.symm),λh'' hs=>Ih (Ih ⟨_,(g.trans gp).trans Q.g,Q.S.same Q.n hs,rfl,(q.trans q5).trans (SS.heap h'' s5.toks)⟩)⟩
theorem r9.hV{β l:Type}{R:β->l->Prop}{xs:xh β}{g:xh l}(hl:g.length=xs.length)(h:∀(j:Mh) y,g[j]? =some y->∃x,xs[j]? =some x/\R x y):r9 R xs g:=by
 induction xs generalizing g with
 |nil=>cases g with
  |nil=>exact .nil
  |cons y _=>cases hl
 |cons x _ i=>cases g with
  |nil=>cases hl
  |cons y _=>
   obtain⟨p,e,r⟩:=h 0 y rfl;exact .cons (Bh e▸r) (i (Nat.succ.inj hl) λj v m=>h (j+1) v m)
def zs(ns:xh Dh):xh Jh:=ns.map .int
theorem cR{P:Mh->Ah He}{vs:xh Nh}{ns:xh Dh}(r:F3 P (zs ns) vs):IntsAre vs ns:=by
 induction ns generalizing vs with
 |nil=>refine rL (show vs=[] from r) ?_;exact .nil
 |cons n _ i=>obtain⟨y,m,e,r,q⟩:=r;obtain⟨t,g⟩:=r;refine rL e (rL g ?_);exact .cons _ _ (i q)
theorem AX{P:Mh->Ah He}{vs:xh Nh}{ns:xh Dh}(h:IntsAre vs ns):F3 P (zs ns) vs:=by
 induction h with
 |nil=>exact rfl
 |cons n t _ i=>exact⟨_,_,rfl,⟨_,rfl⟩,i⟩
theorem X8{R:AV->Nh->Prop}{xs:xh Nh}(r:r9 R [a] xs):∃x,xs=[x]/\R a x:=by
 obtain⟨x,y,e,g,r⟩:=r.cons_inv;exact⟨x,by rw [e,r.nil_inv],g⟩
theorem W5{R:AV->Nh->Prop}{xs:xh Nh}(r:r9 R [a,b] xs):∃x y,xs=[x,y]/\R a x/\R b y:=by
 obtain⟨x,m,e,g,r⟩:=r.cons_inv;obtain⟨y,rfl,l⟩:=X8 r;exact⟨x,y,e,g,l⟩
theorem RA.list{tk n:Mh}{items:gf Nh}(S:ST F c G s.heap)(r:F3 G.P ds items.toList)(l:∀b o,s.heap.get? b=some o->h'.get? b=some o){x:Mh}(hx:s.heap.objs.size<=x)(g:h'.get? x=some (listOf items n)):RA F U c G s (λG=>F9 G (.a9 (.list ds))) (.ref x) {s with heap:=h',toks:=tk}:=
 (GJ.push S r.M6 l hx g).a9
theorem cO{ns:xh Dh}(hl:Ls c.σ a ((zs ns).map .a9))(hz:ns.length<64):O4 F U c (λxs=>call (.builtin "sorted") xs []) [a] (.a9 (.list (zs (Ja ns)))) c:=λG s z' S r=>by
 obtain⟨x,rfl,w⟩:=X8 r;obtain⟨y,items,n,rfl,g,q⟩:=W7 S.sr hl w;haveI h:=cR q.M6;refine sorted_ints (by exact U8 g) h (rL h.length hz) λout z' l p v=> ?_;obtain⟨m,hm⟩:=sortedAll_at _ _ _;exact .list S (eq_sortI p v▸AX l) (λz' z' z=>sortedAll_old z) (Vg _) hm
theorem RA.ite{p:Prop}[ub p]{m g tk:Mh}(S:ST F c G h')(l:SS s {s with heap:=h',toks:=tk}):RA F U c G s (λG=>F9 G (.a9 (.int (if p then i else j)))) (if p then .int i m else .int j g) {s with heap:=h',toks:=tk}:=by
 refine .here S ?_ l;split
 ·exact⟨_,rfl⟩
 ·exact⟨_,rfl⟩
theorem FB:O4 F U c (λxs=>call (.builtin "min") xs []) [.a9 (.int i),.a9 (.int j)] (.a9 (.int (if j<i then j else i))) c:=λG s z' S r=>by
 obtain⟨x,y,rfl,⟨g,rfl⟩,t,rfl⟩:=W5 r;exact min_two_ints S.fr.st.mU λh' tk h=> .ite (S.keeps h) (SS.heap _ _)
theorem GB:O4 F U c (λxs=>call (.builtin "max") xs []) [.a9 (.int i),.a9 (.int j)] (.a9 (.int (if i<j then j else i))) c:=λG s z' S r=>by
 obtain⟨x,y,rfl,⟨g,rfl⟩,t,rfl⟩:=W5 r;exact max_two_ints S.fr.st.mU λh' tk h=> .ite (S.keeps h) (SS.heap _ _)
theorem fK:O4 F U c (λxs=>call (.type "range") xs []) [.a9 (.int i)] (.range i) c:=λG s z' S r=>by
 obtain⟨x,rfl,t,rfl⟩:=X8 r;refine call_range_1 ?_;obtain⟨l,g,p⟩:=S.data (ob:={cls:= .type "range",dict:=none,data:= .fields #[.int 0 _,.int i _,.int 1 _],slots:=#[]}) rfl;exact⟨_,l,g,⟨_,_,_,_,rfl,p⟩,SS.heap _ _⟩
theorem dO(hl:Ls c.σ a (ds.map .a9))(hz:ds.length<=1000000):O4 F U c (λxs=>call (.type "list") xs []) [a] (.a9 (.list ds)) c:=λG s z' S r=>by
 obtain⟨x,rfl,l⟩:=X8 r;obtain⟨y,items,n,rfl,g,q⟩:=W7 S.sr hl l;exact call_list_seq y (.inl rfl) g rfl rfl (λh' z' m h=> .list S q.M6 m (Oh _) h) (O9 (vh (T4 q (by rw [Eh];exact hz)) (by decide)))
theorem lV{l:xh (Dh×AV)}(e:c.σ τ=some (.M9 true l))(hz:l.length<=1000000):O4 F U c (λxs=>call (.type "list") xs []) [.g9 τ] (.a9 (.list (zs (l.map (·.1))))) c:=λG s z' S r=>by
 obtain⟨x,rfl,z⟩:=X8 r;obtain rfl:x= .ref _:=z;obtain⟨kvs,hm,g⟩:=S.sr.g9 _ _ e;obtain⟨ep,m⟩:=hm.dictAt;refine kdl_call (kdl_dict (S.sr.bT e (.inl rfl) rfl)) S.fr.st.mU m (O9 (vh (g.length▸hz) (by decide))) λh' z' z' z' n q h=> .list S (r9.M6 (r9.hV ?_ λj v A=> ?_)) n (Oh _) q
 ·refine rL qg ?_;rw [h.1,Eh,zs,Eh,Eh];exact g.length.symm
 ·obtain⟨k,x,w,p⟩:=h.2 j v (rR (jf) A);obtain⟨tk,rfl⟩:=ba p;refine⟨.a9 (.int k),?_,_,rfl⟩;rw [zs,ZS g,kg,kg,kg,w];rfl
theorem EX(g:0<=i)(l:i<=1000000):O4 F U c (λxs=>call (.type "list") xs []) [.range i] (.a9 (.list (zs ((ug i.toNat).map λ(n:Mh)=>n)))) c:=λG s z' S r=>by
 obtain⟨x,rfl,A⟩:=X8 r;obtain⟨y,B,t,D,rfl,p⟩:=A;have hsz:ya 0 i 1=(i.toNat):=by rw [rangeSize_one,wc g];split;exact Int.sub_zero i;exact nb g (Int.not_lt.mp ‹_›)
 refine call_list_range S.fr.st.mU (S.sr.y9 _ _ (.inl p)) (small_one (by decide) (by decide) (Vd (by decide) g) (Rf l (by decide))) hsz (Int.toNat_le.mpr (Vd l (by decide))) λh' z' z' z' q w h=> .list S (r9.M6 (r9.hV ?_ λj v m=> ?_)) q (Oh _) w
 ·refine rL qg ?_;rw [h.1,Eh,zs,Eh,Eh,Qg]
 ·obtain⟨tk,rfl⟩:=h.2 j v (rR (jf) m);refine⟨.a9 (.int (j)),?_,tk,?_⟩
  ·rw [zs,kg,kg,kg,Ob (h.1▸(qg▸(List.getElem?_eq_some_iff.mp m).1))];rfl
  ·rw [Int.mul_one,Int.zero_add]
theorem dK(hl:Ls c.σ a (ds.map .a9))(hz:ds.length<=1000000):O4 F U c (λxs=>call (.type "tuple") xs []) [a] (.a9 (.tuple ds)) c:=λG s z' S r=>by
 obtain⟨x,rfl,v⟩:=X8 r;obtain⟨y,items,n,rfl,g,q⟩:=W7 S.sr hl v;refine call_tuple_list (U8 g) (λh' h=> ?_) (O9 (vh (T4 q (by rw [Eh];exact hz)) (by decide)));obtain⟨l,m,p⟩:=(S.keeps h).data (ob:=r7 _ 0) rfl;exact⟨_,l,m,⟨_,_,_,rfl,p,q.M6.mono l.p⟩,rfl,rfl,rfl⟩
theorem xY:O4 F U c (λxs=>call (.type "tuple") xs []) [.a9 (.tuple ds)] (.a9 (.tuple ds)) c:=λG s z' S r=>by
 obtain⟨x,rfl,g⟩:=X8 r;haveI l:=g;obtain⟨y,items,n,rfl,p,q⟩:=g;exact call_tuple_tup ⟨_,S.sr.y9 _ _ (.inl p),rfl,_,rfl⟩ (.here S l .refl)
theorem IB:O4 F U c (λxs=>call (.type "int") xs []) [.a9 (.int i)] (.a9 (.int i)) c:=λG s z' S r=>by
 obtain⟨x,rfl,t,rfl⟩:=X8 r;exact call_int_int (.here S ⟨_,rfl⟩ .refl)
theorem fO(hl:Ls c.σ a vs):O4 F U c (λxs=>call (.builtin "isinstance") xs []) [a,.typ "list"] (.a9 (.bool true)) c:=λG s z' S r=>by
 obtain⟨x,y,rfl,l,rfl⟩:=W5 r;obtain⟨y,items,n,rfl,g,q⟩:=W7 S.sr hl l;exact IsiPair.list_list g rfl (.here S rfl .refl)
set_option tactic.hygienic true in
theorem yR{K:Type}[xg K]{knd:KeyKind W.prog W.w K}(e:h.get? x=some {cls:= .type "dict",data:= .dict #[]}):h.DictOf knd x []:=⟨_,#[],0,e,⟨rfl,rfl,rfl⟩,rfl,(λz' q=>by cases q;rename_i q;cases q),.nil,.nil⟩
theorem nW(R:∀G h x,h.get? x=some {cls:= .type "dict",data:= .dict #[]}->OR F.W G h x o)(w:o.wr=true)(ad:∀a b,o.ad a b↔b=a):oY F U c (.Dict [] [] pos) o c:=λG s S=>
 wpAny_Dict_empty ⟨G,.refl,S.push _,SS.heap _ _,s.heap.objs.size,rfl,R _ _ _ (Lg _ rfl),w,ad,S.sr.fresh (Oh _),S.fr.fresh (Oh _),(S.new (Oh _)).fc,S.sr.statics⟩
theorem dM:oY F U c (.Dict [] [] pos) (.p9 true λz'=>none) c:=nW (λG h x e=>⟨[],yR e,λz'=>trivial,(λz' q=>(by nomatch q))⟩) rfl λz' z'=> .rfl
theorem cM:oY F U c (.Dict [] [] pos) (.M9 true []) c:=nW (λG h x e=>⟨[],yR e,.nil⟩) rfl λz' z'=> .rfl
theorem bM:oY F U c (.Dict [] [] pos) (.W9 λz'=>none) c:=nW (λG h x e=>⟨(λz' q=>(by nomatch q)),[],⟨#[],0,e,rfl⟩,(λz' q=>(by nomatch q)),.nil,λz'=>trivial⟩) rfl λz' z'=> .rfl
def eD(F:Fm)(U:Tg->Prop)(c:Cx)(k:xh (Ah Expr))(v:xh Expr)(pos:Cf)(ps:xh (AV×AV))(c':Cx):Prop:=Do F U c (evalPairs (pairTrees k v F.env pos)) (λG=>r9 (λp q=>F9 G p.1 q.1/\F9 G p.2 q.2) ps) c'
theorem uB:eD F U c [] [] pos [] c:=λG s S=>evalPairs_nil (.here S .nil .refl)
def Y8{K:Type}[xg K](f:K->Ah AV)(l:xh (K×AV)):K->Ah AV:=l.foldl (λf p=>f9 f p.1 p.2) f
theorem fV{K:Type}[xg K]{R:AV->Nh->Prop}{l:xh (K×AV)}{kvs acc:xh (K×Nh)}{f:K->Ah AV}(h:∀k,N7 R (f k) (mf acc k))(r:r9 (λp q=>p.1=q.1/\R p.2 q.2) l kvs)(k:K):N7 R (Y8 f l k) (mf (merged acc kvs) k):=by
 induction r generalizing f acc with
 |nil=>exact h k
 | @cons p q _ _ r _ i=>
  refine i (acc:=stored _ _ _) λk=> ?_;refine rR r.1 ?_;exact U3 h r.2 k
theorem DT{K:Type}[xg K]{knd:KeyKind W.prog W.w K}{g:K->AV}(h:∀k v,F9 G (g k) v->knd.is k v=true){l:xh (K×AV)}{vs:xh (Nh×Nh)}(r:r9 (λp q=>F9 G p.1 q.1/\F9 G p.2 q.2) (l.map λp=>(g p.1,p.2)) vs):∃kvs,Carries knd vs kvs/\r9 (λp q=>p.1=q.1/\F9 G p.2 q.2) l kvs:=by
 induction l generalizing vs with
 |nil=>refine rL r.nil_inv ?_;exact⟨[],trivial,.nil⟩
 |cons p l i=>
  obtain⟨x,xs,rfl,m,r⟩:=r.cons_inv;obtain⟨kvs,c1,n⟩:=i r;exact⟨(p.1,x.2)::kvs,⟨h _ _ m.1,rfl,c1⟩,.cons ⟨rfl,m.2⟩ n⟩
theorem aM{K:Type}[xg K]{g:xh (Ah Expr)}{m:xh Expr}{l:xh (K×AV)}(knd:KeyKind F.W.prog F.W.w K)(A:K->AV)(Y:∀G h x,(∃kvs,h.DictOf knd x kvs/\∀k,N7 (F9 G) (Y8 (λz'=>none) l k) (mf kvs k))->OR F.W G h x o)(D:∀G k v,F9 G (A k) v->knd.is k v=true)(w:o.wr=true)(T:∀a b,o.ad a b↔b=a)
  (E:eD F U c g m pos (l.map λp=>(A p.1,p.2)) c1) (n:g.all (·.isSome)=true) (hl:g.length=m.length) (P:g≠[]) (B:g.length<=15):oY F U c (.Dict g m pos) o c1:=λG s S=>by
 refine wpAny_Dict_walk (knd:=knd) n hl P B ?_;haveI Z:(s.heap.push {cls:= .type "dict",data:= .dict #[]}).get? _=some {cls:= .type "dict",data:= .dict #[]}:=Lg _ rfl;haveI N:=S.new (Oh _);refine Yh (E _ {s with heap:=s.heap.push {cls:= .type "dict",data:= .dict #[]}} ((S.push _).hold N.move Z)) (λvs z' z=>z.casesOn λf M O X e=> ?_) λz' z' x=>x;have Q:=ST.u0 N M O;obtain⟨kvs,c1,V⟩:=DT (λk v=>D _ k v) X;exact⟨kvs,c1,yR Q.at_,λh' J I=>⟨_,Q.g,Q.S.same Q.n I,(SS.heap _ _).trans (e.trans (SS.heap _ _)),_,rfl,Y _ _ _ ⟨_,J,fV (λz'=>trivial) (V.mono λp z' q r=>⟨r.1,Q.v _ _ r.2⟩)⟩,w,T,Q.n.has,Q.n.fa,Q.n.fc,S.sr.statics⟩⟩
theorem Fy{g:xh (Ah Expr)}{m:xh Expr}{l:xh (Dh×AV)}(E:eD F U c g m pos (l.map λp=>(.a9 (.int p.1),p.2)) c1)(A:∀k,(Y8 (λz'=>none) l k).isSome=true->f7 k=true)(n:g.all (·.isSome)=true)(hl:g.length=m.length)(w:g≠[])(q:g.length<=15):oY F U c (.Dict g m pos) (.p9 true (Y8 (λz'=>none) l)) c1:=
 aM _ (λk=> .a9 _) (λG h x z=>z.imp λz' z=>⟨z.1,z.2,A⟩) (λG k v r=>by obtain⟨t,e⟩:=r;refine rL e ?_;exact zg k) rfl (λz' z'=> .rfl) E n hl w q
theorem Ey{g:xh (Ah Expr)}{m:xh Expr}{l:xh (Str×AV)}(E:eD F U c g m pos (l.map λp=>(.a9 (.str p.1),p.2)) c1)(A:∀k,(Y8 (λz'=>none) l k).isSome=true->k∈SK)(n:g.all (·.isSome)=true)(hl:g.length=m.length)(w:g≠[])(q:g.length<=15):oY F U c (.Dict g m pos) (.s8 (Y8 (λz'=>none) l)) c1:=
 aM _ (λk=> .a9 _) (λG h x z=>z.imp λz' z=>⟨z.1,z.2,A⟩) (λG k v r=>by obtain⟨_,t,e⟩:=r;refine rL e ?_;exact zg k) rfl (λz' z'=> .rfl) E n hl w q
theorem Gr.all(g:Gr q0 G G'):Gr U G G':=g.weak λz' z'=>trivial
theorem kG{A m g:Tg->Prop}{k v:Expr}{q:xh (Ah Expr)}{es:xh Expr}{ps:xh (AV×AV)}(E1:Ev F A c k a c1)(I:Ev F m c1 v b c2)(E3:eD F g c2 q es pos ps c3)(D:∀τ,U τ->A τ)(h:∀τ,U τ->m τ)(J:∀τ,U τ->g τ)(K:a.keeps λτ=>m τ/\g τ)(E:b.keeps g):eD F U c (some k::q) (v::es) pos ((a,b)::ps) c3:=λG s S=>
 pairTrees_cons_walk (E1.bind S λZ u z' T L N O=>I.bind T λX w Y M H n B=>Yh (E3 _ _ M) (λvs z' z=>z.casesOn λQ l V r P=>⟨Q,((N.weak D).trans (n.weak h)).trans (l.weak J),V,.cons ⟨L.mono ((n.weak λz'=>And.left).trans (l.weak λz'=>And.right)) K,H.mono l E⟩ r,(O.trans B).trans P⟩) λz' z' x=>x)
def sx(F:Fm)(c:Cx)(ns:xh Str)(as:xh AV)(c':Cx):Prop:=∀G s xs,ST F c G s.heap->r9 (F9 G) as xs->og (Mk F.W) F.A (assignInOrder (ns.map λn=>bindName F.env n) xs) (RA F q0 c' G s λz' z'=>True) no s
theorem AJ:sx F c [] [] c:=λG s z' S r=>by exact assignInOrder_nil (.here S trivial .refl)
theorem zM{x:Str}{ns:xh Str}(h:X7 (F.env.kindOf x)=true)(l:F.env.func.isSome=true\/F.env.kindOf x=some .local)(E:sx F ⟨T9 c.ρ x a,c.σ⟩ ns as c1):sx F c (x::ns) (a::as) c1:=λG s z' S r=>by
 obtain⟨y,n,rfl,g,r⟩:=r.cons_inv;exact assignInOrder_cons (wpAny_bindName (f6 h l S g λs1 m q=>zi .refl q (E G _ _ m r)))
theorem MW{vs:xh Nh}(S:ST F c G s.heap):IsTup (s.heap.push (r7 vs.toArray 0)) s.heap.objs.size vs.toArray:=⟨_,Lg _ rfl,rfl,_,rfl⟩
theorem eP{t:xh Expr}{k k2:Mh}{g p:Cf}(E:VT F U c es as c1)(T:hD F c1 t as c2)(hz:as.length<=1000)(hn:∀env,(wd t env).length=as.length)(hst:∀env,(wd t env).findIdx? (·.1)=none)
  (hs:Ia [.Tuple t k g] (.Tuple es k2 p) pos.line F.env=pure false) (hw:Ae [.Tuple t k g] (.Tuple es k2 p) F.env=pure none):X1 F U c (.Assign [.Tuple t k g] (.Tuple es k2 p) pos) .next c2:=λG s S=>
 Assign_Tuple (Tuple_ ((E _).bind S λB z' s1 l r w A=>Wb (assign_Tuple_tuple l.fr.st.mU (MW l) ((hn _).trans (r.length.trans List.size_toArray.symm)) (hst _) λh' kk=>Yh (T _ _ _ ((l.push _).keeps (U1 kk)) r) (λz' z' z=>z.casesOn λn m v z' q=>⟨n,w.trans m.all,v,rfl,A.trans ((SS.heap _ s1.toks).trans q)⟩) λz' z' x=>x) (O9 (T4 r (vh hz (by decide)))))) hs hw
theorem VR{g:xh Expr}{k k2:Mh}{t p:Cf}{ns:xh Str}(E:VT F U c es as c1)(T:sx F c1 ns.reverse as.reverse c2)(hz:as.length<=1000)(hn:ns.length=as.length)
  (hs:Ia [.Tuple g k t] (.Tuple es k2 p) pos.line F.env=pure false) (hw:Ae [.Tuple g k t] (.Tuple es k2 p) F.env=pure (some ns)):X1 F U c (.Assign [.Tuple g k t] (.Tuple es k2 p) pos) .next c2:=λG s S=>
 Assign_Tuple_swapped (Tuple_ ((E _).bind S λB z' s1 l r w A=>Wb (by
  exact(hn.trans (r.length.trans List.size_toArray.symm))▸unpackItems_tuple l.fr.st.mU (MW l) λh' kk=>Yh (T _ _ _ ((l.push _).keeps (U1 kk)) r.reverse) (λz' z' z=>z.casesOn λn m v z' q=>⟨n,w.trans m.all,v,rfl,A.trans ((SS.heap _ s1.toks).trans q)⟩) λz' z' x=>x) (O9 (T4 r (vh hz (by decide)))))) hs hw
theorem EK{l:xh (Dh×AV)}(e:c.σ τ=some (.M9 false l)):ND F c (.g9 τ) (l.map λp=> .a9 (.int p.1)):=λG s v S r=>by
 obtain rfl:v= .ref (G.μ τ):=r;obtain⟨kvs,hm,hr⟩:=S.sr.g9 τ _ e;obtain⟨ob,z⟩:=S.sr.O5 τ _ _ e rfl rfl;obtain⟨ep,hm⟩:=hm.dictAt;refine wpAny_pyIter_dict (S.sr.bT e (.inr (S.sr.fX _ _ _ z)) rfl) hm ?_;obtain⟨od,es,hod,hrest⟩:=id hm;have zo:=Bh (hod.symm.trans (S.sr.S7 _ _ _ z));have ln:=hr.length;refine⟨G,.refl,S.push _,SS.heap _ _,s.heap.objs.size,[(G.μ τ,od)],λi h=>h.IsKeyIter s.heap.objs.size (G.μ τ) i kvs.length ep,rfl,⟨S.sr.fresh (Oh _),S.fr.fresh (Oh _),(S.new (Oh _)).fc⟩,⟨?_,?_,?_,?_,?_⟩,⟨_,Lg _ rfl,rfl,rfl⟩,λp m=>List.mem_singleton.mp m▸ .inr ⟨τ,zo▸z⟩⟩
 ·exactλi h ⟨o,ho,hc,hd⟩=>⟨o,_,_,ho,hc,hd,by decide⟩
 ·exactλi h h' ⟨o,ho,r⟩ q=>⟨o,q.trans ho,r⟩
 ·exactλi A s Q E st q=>wpAny_pyIter_keyiter st q
 ·intro i x A s1 Q hx hh hp st hQ;have hi:i<l.length:=by have:=(List.getElem?_eq_some_iff.mp hx).1;rwa [Eh] at this
  have hk:=Fg (ln▸hi);have key:l[i]?.map (·.1)=some kvs[i].1:=by rw [<-kg,ZS hr,kg,hk];rfl
  obtain⟨p,hp1,hp2⟩:=Option.map_eq_some_iff.mp key;rw [kg,hp1] at hx;refine wpAny_pyNext_dict_item st ⟨od,es,hp _ (.head _),hrest⟩ hk λkey h' hkey st' hs=> ?_;obtain⟨tk,rfl⟩:=ba hkey;exact hQ _ h' s1.toks (Bh hx▸⟨tk,by rw [hp2];rfl⟩) st' hs
 ·intro A s1 Q hh hp st hQ;rw [Eh,ln] at st;exact wpAny_pyNext_dict_end hh st ⟨od,es,hp _ (.head _),hrest⟩ (jb (Oh _)) λh' hs=>hQ h' s1.toks hs
theorem PK{C fI n:Mh}{σ1:Tg->Ah d9}(hm:makesIn W.K C=true)(hi:De W.K (.ref C) "__init__"=some (some (.ref fI)))(hf:isFn W.K (.ref fI)=true)(hU:¬U τ)(hσ:∀τ' o,τ'≠τ->σ τ'=some o->o.keeps (·≠τ))(ha:∀a∈as,a.keeps (·≠τ))
  (E:Fn W (λt=>U t\/t=τ) n (.ref fI) (.g9 τ::as) (up σ τ (.inst C [])) (.a9 .none) σ1):Fn W U (n+1) (.ref C) as σ (.g9 τ) σ1:=λA G s xs hh hd hu S r=>by
 have X:=W.SX.keeps λb o e=>S.y9 b o (.inl (S.base b o e));obtain⟨hp,g,d,tk,os⟩:=s;have kk:∀b ob,hp.get? b=some ob->((hp.push oa).push (Gb C hp.objs.size)).get? b=some ob:=λb o e=>Ng _ (Ng _ e);have hx:((hp.push oa).push (Gb C hp.objs.size)).get? (hp.objs.size+1)=some (Gb C hp.objs.size):=by heap_get
 have hx2:((hp.push oa).push (Gb C hp.objs.size)).get? hp.objs.size=some oa:=Ng _ (Lg _ rfl);have Ny:∀b∈[hp.objs.size+1,hp.objs.size],hp.objs.size<=b:=λb m=>(List.mem_cons.mp m).elim (λe=>e▸Vg _) λm=>List.mem_singleton.mp m▸Oh _;have g2:Gr (·≠τ) G (G.putL τ (hp.objs.size+1) [hp.objs.size+1,hp.objs.size]):= .put λz=>z rfl;have S2:SR W (up σ τ (.inst C [])) (G.putL τ (hp.objs.size+1) [hp.objs.size+1,hp.objs.size]) ((hp.push oa).push (Gb C hp.objs.size)):=
  SR.put (o:= .inst C []) S (λb m=>S.fresh (Ny b m)) (λb m=>dg S.statics (Ny b m)) rfl (λb=>⟨λz=>z.elim (λz=>z▸ .head _) λz=>z▸ .tail _ (.head _),λm=>(List.mem_cons.mp m).imp id λm=>List.mem_singleton.mp m⟩) ⟨Lf _,hx,[],0,hx2,.nil,Ig⟩ q7
   (λτ' n=>⟨.inl ⟨u8 n,λb q=>U6 kk (S.live (.inl ⟨_,q⟩)),λo=>hσ τ' o n⟩⟩) λb q=>U6 kk (S.live (q.elim (λq=> .inr (.inl q)) λq=> .inr (.inr q)))
 refine make_core (makes_of X hm) (looks_findIn X hi) (λself=>bind_fn X self (beq_iff_eq.mp hf)) (.inl rfl) (cc (E _ _ ⟨(hp.push oa).push (Gb C hp.objs.size),g,d,tk,os⟩ _ hh ?_ ?_ S2 (.cons (yh wb H6.symm) (r.mono λa m v r=>r.mono g2 (ha a m)))) λr s' h'=>h'.casesOn λG' v z e R rv q=> ?_)
 ·show A.depth+1+2*n<900;rw [Gg];exact Oc hd
 ·show A.units+1+20*n<9000;rw [Gg];exact eg (Sh (by decide:1<=20) _) hu
 ·rw [z,show v= .none from rv];refine⟨rfl,_,_,rfl,(Gr.put hU).trans (e.weak λz'=> .inl),R,?_,(SS.heap _ _).trans q⟩;exact yh wb ((e.m τ (.inr rfl)).trans H6).symm
theorem FV{G:Gh}{x:Ah AV}{y:Ah Nh}{v:Nh}(q:N7 (F9 G) x y)(r:F9 G a v):F9 G (x.getD a) (y.getD v):=by
 cases x with
 |none=>cases y with
  |none=>exact r
  |some _=>exact q.elim
 |some _=>cases y with
  |none=>exact q.elim
  |some _=>exact q
theorem xZ{R:AV->Nh->Prop}{d:AV}{xs:xh Nh}(r:r9 R [a,b,d] xs):∃x y z,xs=[x,y,z]/\R a x/\R b y/\R d z:=by
 obtain⟨x,n,e,m,r⟩:=r.cons_inv;obtain⟨y,z,rfl,g,l⟩:=W5 r;exact⟨x,y,z,e,m,g,l⟩
theorem tG(e:c.σ τ=some o)(hf:Vi o=some f)(hw:o.wr=true)(hi:∀a b,o.ad a b↔b=a):O4 F U c (λxs=>call (.builtin "dict.get") xs []) [.g9 τ,.a9 (.int k),a] ((f k).getD a) c:=λG s xs S r=>by
 obtain⟨x,y,z,rfl,r1,⟨tk,rfl⟩,r3⟩:=xZ r;obtain rfl:x= .ref (G.μ τ):=r1;obtain⟨kvs,hd,hr⟩:=zR S.sr e hf;refine call_meetsIn Fe hd.mapOf.typeIs Tc (PySem.F.args_dict_get_3 _ _ _) (meets_dict_get_default (Hc F.W.prog F.W.w) _ (ii k tk) (S.sr.bT e (.inl hw) ((hi _ _).mpr rfl)) _) ⟨_,hd.mapOf,?_⟩;exact .here S (FV (hr k) r3) (SS.heap s.heap _)
theorem eK{f:xh KI->Ah AV}{k:xh KI}(e:c.σ τ=some (.W9 f)):O4 F U c (λxs=>call (.builtin "dict.get") xs []) [.g9 τ,.a9 (.tuple (k.map KI.a9)),a] ((f k).getD a) c:=λG s z' S r=>by
 obtain⟨x,y,z,rfl,g,l,p⟩:=xZ r;obtain rfl:x= .ref _:=g;obtain⟨xs,hd,_,m⟩:=PV S.sr e;obtain⟨a,rfl,_,h⟩:=UX S.sr l;refine call_meetsIn Fe hd.typeIs Tc (PySem.F.args_dict_get_3 _ _ _) (meetsH_dict_get_default _ _ a (S.sr.bT e (.inl rfl) rfl) _) ⟨S.room (n:=1+8) (by decide),k,xs,h,hd,?_⟩;refine .here S ?_ (SS.heap _ _);rw [Y7];exact FV (m _) p
variable{τh:Tg}
theorem rU{x:Str}{p:Cf}{elt y iter:Expr}{ifs:xh Expr}{scope:Bg}{spos:Cf}(E:gU F U c (HV F.W elt y iter ifs scope spos) ws c1 σ')(hU:¬U τ)(L:UQ ⟨c1.ρ,σ'⟩ (.list true ws) τ)(hk:X7 (F.env.kindOf x)=true)(hf:F.env.func.isSome=true\/F.env.kindOf x=some .local)
  (hsw:Nf (.ListComp elt [⟨y,iter,ifs,0⟩] scope spos) (some (.Name x p)) pos.line F.env=pure true):X1 F U c (.Assign [.Name x p] (.ListComp elt [⟨y,iter,ifs,0⟩] scope spos) pos) .next ⟨T9 c1.ρ x (.g9 τ),up σ' τ (.list true ws)⟩:=λG s S=>by
 rw [exec_Assign_Name_used _ _ _ _ hsw];refine zh (Re (zh ?_));rw [arm_evalThenUse_ListComp];refine zh (E.go S rfl λacc C s' z=>z.casesOn λG' g S q D v M N st ne r m hn=>r.elim λitems r=>r.1.elim λn d=> ?_);have S2:=S.own (o:= .list true ws) ⟨items,n,d,r.2⟩ rfl (λb=> .rfl) M.has M.fa st L.w L.s L.r;have N2:L5 F (G'.put τ D) s'.heap C:=⟨zS (λz=>ne (List.mem_singleton.mp z).symm) N.has,N.fa,N.fc⟩;have gp:Gr U G' (G'.put τ D):= .put hU;have hn':=hn;obtain⟨o,_,_,ho,_⟩:=hn';have r2:F9 ((G'.put τ D).hold C o) (.g9 τ) acc:=v.trans (yh wb (H6 (L:=[D])).symm);refine lc (f6 hk hf (S2.hold N2 ho) r2 λs5 S5 q5=> ?_);have Q:=ST.u0 (U:=U) N2 .refl S5;exact⟨m,hZ hn (Q.at_.trans ho.symm),λh'' hs=>Ih (Ih ⟨_,(g.trans gp).trans Q.g,Q.S.same Q.n hs,rfl,(q.trans q5).trans (SS.heap h'' s5.toks)⟩)⟩
def Gh.give(G:Gh)(τ:Tg)(ob:He):Gh:={G with P:=λb=>if b=G.μ τ then some ob else G.P b,own:=λb=>if b=G.μ τ then none else G.own b}
theorem EV{b:Mh}(q:(G.give τ ob).own b=some τh):b≠G.μ τ/\G.own b=some τh:=(j8 q).resolve_left λq=>(by nomatch q.2)
theorem ST.give{y:Str}(S:ST F ⟨ρ,σ⟩ G h)(e:σ τ=some (.list true (ds.map .a9)))(hσ:∀t,t≠τ->σ' t=σ t)(L:σ' τ=none)(D:ρ.lookup y=some (.g9 τ)):∃G',Gr U G G'/\ST F ⟨T9 ρ y (.a9 (.list ds)),σ'⟩ G' h:=by
 obtain⟨items,n,g,r⟩:=S.sr.g9 _ _ e;have A:=S.sr.own _ _ _ e rfl rfl;obtain⟨⟨K,k0,M,_⟩,_⟩:=S.sr.at_ _ _ A
 have l:∀{V},Gr V G (G.give _ (listOf items n)):=λ{V}=>
  ⟨λb x q=>(Fh λz=>s9 (z▸q) K).trans q,λb x q=>⟨q,Fh λz=>s9 (z▸q) k0⟩,λb x q=>⟨q,Fh λz=>s9 (z▸q) M⟩,λz' z'=>rfl⟩
 have B:∀{t o},σ' t=some o->t≠τ/\σ t=some o:=λ{t o} q=>by
  by_cases z:t=τ
  ·rw [z,L] at q;cases q
  ·exact⟨z,hσ t z▸q⟩
 have E:∀x v,(T9 _ y (.a9 (.list ds))).lookup x=some v->∀w,(∀u,ρ.lookup x=some u->F9 G u w)->F9 (G.give τ (listOf items n)) v w:=λx v q w hw=>by
  by_cases z:x=y
  ·rw [z,fZ] at q;exact Bh q▸⟨G.μ _,items,n,(hw (.g9 _) (z▸D)),Lh rfl,r.M6.mono (l (V:=q0)).p⟩
  ·rw [A6 z] at q;exact(hw v q).mono (l) v.V9
 have H:∀x v,(T9 ρ y (.a9 (.list ds))).lookup x=some v->∃u,ρ.lookup x=some u:=λx v q=>by
  by_cases z:x=y
  ·exact⟨_,z▸D⟩
  ·exact⟨v,A6 z▸q⟩
 haveI N:∀b x,(G.give _ _).P b=some x->h.get? b=some x:=λb x q=>(j8 q).elim (λq=>q.1▸q.2▸g) λq=>S.sr.y9 b x (.inl q.2);refine⟨_,l,⟨λa x q=>(l (V:=q0)).p a x (S.sr.base a x q),λa x q=>q.elim (N a x) λq=>S.sr.y9 a x (.inr q),S.sr.S7,S.sr.fX,S.sr.kz,λt x q=>(S.sr.g9 t x (B q).2).mono (l) x.V9,λt x a q w f=> ?_,λt x a q w f=>S.sr.O5 t x a (B q).2 w f,λa t q=> ?_⟩,S.fr.st,?_,λx v q k=> ?_,S.fr.live,λa m q=>S.fr.rY a m ?_,λx d q=>⟨?_,(S.fr.e5 x d q).2⟩⟩
 ·have:=S.sr.own t x a (B q).2 w f;exact(Fh λ(z:a=G.μ _)=>(B q).1 (Bh (this.symm.trans (z▸A)))).trans this
 ·obtain⟨I,q⟩:=EV q;obtain⟨z,x,J,w,f⟩:=S.sr.at_ a t q
  haveI O:t≠τ:=λy=>I (by
   haveI C:=y▸J;rw [<-Bh (e.symm.trans C),y] at f;exact f)
  exact⟨⟨(Fh I).trans z.1,z.2⟩,x,(hσ t O).trans J,w,f⟩
 ·exact S.fr.ns.imp λm q=>⟨q.1,λx v e1 C=>(H x v e1).elim λu j=>(q.2 x u j C).imp λz w=>⟨w.1,E x v e1 z λQ i=>Bh (j.symm.trans i)▸w.2⟩⟩
 ·exact(H x v q).elim λu j=>(S.fr.cell x u j k).imp λd w=>w.imp λz w=>⟨w.1,w.2.1,E x v q z λQ i=>Bh (j.symm.trans i)▸w.2.2⟩
 ·exact q.elim (λq=> .inl (q.imp λt q=>(EV q).2)) λq=>q.elim (λq=>q.elim λx q=>q.elim (λq=>(j8 q).elim (λq=> .inl ⟨τ,q.1▸A⟩) λq=> .inr (.inl ⟨x,.inl q.2⟩)) λq=> .inr (.inl ⟨x,.inr q⟩)) λq=> .inr (.inr q)
 ·exact(Fh λ(z)=>s9 (z▸A) (S.fr.e5 x d q).1).trans (S.fr.e5 x d q).1
theorem Do.X6{t:ca α}(H:∀G h,ST F c G h->∃G',Gr U G G'/\ST F c1 G' h)(E:Do F U c1 t R c2):Do F U c t R c2:=λG s S=>(H G _ S).elim λG' q=>zi q.1 .refl (E _ s q.2)
theorem jy{l r:Expr}(E1:Ev F U c l a c1)(E2:Ev F U' c1 r b c2)(hU:∀τ,U τ->U' τ)(ha:a.keeps U')(h1:Ls c2.σ a vs)(h2:Ls c2.σ b ws)(hz:(vs++ws).length<=1000000):gL F U c (.BinOp l .Add r pos) (vs++ws) c2:=λG s S=>
 wpAny_BinOp (E1.bind S λG1 v s1 S1 r1 g1 q1=>E2.bind S1 λG2 w s2 S2 r2 g2 q2=>by
  obtain⟨z,items,n,rfl,g,q⟩:=W7 S2.sr h1 (r1.mono g2 ha);obtain⟨z2,items2,n2,rfl,g',q'⟩:=W7 S2.sr h2 r2;have l1:=q.length.trans qg;have l2:=q'.length.trans qg;have hz:=l1▸l2▸Ch▸hz;exact P.add_list g g' (.uT (g1.trans (g2.weak hU)) (q1.trans q2) (.push S2 (by rw [ud];exact q.append q') (λz' z' e=>Ng _ e) (Oh _) (Lg _ rfl))) (by rw [sizeLine_eq];lia))
theorem DW{o' i:Expr}{p:Cf}{f:Str->Ah AV}{k:Str}(E:oY F U c e o c1)(Eo:IJ F c1 o' (.g9 τh))(Ei:IJ F c1 i (.a9 (.str k)))(hU:¬U τ)(L:JJ c1 o τ τh)(eh:c1.σ τh=some (.s8 f))(hr:k∈SK)(hk:∀j v,j≠k->f j=some v->v.keeps (·≠τ))(hs:∀env,Nf e (some (.Subscript o' i p)) pos.line env=pure false):
  X1 F U c (.Assign [.Subscript o' i p] e pos) .next ⟨c1.ρ,up (up c1.σ τ o) τh (.s8 (f9 f k (.g9 τ)))⟩:=λG s S=>
 Db (Yh (E G s S) (λv s1 z=>z.casesOn λG1 g1 S1 q1 x v gx w0 ad hx hfa hfc st=>Eo G1 s1 S1 _ λov tk r1=>Ei G1 {s1 with toks:=tk} S1 _ λiv tk2 r2=>by
  obtain rfl:ov= .ref (G1.μ τh):=r1;obtain⟨hok,tk3,rfl⟩:=r2;obtain⟨kvs,hd,hq,hf⟩:=S1.sr.g9 τh _ eh;refine Gd (by show(k==k)=true;exact zg k) hd (λh' hd' hs'=> ?_) (O9 (vh (K7 (NP hf) (r6 hd) hq) (by decide)));refine⟨G1.put τ x,g1.trans (.put hU),S1.BE gx w0 ad hx hfa hfc st L eh rfl rfl (λz'=>Sg) (λb n=>hs'.2 b λz=>n (z▸S1.sr.own τh _ _ eh rfl rfl)) ⟨_,hd',λj=> ?_,T6 hf hr⟩,rfl,q1.trans (SS.heap _ _)⟩;rw [a6];unfold f9;by_cases z:j=k
  ·rw [Lh z,Lh z,v];exact yh wb H6.symm
  ·rw [Fh z,Fh z];exact(hq j).mono λw m z' q=>q.mono (.put λz=>z rfl) (hk j w z m)) λz' z' z=>z) (hs _)
end
section
variable{c c1:Cx}{F:Fm}{W:Wd}{σ':Tg->Ah d9}{G G':Gh}{h h':Pf}{U:Tg->Prop}{s s':Uh}{pos:Cf}{ps:xh (Dh×Jh)}{kx vx x iter:Expr}{ifs:xh Expr}{sc:Bg}
def uD(p:Dh×Jh):AV:= .a9 (.tuple [.int p.1,p.2])
def dJ(ps:xh (Dh×Jh)):xh (Dh×AV):=ps.foldl (λl p=>R6 l p.1 (.a9 p.2)) []
theorem LZ{l:xh (Dh×AV)}{k:Dh}{a:AV}(h:∀y∈l,y.2.keeps U)(b:a.keeps U):∀y∈R6 l k a,y.2.keeps U:=λy m=>by
 unfold R6 at m;split at m
 ·obtain⟨z,m2,rfl⟩:=List.mem_map.mp m;split
  ·exact b
  ·exact h z m2
 ·exact(List.mem_append.mp m).elim (h y) λm=>List.mem_singleton.mp m▸b
theorem xQ:∀y∈dJ ps,y.2.keeps U:=by
 haveI:∀(ps:xh (Dh×Jh)) (l),(∀y∈l,y.2.keeps U)->∀y∈ps.foldl (λl p=>R6 l p.1 (.a9 p.2)) l,y.2.keeps U:=λps=>by
  induction ps with
  |nil=>exactλz' h=>h
  |cons p _ i=>exactλl h=>i _ (LZ h trivial)
 exact this _ [] λz' m=>(by nomatch m)
def nM(W:Wd)(D:Mh)(G:Gh)(h:Pf)(us:xh AV):Prop:=∃(ps:xh (Dh×Jh)) (kvs:xh (Dh×Nh)),us=ps.map uD/\h.DictOf (Hc W.prog W.w) D kvs/\kvs.length<=us.length/\r9 (λx y=>x.1=y.1/\F9 G x.2 y.2) (dJ ps) kvs
theorem gJ{D:Mh}{us:xh AV}(r:nM W D G h us)(g:Gr U G G')(e:h'.get? D=h.get? D):nM W D G' h' us:=r.imp λps r=>r.imp λkvs r=>⟨r.1,b5 r.2.1 e,r.2.2.1,r.2.2.2.mono λx m y r=>⟨r.1,r.2.V7 g.gm (xQ x m)⟩⟩
def SF(W:Wd)(j d x iter:Expr)(ifs:xh Expr)(sc:Bg)(pos:Cf):Fo W where
 ex:= .DictComp j d [⟨x,iter,ifs,0⟩] sc pos
 sc:=sc
 x:=x
 iter:=iter
 ifs:=ifs
 nm:="dict"
 d0:= .dict #[]
 γ:=Nh×Nh
 cmp A env Q s:=og (Mk W) A (bc j env) (λk s=>og (Mk W) A (bc d env) (λv s=>Q (k,v) s) no s) no s
 R b G q:=∃p tk,b=uD p/\q.1= .int p.1 tk/\F9 G (.a9 p.2) q.2
 e6 D env:=do
  let o<-bc j env;let t<-na [o] (bc d env)
  ma {j.pos with endLine:=d.pos.endLine,endCol:=d.pos.endCol}
  na [o,t] (dictSet D o t)
 rD D q:=dictSet D q.1 q.2
 cont:=nM W
 turn it D env:=⟨_,cQ⟩
 start h0 h1:=codeAny_compStart_dict h0 h1
 ct A env fa n U D:={
  mo:=λP Q s h k=>Yh h (λz' z' h=>Yh h (λz' z' h=>k _ _ h) λz' z' x=>x) λz' z' x=>x
  ex:=λG h us r=>r.elim λps r=>r.elim λkvs r=>I4 r.2.1
  mv:=λG G' h h' us r g w e=>gJ r g e
  rm:=λb G G' x k r=>r.imp λp r=>r.imp λtk r=>⟨r.1,r.2.1,k _ _ r.2.2⟩
  st:=λG s us b x Q r q hz k=>r.elim λps r=>r.elim λkvs r=>q.elim λp q=>q.elim λtk q=>by
   rw [q.2.1];refine wpAny_dictSet_pairs (hsz:=O9 (vh (vh r.2.2.1 hz) (by decide))) (ii p.1 tk) r.2.1 λy u l=>k y _ ⟨ps++[p],_,?_,u,?_,?_⟩ l
   ·rw [r.1,q.1,bg];rfl
   ·rw [Ch];exact vh (stored_length_le kvs p.1 x.2) (Vh r.2.2.1)
   ·have:dJ (ps++[p])=R6 (dJ ps) p.1 (.a9 p.2):=by unfold dJ;rw [List.foldl_append];rfl
    rw [this];exact QS r.2.2.2 q.2.2}
 step A env D Q s h:=zh (Yh h (λz' z' h=>zh (bf (Yh h (λz' z' h=>zh (Re (bf h))) λz' z' x=>x))) λz' z' x=>x)
 new G h D e:=⟨[],[],rfl,yR e,Oh _,.nil⟩
 sz:=by size_fits
 fr:=rfl
 cl:=rfl
theorem QF:∀D G G' h us,nM W D G h us->(∀a v,F9 G a v->F9 G' a v)->nM W D G' h us:=
 λD G z' h z' r k=>r.imp λps r=>r.imp λkvs r=>⟨r.1,r.2.1,r.2.2.1,r.2.2.2.mono λx z' y r=>⟨r.1,k _ _ r.2⟩⟩
theorem YL{p q:Dh×Jh}(e:uD p=uD q):p=q:=by cases q;cases e;rfl
theorem sE(E:gU F U c (SF F.W kx vx x iter ifs sc pos) (ps.map uD) c1 σ'):oY F U c (.DictComp kx vx [⟨x,iter,ifs,0⟩] sc pos) (.M9 true (dJ ps)) ⟨c1.ρ,σ'⟩:=λG s S=>by
 exact E.go S rfl λacc C z' z=>z.casesOn λG' g S q D v M N a n r m hn=>r.elim λp r=>r.elim λkvs r=>
  ⟨m,hn,λh hs=>⟨G',g,S.same N hs,q.trans (SS.heap _ _),D,v,(List.map_inj_right λz' z'=>YL).mp r.1▸⟨kvs,b5 r.2.1 (hs.2 D n),r.2.2.2⟩,rfl,λz' z'=> .rfl,M.has,M.fa,M.fc,a⟩⟩
theorem mE{τ:Tg}{o o' y:d9}{e:Expr}(z:Fz o o')(e':c.σ τ=some o)(E:oY F (λt=>U t\/t=τ) ⟨c.ρ,up c.σ τ o'⟩ e y c1)(e1:c1.σ τ=some o'):oY F U c e y ⟨c1.ρ,up c1.σ τ o⟩:=λG s S=>
 (S.sr.g9 τ o e').live ((z.ad _ _).mpr rfl)|>.elim λob g=>
 have X:=S.freeze e' z g
 Yh (E _ s X.S) (λv s' y=>y.casesOn λG' g' S' q x v gx w ad f fa fc st=>have w':=S'.dQ X z g' (.inr rfl) e1
  ⟨_,w'.g.weak λz'=> .inl,w'.S,q,x,v,gx.X6 rfl rfl,w,ad,λq=>f (q.elim (λq=>q.elim λt q=>(j8 q).elim (λq=> .inr (.inr ((S'.sr.O5 τ o' _ e1 z.w' ((z.np _ _).mpr rfl)).imp' (Prod.mk τ) λz' y=>q.1▸y))) λq=> .inl ⟨t,q.2⟩) λq=>q.elim (λq=> .inr (.inl q)) λq=>q.elim λt q=>(j8 q).elim (λq=>(by nomatch q.2)) λq=> .inr (.inr ⟨t,q.2⟩)),fa,fc,st⟩) λz' z' x=>x
end
section
set_option genCtorIdx true
inductive O2 where
 |add|sub|mul|mod|fdiv
inductive C2 where
 |eq|ne|lt|le|gt|ge|isin|notin|isv|isnot
inductive BF where
 |len|sorted|list|tuple|range|min|max|int
inductive LM where
 |append|extend|pop|get
inductive Md where
 |all|st|s2|lU|top
inductive K4 where
 |M1|ifs
set_option genCtorIdx false
inductive K0 where
 |var (i:Mh)|con (d:Jh)|tI (k:Mh)|nil|dI|dL|dT|X0|bad
inductive K1 where
 |D6 (i:Mh)|neg|one|tup|lst|blt (f:BF)|CF|VQ|xH|fn (id:Mh)|own (τ:Tg)|dS|dN|fz|val|not|ret|rel (i:Mh)|new (τ:Tg) (id:Mh)
inductive K2 where
 |sub|bin (op:O2)|cmp (op:C2)|uW|cons|zip|met (id:Mh)|lm (f:LM)|iU|TM|and|or|ex|set (i:Mh)|g6 (is:xh Mh)|VW (is:xh Mh)|XW (is:xh Mh)|wY (i:Mh)|vY (i:Mh) (τ:Tg)|M4 (y:Mh) (i:Mh)|WW (y:Mh) (i:Mh) (τ:Tg)|R3 (y:Mh) (i:Mh) (j:Mh) (κ:LK)|W0 (y:Mh) (x:Str) (τ:Tg)
inductive K3 where
 |ite|pr|comp (is:xh Mh) (one:Kh) (fv:xh Mh)|cY (is:xh Mh) (one:Kh) (fv:xh Mh)|del|UZ (z:Kh) (is:xh Mh) (one:Kh) (k:xh Mh)|GV (i:Mh) (k:xh Mh)|vU (k:xh Mh)
inductive M where
 |z (k:K0)|a (k:K1) (m:M)|b (k:K2) (m n:M)|c (k:K3) (m n v:M)|d (k:K4) (m n v w:M)
abbrev M.var(i:Mh):M:= .z (.var i)
abbrev M.con(d:Jh):M:= .z (.con d)
abbrev M.tI(k:Mh):M:= .z (.tI k)
abbrev M.D6(m:M)(i:Mh):M:= .a (.D6 i) m
abbrev M.sub(m:M)(n:M):M:= .b .sub m n
abbrev M.bin(op:O2)(m:M)(n:M):M:= .b (.bin op) m n
abbrev M.cmp(op:C2)(m:M)(n:M):M:= .b (.cmp op) m n
abbrev M.neg(m:M):M:= .a .neg m
abbrev M.uW(m:M)(n:M):M:= .b .uW m n
abbrev M.one(m:M):M:= .a .one m
abbrev M.ite(t:M)(m:M)(n:M):M:= .c .ite t m n
abbrev M.tup(m:M):M:= .a .tup m
abbrev M.lst(m:M):M:= .a .lst m
abbrev M.nil:M:= .z .nil
abbrev M.cons(m:M)(n:M):M:= .b .cons m n
abbrev M.pr(k:M)(v:M)(m:M):M:= .c .pr k v m
abbrev M.blt(f:BF)(m:M):M:= .a (.blt f) m
abbrev M.CF(m:M):M:= .a .CF m
abbrev M.VQ(m:M):M:= .a .VQ m
abbrev M.xH(m:M):M:= .a .xH m
abbrev M.zip(m:M)(n:M):M:= .b .zip m n
abbrev M.fn(id:Mh)(m:M):M:= .a (.fn id) m
abbrev M.met(o:M)(id:Mh)(m:M):M:= .b (.met id) o m
abbrev M.lm(o:M)(f:LM)(m:M):M:= .b (.lm f) o m
abbrev M.own(τ:Tg)(m:M):M:= .a (.own τ) m
abbrev M.iU(m:M)(n:M):M:= .b .iU m n
abbrev M.TM(m:M)(n:M):M:= .b .TM m n
abbrev M.comp(e:M)(is:xh Mh)(one:Kh)(a:M)(i:M)(fv:xh Mh):M:= .c (.comp is one fv) e a i
abbrev M.cY(k:M)(v:M)(is:xh Mh)(one:Kh)(i:M)(fv:xh Mh):M:= .c (.cY is one fv) k v i
abbrev M.dI:M:= .z .dI
abbrev M.dL:M:= .z .dL
abbrev M.dT:M:= .z .dT
abbrev M.dS(m:M):M:= .a .dS m
abbrev M.dN(m:M):M:= .a .dN m
abbrev M.fz(m:M):M:= .a .fz m
abbrev M.val(m:M):M:= .a .val m
abbrev M.not(m:M):M:= .a .not m
abbrev M.and(m:M)(n:M):M:= .b .and m n
abbrev M.or(m:M)(n:M):M:= .b .or m n
abbrev M.ex(m:M)(k:M):M:= .b .ex m k
abbrev M.set(i:Mh)(m:M)(k:M):M:= .b (.set i) m k
abbrev M.g6(is:xh Mh)(m:M)(k:M):M:= .b (.g6 is) m k
abbrev M.VW(is:xh Mh)(m:M)(k:M):M:= .b (.VW is) m k
abbrev M.XW(is:xh Mh)(m:M)(k:M):M:= .b (.XW is) m k
abbrev M.wY(i:Mh)(m:M)(k:M):M:= .b (.wY i) m k
abbrev M.vY(i:Mh)(τ:Tg)(m:M)(k:M):M:= .b (.vY i τ) m k
abbrev M.M4(y:Mh)(i:Mh)(m:M)(k:M):M:= .b (.M4 y i) m k
abbrev M.WW(y:Mh)(i:Mh)(τ:Tg)(m:M)(k:M):M:= .b (.WW y i τ) m k
abbrev M.M1(m:M)(n:M)(v:M)(k:M):M:= .d .M1 m n v k
abbrev M.R3(y:Mh)(i:Mh)(j:Mh)(κ:LK)(m:M)(k:M):M:= .b (.R3 y i j κ) m k
abbrev M.del(m:M)(n:M)(k:M):M:= .c .del m n k
abbrev M.ifs(t:M)(m:M)(n:M)(k:M):M:= .d .ifs t m n k
abbrev M.UZ(z:Kh)(is:xh Mh)(one:Kh)(i:M)(body:M)(a:xh Mh)(k:M):M:= .c (.UZ z is one a) i body k
abbrev M.GV(i:Mh)(b:M)(body:M)(a:xh Mh)(k:M):M:= .c (.GV i a) b body k
abbrev M.vU(t:M)(body:M)(a:xh Mh)(k:M):M:= .c (.vU a) t body k
abbrev M.ret(m:M):M:= .a .ret m
abbrev M.X0:M:= .z .X0
abbrev M.bad:M:= .z .bad
abbrev M.rel(i:Mh)(k:M):M:= .a (.rel i) k
abbrev M.W0(y:Mh)(x:Str)(τ:Tg)(m:M)(k:M):M:= .b (.W0 y x τ) m k
abbrev M.new(τ:Tg)(id:Mh)(m:M):M:= .a (.new τ id) m
structure IC where
 ρ:xh (Mh×AV)
 t:xh (Mh×d9)
 b:Tg->Ah d9
def Tg.ti(τ:Tg):Ah Mh:=match τ.U9 with
 |true=>some τ.code.2.toNat
 |false=>none
def A4(t:xh (Mh×d9))(b:Tg->Ah d9)(τ:Tg):Ah d9:=match τ.ti with
 |some k=>t.lookup k
 |none=>b τ
def IC.σ(c:IC):Tg->Ah d9:=A4 c.t c.b
def vn(vs:xh Str)(i:Mh):Str:=(vs[i]?).getD ⟨#[1114112+i]⟩
def A0(vs:xh Str)(a:xh (Mh×AV)):xh (Str×AV):=a.map λp=>(vn vs p.1,p.2)
def IC.cx(vs:xh Str)(c:IC):Cx:=⟨A0 vs c.ρ,c.σ⟩
def Tg.H1:Tg->Kh
 | .queue| .marks| .trail| .ls _ _| .W8 _| .byr _| .levels| .lvl _| .news| .ltold| .fresh=>false
 |_=>true
def Tg.iN(τ:Tg):Kh:=Nat.beq τ.code.1 18
def V6(τ:Tg):Kh:=Nat.beq τ.code.1 11
def SZ:Tg->Ah Tg
 | .ls k _=>some (.w7 k)
 | .bk _=>some .bank
 | .levels| .lwat| .ltold| .fresh=>some .state
 | .lvl _=>some .levels
 | .house| .W8 _| .byr _| .feed| .state=>none
 |_=>some .house
def Md.u:Md->Tg->Kh
 | .all,τ=> !τ.U9
 | .st,τ=>τ.H1||τ.iN
 | .s2,τ=>τ.H1
 | .lU,τ=>qd τ.code.1 1||Nat.beq τ.code.1 19
 | .top,_=>false
def Md.le:Md->Md->Kh
 | .top,_=>true
 |_,.top=>false
 | .lU,_=>true
 |_,.lU=>false
 | .s2,_=>true
 | .st,.s2=>false
 | .st,_=>true
 | .all,.all=>true
 | .all,_=>false
abbrev Mo:=Md×xh Tg
def um(u:Mo)(τ:Tg):Prop:=u.1.u τ=true\/τ∈u.2
def hold(a:AV)(u:Mo):Mo:=match a with
 | .g9 τ=>(u.1,τ::u.2)
 |_=>u
def D8(a:xh (Mh×AV))(u:Mo):Mo:=a.foldr (λp u=>hold p.2 u) u
def wB(p:Tg->Kh):AV->Kh
 | .g9 τ=>p τ
 |_=>true
def VO(m:Md):AV->Kh:=wB λτ=>m.u τ||τ.U9
def sF:AV->Kh:=wB λτ=> !τ.U9
def bF(u:Mo)(m:Md):Kh:=u.1.le m&&u.2.all λτ=>m.u τ||τ.U9
def nu(u:Mo)(τ:Tg):Kh:= !u.1.u τ&& !u.2.contains τ
def nt(τ:Tg):AV->Kh:=wB λa=> !decide (a=τ)
def hb(τ t:Tg):Kh:= !τ.U9&&(!t.U9&&(!decide (t=τ)&&decide (SZ t=some τ)))
def hk(τ:Tg):AV->Kh:=wB (hb τ)
def w6(τ:Tg)(o:d9):Prop:=o.keeps λt=>hb τ t=true
def AV.dat?:AV->Ah Jh
 | .a9 d=>some d
 |_=>none
def AV.obj?:AV->Ah Tg
 | .g9 τ=>some τ
 |_=>none
def AV.rng?:AV->Ah Dh
 | .range n=>some n
 |_=>none
def eV:Jh->Ah Dh
 | .int i=>some i
 |_=>none
def XL:Jh->Ah Str
 | .str i=>some i
 |_=>none
def YP:Jh->Ah Kh
 | .bool i=>some i
 |_=>none
def WL:Jh->Ah (xh Jh)
 | .tuple i=>some i
 |_=>none
def iG:Jh->Ah (xh Jh)
 | .list i=>some i
 |_=>none
abbrev AV.int?(a:AV):Ah Dh:=a.dat?.bind eV
abbrev AV.str?(a:AV):Ah Str:=a.dat?.bind XL
abbrev AV.bool?(a:AV):Ah Kh:=a.dat?.bind YP
abbrev AV.tup?(a:AV):Ah (xh Jh):=a.dat?.bind WL
abbrev AV.lst?(a:AV):Ah (xh Jh):=a.dat?.bind iG
def d9.ls?:d9->Ah (Kh×xh AV)
 | .list w vs=>some (w,vs)
 |_=>none
def d9.dI?:d9->Ah (Kh×(Dh->Ah AV))
 | .p9 w vs=>some (w,vs)
 |_=>none
def d9.dL?:d9->Ah (Kh×xh (Dh×AV))
 | .M9 w vs=>some (w,vs)
 |_=>none
def d9.dT?:d9->Ah (xh KI->Ah AV)
 | .W9 f=>some f
 |_=>none
def d9.dS?:d9->Ah (Str->Ah AV)
 | .s8 f=>some f
 |_=>none
def d9.in?:d9->Ah (Mh×xh (Mh×AV))
 | .inst w vs=>some (w,vs)
 |_=>none
def br(b:Kh)(P Q:Prop):Prop:=match b with
 |true=>P
 |false=>Q
def ck(b:Kh)(P:Prop):Prop:=match b with
 |true=>P
 |false=>False
def rd{b:Type}(x:Ah b)(P:b->Prop):Prop:=match x with
 |some a=>P a
 |none=>False
def Ci{b:Type}(x:Ah b)(P:b->Prop)(Q:Prop):Prop:=match x with
 |some a=>P a
 |none=>Q
abbrev kP(a:xh (Mh×AV))(t:xh (Mh×d9))(K:IC->Prop)(b:Tg->Ah d9):Prop:=K ⟨a,t,b⟩
abbrev Lq{a:Type}(x:a)(Q:a->Prop)(y:a):Prop:=x=y/\Q y
def put(c:IC)(τ:Tg)(o:d9)(K:IC->Prop):Prop:=match τ.ti with
 |some k=>K ⟨c.ρ,T9 c.t k o,c.b⟩
 |none=>Exists (Lq (up c.b τ o) (kP c.ρ c.t K))
def two(a b:AV)(P:Dh->Dh->Prop):Prop:=rd a.int? λi=>rd b.int? λj=>P i j
def SV:xh AV->(xh Jh->Prop)->Prop
 |[],P=>P []
 |a::as,P=>rd a.dat? λd=>SV as λds=>P (d::ds)
def gI(c:IC)(a:AV)(P:xh AV->Prop):Prop:=Ci a.obj? (λτ=>rd (c.σ τ) λo=>rd o.ls? λp=>P p.2) (rd a.lst? λds=>P (ds.map .a9))
def WM(c:IC)(a:AV)(P:xh Jh->Prop):Prop:=Ci a.obj? (λτ=>rd (c.σ τ) λo=>rd o.ls? λp=>∃ds,p.2=ds.map .a9/\P ds) (rd a.lst? P)
def Gv(c:IC)(a:AV)(P:xh Dh->Prop):Prop:=WM c a λds=>∃ns,ds=zs ns/\P ns
def oB(n:Dh):xh AV:=(ug n.toNat).map λ(i:Mh)=> .a9 (.int i)
def CD(c:IC)(u:Mo)(a:AV)(P:xh AV->Prop):Prop:=Ci a.obj?
 (λτ=>rd (c.σ τ) λo=>Ci o.ls? (λp=>ck (!p.1) ((∀v∈p.2,v.keeps (um u))/\P p.2)) (rd o.dL? λp=>ck (!p.1) (P (p.2.map λp=> .a9 (.int p.1)))))
 (Ci a.rng? (λn=>(0<=n/\n<=1000000)/\P (oB n)) (Ci a.lst? (λds=>P (ds.map .a9)) (rd a.tup? λds=>P (ds.map .a9))))
def HJ(ns:xh Dh)(o:He):Prop:=o.cls= .type "list"/\∃items n,o.data= .seq items n/\IntsAre items.toList ns
def AV.raw?:AV->Ah (He->Prop)
 | .raw p=>some p
 |_=>none
def tq(c:IC)(a:AV)(P:xh Jh->Prop):Prop:=Ci a.raw? (λp=>∃ns,p=HJ ns/\P (zs ns)) (WM c a P)
def fld(c:IC)(a:AV)(i:Mh)(P:AV->Prop):Prop:=rd a.obj? λτ=>rd (c.σ τ) λo=>rd o.in? λp=>rd (p.2.lookup i) P
abbrev Kq{a:Type}(l:xh a)(P:a->Prop)(v:a):Prop:=l.length<=1000000/\P v
abbrev Mq(P:AV->Prop)(d:Jh):Prop:=P (.a9 d)
def Zi(c:IC)(a b:AV)(P:AV->Prop):Prop:=Ci b.int?
 (λk=>Ci a.obj? (λτ=>rd (c.σ τ) λo=>Ci o.ls? (λp=>rd (H8 k p.2) (Kq p.2 P)) (Ci o.dI? (λp=>rd (p.2 k) P) (rd o.dL? λp=>rd (lk p.2 k) P)))
  (Ci a.lst? (λds=>rd (H8 k ds) (Kq ds (Mq P))) (rd a.tup? λds=>ck (decide (0<=k)&&decide (k<=1000)) (rd ds[k.toNat]? (Mq P)))))
 (rd b.str? λs=>rd a.obj? λτ=>rd (c.σ τ) λo=>rd o.dS? λf=>rd (f s) P)
def Qy(c:IC)(a b:AV)(P:Jh->Prop):Prop:=Ci a.int? (λi=>rd b.int? λj=>P (.int (i+j)))
 (Ci a.tup? (λds=>rd b.tup? λes=>(ds≠[]/\es≠[])/\(ds++es).length<=1000/\P (.tuple (ds++es))) (WM c a λds=>WM c b λes=>(ds++es).length<=1000000/\P (.list (ds++es))))
def dp(op:O2)(c:IC)(a b:AV)(P:Jh->Prop):Prop:=match op with
 | .add=>Qy c a b P
 | .sub=>two a b λi j=>P (.int (i-j))
 | .mul=>two a b λi j=>IntMulOk i j/\P (.int (i*j))
 | .mod=>two a b λi j=>0<j/\P (.int (i%j))
 | .fdiv=>two a b λi j=>(0<j/\Ha i j=false)/\P (.int (i/j))
def Y0(d e:Jh):Kh:=((eV d).bind λi=>(eV e).map λj=>decide (i=j)).getD (yf d e)
def tW(ds:xh Jh)(e:Jh):Kh:=ds.any λy=>yf y e
def Os(c:IC)(a b:AV)(P:Kh->Prop):Prop:=Ci b.obj?
 (λτ=>rd (c.σ τ) λo=>Ci o.ls? (λp=>rd a.dat? λe=>∃ds,p.2=ds.map .a9/\ck (lay (.list ds)&&lay e) (P (tW ds e)))
  (Ci o.dI? (λp=>rd a.int? λk=>P (p.2 k).isSome) (rd o.dL? λp=>rd a.int? λk=>P (lk p.2 k).isSome)))
 (rd a.dat? λe=>Ci b.lst? (λds=>ck (lay (.list ds)&&lay e) (P (tW ds e))) (rd b.tup? λds=>ck (lay (.tuple ds)&&lay e) (P (tW ds e))))
def Ks(a b:AV)(P:Kh->Prop):Prop:=rd b.dat? λe=>ck (isNone e) (rd a.dat? λd=>P (isNone d))
def dv(c:IC)(a:AV)(P:Jh->Prop):Prop:=Ci a.dat? P (WM c a λds=>P (.list ds))
def HD(c:IC)(a b:AV)(P:Kh->Prop):Prop:=dv c a λd=>dv c b λe=>ck (lay d&&lay e) (P (Y0 d e))
def kr(op:C2)(c:IC)(a b:AV)(P:Kh->Prop):Prop:=match op with
 | .eq=>HD c a b P
 | .ne=>HD c a b λt=>P (!t)
 | .lt=>two a b λi j=>P (decide (i<j))
 | .le=>two a b λi j=>P (decide (i<=j))
 | .gt=>two a b λi j=>P (decide (j<i))
 | .ge=>two a b λi j=>P (decide (j<=i))
 | .isin=>Os c a b P
 | .notin=>Os c a b λt=>P (!t)
 | .isv=>Ks a b P
 | .isnot=>Ks a b λt=>P (!t)
def a1(vs:xh AV)(P:AV->Prop):Prop:=match vs with
 |[a]=>P a
 |_=>False
def a2(vs:xh AV)(P:AV->AV->Prop):Prop:=match vs with
 |[a,b]=>P a b
 |_=>False
def qp(vs:xh AV)(P:AV->Prop)(Q:AV->AV->Prop):Prop:=match vs with
 |[a]=>P a
 |[a,b]=>Q a b
 |_=>False
def My(c:IC)(a:AV)(P:AV->Prop):Prop:=Ci a.lst? (λds=>ds.length<=1000000/\P (.a9 (.int ds.length))) (gI c a λvs=>vs.length<=1000000/\P (.a9 (.int vs.length)))
def GI(c:IC)(a:AV)(P:AV->Prop):Prop:=Ci a.rng? (λn=>(0<=n/\n<=1000000)/\P (.a9 (.list (zs ((ug n.toNat).map λ(i:Mh)=>(i:Dh))))))
 (Ci a.obj? (λτ=>rd (c.σ τ) λo=>Ci o.dL? (λp=>ck p.1 (p.2.length<=1000000/\P (.a9 (.list (zs (p.2.map (·.1))))))) (rd o.ls? λp=>∃ds,p.2=ds.map .a9/\ds.length<=1000000/\P (.a9 (.list ds)))) (rd a.lst? λds=>ds.length<=1000000/\P (.a9 (.list ds))))
def Jy(c:IC)(a:AV)(P:AV->Prop):Prop:=Ci a.tup? (λds=>P (.a9 (.tuple ds))) (WM c a λds=>ds.length<=1000000/\P (.a9 (.tuple ds)))
def Ky(f:BF)(c:IC)(vs:xh AV)(P:AV->Prop):Prop:=match f with
 | .len=>a1 vs λa=>My c a P
 | .sorted=>a1 vs λa=>Gv c a λns=>ns.length<64/\P (.a9 (.list (zs (Ja ns))))
 | .list=>a1 vs λa=>GI c a P
 | .tuple=>a1 vs λa=>Jy c a P
 | .range=>a1 vs λa=>rd a.int? λi=>P (.range i)
 | .min=>a2 vs λa b=>two a b λi j=>P (.a9 (.int (if j<i then j else i)))
 | .max=>a2 vs λa b=>two a b λi j=>P (.a9 (.int (if i<j then j else i)))
 | .int=>a1 vs λa=>rd a.int? λi=>P (.a9 (.int i))
def MA(d:Jh)(P:KI->Prop):Prop:=Ci (eV d) (λi=>P (.int i)) (Ci (XL d) (λs=>P (.str s)) (rd (WL d) λds=>∃l,ds=zs l/\P (.tup l)))
def Eu:xh Jh->(xh KI->Prop)->Prop
 |[],P=>P []
 |d::ds,P=>MA d λk=>Eu ds λa=>P (k::a)
def key(a:AV)(P:xh KI->Prop):Prop:=rd a.tup? λds=>Eu ds P
def bO(c:IC)(a:AV)(P:Tg->d9->Prop):Prop:=rd a.obj? λτ=>rd (c.σ τ) (P τ)
def gq(c:IC)(b r a:AV)(K:IC->Prop):Prop:=bO c b λτ o=>ck (hk τ a&& !V6 τ)
 (Ci o.dI? (λp=>rd r.int? λk=>ck p.1 (f7 k=true/\put c τ (.p9 true (f9 p.2 k a)) K))
 (Ci o.dL? (λp=>rd r.int? λk=>ck p.1 (p.2.length<=1000000/\put c τ (.M9 true (R6 p.2 k a)) K))
 (Ci o.dS? (λf=>rd r.str? λk=>ck (decide (k∈SK)) (put c τ (.s8 (f9 f k a)) K))
 (rd o.dT? λf=>key r λk=>k∈TK/\put c τ (.W9 (f9 f k a)) K))))
def iq(c:IC)(b r:AV)(K:IC->Prop):Prop:=bO c b λτ o=>
 Ci o.dI? (λp=>rd r.int? λk=>ck p.1 ((p.2 k).isSome=true/\put c τ (.p9 true (H9 p.2 k)) K))
 (rd o.dT? λf=>key r λk=>(f k).isSome=true/\put c τ (.W9 (H9 f k)) K)
abbrev Dt(P:Tg->Kh->xh AV->Prop)(τ:Tg)(p:Kh×xh AV):Prop:=P τ p.1 p.2
abbrev Bk(P:Tg->Kh->xh AV->Prop)(τ:Tg)(o:d9):Prop:=rd o.ls? (Dt P τ)
def FK(c:IC)(a:AV)(P:Tg->Kh->xh AV->Prop):Prop:=bO c a (Bk P)
abbrev Fk(P:Tg->xh AV->Prop)(τ:Tg)(w:Kh)(l:xh AV):Prop:=ck w (P τ l)
abbrev Gk(c:IC)(a:AV)(P:Tg->xh AV->Prop)(_:Tg)(_:Kh)(_:xh AV):Prop:=FK c a (Fk P)
def bR(c1 c:IC)(a:AV)(P:Tg->xh AV->Prop):Prop:=FK c1 a (Gk c a P)
abbrev Vk(c:IC)(K:AV->IC->Prop)(v:AV)(τ:Tg)(l:xh AV):Prop:=ck (hk τ v) (l.length<=1000000/\put c τ (.list true (l++[v])) (K (.a9 .none)))
abbrev Hu(c:IC)(K:AV->IC->Prop)(τ:Tg)(l:xh AV)(ds:xh Jh):Prop:=l.length+ds.length<=1000000/\put c τ (.list true (l++ds.map .a9)) (K (.a9 .none))
abbrev jk(c:IC)(K:AV->IC->Prop)(v:AV)(τ:Tg)(l:xh AV):Prop:=WM c v (Hu c K τ l)
abbrev xk(c:IC)(K:AV->IC->Prop)(τ:Tg)(l:xh AV):Prop:=∃a v,l=a++[v]/\a.length<=1000000/\put c τ (.list true a) (K v)
def Hv(f:LM)(c1 c:IC)(a:AV)(vs:xh AV)(K:AV->IC->Prop):Prop:=match f with
 | .append=>a1 vs λv=>bR c1 c a (Vk c K v)
 | .extend=>a1 vs λv=>bR c1 c a (jk c K v)
 | .pop=>ck vs.isEmpty (bR c1 c a (xk c K))
 | .get=>bO c1 a λz' b=>bO c a λτ o=>Ci b.dT?
  (λz'=>rd o.dT? λf=>qp vs (λr=>key r λk=>Ci (f k) (λv=>K v c) (K (.a9 .none) c)) λr d=>key r λk=>Ci (f k) (λv=>K v c) (K d c))
  (rd b.dL? λz'=>rd o.dL? λp=>ck p.1 (a2 vs λr d=>rd r.int? λk=>Ci (lk p.2 k) (λv=>K v c) (K d c)))
def IC.set(c:IC)(i:Mh)(a:AV):IC:=⟨T9 c.ρ i a,c.t,c.b⟩
def fQ:xh Mh->xh AV->IC->(IC->Prop)->Prop
 |[],[],c,P=>P c
 |i::is,v::vs,c,P=>fQ is vs (c.set i v) P
 |_,_,_,_=>False
def N5(one:Kh)(is:xh Mh)(v:AV)(c:IC)(P:IC->Prop):Prop:=match one with
 |true=>fQ is [v] c P
 |false=>rd v.tup? λds=>fQ is (ds.map .a9) c P
def I5(is:xh Mh)(a:xh (Mh×AV)):xh (Mh×AV):=is.filterMap λi=>(a.lookup i).map (Prod.mk i)
def IC.keep(is:xh Mh)(c:IC):IC:=⟨I5 is c.ρ,c.t,c.b⟩
abbrev KE:=AV->IC->Prop
abbrev KL:=xh AV->IC->Prop
abbrev KT:=Kh->IC->Prop
abbrev KO:=d9->IC->Prop
abbrev KP:=xh (AV×AV)->IC->Prop
abbrev KB:=Fl->IC->Prop
def zW(k:IC->Prop)(K:KB):KB:=λfl c=>match fl with
 | .next=>k c
 | .ret a=>K (.ret a) c
abbrev kN(B:IC->KB->Prop)(N:KB)(c1:IC):Prop:=B c1 N
def lp(B:IC->KB->Prop)(A:AV->IC->(IC->Prop)->Prop)(k:IC->IC)(K:KB):xh AV->IC->Prop
 |[],c=>K .next (k c)
 |v::vs,c=>A v (k c) (kN B (zW (lp B A k K vs) K))
abbrev qk(B:IC->KB->Prop)(N K:KB)(b:Kh)(c1:IC):Prop:=br b (B c1 N) (K .next c1)
def wh(T:IC->KT->Prop)(B:IC->KB->Prop)(k:IC->IC)(K:KB):Mh->IC->Prop
 |0,_=>False
 |n+1,c=>T (k c) (qk B (zW (wh T B k K n) K) K)
section
variable(T:IC->KT->Prop)(E:IC->KE->Prop)(R:IC->KL->Prop)(K:KL)
abbrev Ok(d:Jh):KL:=λws c=>K (.a9 d::ws) c
abbrev Pk(c:IC)(d:Jh):Prop:=R c (Ok K d)
abbrev Qk:KE:=λa c=>rd a.dat? (Pk R K c)
abbrev Rk:KT:=λb c1=>br b (E c1 (Qk R K)) (R c1 K)
abbrev Sk(c:IC):Prop:=T c (Rk E R K)
end
def fJ(T:IC->KT->Prop)(E:IC->KE->Prop)(a:xh (Mh×AV))(one:Kh)(is:xh Mh):xh AV->IC->KL->Prop
 |[],c,K=>K [] c
 |v::vs,c,K=>N5 one is v ⟨a,c.t,c.b⟩ (Sk T E (fJ T E a one is vs) K)
def WU:xh (AV×AV)->(xh (Str×AV)->Prop)->Prop
 |[],P=>P []
 |p::ps,P=>rd p.1.str? λk=>WU ps λl=>P ((k,p.2)::l)
def XU:xh (AV×AV)->(xh (Dh×AV)->Prop)->Prop
 |[],P=>P []
 |p::ps,P=>rd p.1.int? λk=>XU ps λl=>P ((k,p.2)::l)
end
structure Pg where
 nm:Mh->Str
 gd:Mh->Str×Jh
 ps:Mh->xh Str
 sc:Mh->Bg
 body:Mh->xh qf
def UL:qf->Str×Arguments×xh qf×Bg
 | .FunctionDef n a b _ _ _ s _ _ _=>(n,a,b,s)
 | .ClassDef n _ _ b _ _ s _ _ _ _=>(n,default,b,s)
 |_=>default
def lB(s:qf):Str:=(UL s).1
def RP(s:qf):xh qf:=(UL s).2.2.1
def mB(s:qf):Arguments:=(UL s).2.1
def WH(s:qf):Bg:=(UL s).2.2.2
def bv(l:xh qf)(n:Mh):qf:=l.getD n default
def top(n:Mh):qf:=bv pw_nz0156_01.main.body n
def ux(i:Mh):qf:=if i<43 then bv (RP (top 6)) i else if i<72 then bv (RP (top 9)) (i-43) else top (i-72+13)
@[irreducible] def BM:Jh:= .tuple [.tuple [.str (S "f"),.int 0,.int 3],.tuple [.str (S "f"),.int 1,.int 4],.tuple [.str (S "f"),.int 3,.int 5],.tuple [.str (S "p"),.int 0,.int 6],.tuple [.str (S "p"),.int 1,.int 7],.tuple [.str (S "p"),.int 3,.int 8]]
@[irreducible] def CO:Jh:= .tuple [.tuple [.int 0,.int 1],.tuple [.int 1,.int 2],.tuple [.int 0,.int 2],.tuple [.int 3,.int 4],.tuple [.int 0,.int 3],.tuple [.int 3,.int 5],.tuple [.int 2,.int 5],.tuple [.int 6,.int 7],.tuple [.int 7,.int 8],.tuple [.int 6,.int 9],.tuple [.int 7,.int 9],.tuple [.int 8,.int 9]]
def pg:Pg:=⟨λi=>lB (ux i),λk=>match k with
 |0=>(S "VALUE_OPS",.tuple [.str (S "num"),.str (S "bvnum"),.str (S "true"),.str (S "false")])
 |1=>(S "BY_ARGUMENTS",.str (S "arguments"))
 |2=>(S "BOOL",.int 0)
 |3=>(S "_law_apps",BM)
 |_=>(S "_law_menu",CO),λi=>(mB (ux i)).args.map (·.arg),λi=>WH (ux i),λi=>RP (ux i)⟩
section
structure w8 where
 W:Wd
 C:Mh
 B:Mh
 fv:Mh->Mh
 cls:∀D,D=C\/D=B->q4 W D/\∀i,i<30->De W.K (.ref D) (an i)=some none
 fc:∀i,i<43->De W.K (.ref C) (pg.nm i)=some (some (.ref (fv i)))
 fb:∀i,43<=i->i<72->De W.K (.ref B) (pg.nm i)=some (some (.ref (fv i)))
 fn:∀i,i<72->isFn W.K (.ref (fv i))=true/\∀j,j<30->an j≠pg.nm i
 z4:∀D,D=C\/D=B->makesIn W.K D=true/\keepIn W.K (.ref D)=true
 lU:pg.nm 0=S "__init__"/\pg.nm 43=S "__init__"/\nsIn W.K xf (S "Congruence")=some (some (.ref C))/\nsIn W.K xf (S "Bank")=some (some (.ref B))
 df:∀i,i<86->∃fd,OM W (fv i) fd (pg.body i) (pg.ps i)/\fd.scope=pg.sc i
 kp:∀i,i<86->keepIn W.K (.ref (fv i))=true
 gl:∀i,72<=i->i<86->nsIn W.K xf (pg.nm i)=some (some (.ref (fv i)))
 no:∀x∈[S "len",S "sorted",S "list",S "tuple",S "zip",S "min",S "max",S "set",S "range",S "int",S "isinstance"],nsIn W.K xf x=some none
 gd:∀k,k<5->∃v,nsIn W.K xf (pg.gd k).1=some (some v)/\∀G:Gh,(∀a o,W.K.lookup a=some o->G.P a=some o)->F9 G (.a9 (pg.gd k).2) v
section
variable(P:w8)
structure nU(τ:Tg)(o:d9):Prop where
 hold:w6 τ o
 cls:∀D as,o= .inst D as->(D=P.C/\τ= .house)\/(D=P.B/\τ= .bank)
 w7:∀κ f,τ= .w7 κ->o= .p9 true f->∀j v,f j=some v->v= .g9 (.ls κ j)
def Inv(σ:Tg->Ah d9):Prop:=∀τ o,σ τ=some o->nU P τ o
def e7(n:Mh)(md:Md)(id:Mh)(as:xh AV)(b:Tg->Ah d9)(a:AV)(b':Tg->Ah d9):Prop:=
 Inv P (A4 [] b)->Fn P.W (λτ=>md.u τ=true) n (.ref (P.fv id)) as (A4 [] b) a (A4 [] b')/\Inv P (A4 [] b')
inductive ox(n id) u as(c:IC)(K:KE):Prop
 |mk m a b' (h:e7 P n m id as c.b a b') (k:ck (bF u m&&(c.ρ.all λp=>VO m p.2)&&sF a) (K a ⟨c.ρ,c.t,b'⟩))
end
def w8.cl(P:w8):Tg->Mh
 | .house=>P.C
 |_=>P.B
def uh(τ:Tg)(id:Mh):Kh:=(decide (τ= .house)&&Nat.beq id 0)||(decide (τ= .bank)&&Nat.beq id 43)
inductive lx(P:w8)(n id:Mh)(τ:Tg)(u:Mo)(as:xh AV)(c:IC)(K:KE):Prop
 |mk (n':Mh) (hn:n=n'+1) (md:Md) (b':Tg->Ah d9) (h:e7 P n' md id (.g9 τ::as) (up c.b τ (.inst (P.cl τ) [])) (.a9 .none) b') (hs:∀τ' o,τ'≠τ->c.b τ'=some o->o.keeps (·≠τ))
  (k:ck (uh τ id&&(nu u τ&&(bF u md&&(md.u τ&&((c.ρ.all λp=>VO md p.2&&nt τ p.2)&&as.all (nt τ)))))) (K (.g9 τ) ⟨c.ρ,c.t,b'⟩))
structure Sm where
 e:Mo->IC->KE->Prop
 l:Mo->IC->KL->Prop
 t:Mo->IC->KT->Prop
 o:Mo->IC->KO->Prop
 c:Mo->IC->KL->Prop
 p:Mo->IC->KP->Prop
 b:Mo->IC->KB->Prop
def Sm.F:Sm:=⟨λz' z' z'=>False,λz' z' z'=>False,λz' z' z'=>False,λz' z' z'=>False,λz' z' z'=>False,λz' z' z'=>False,λz' z' z'=>False⟩
def IG(τ:Tg)(id:Mh):Kh:=(decide (τ= .house)&&decide (id<43))||(decide (τ= .bank)&&(decide (43<=id)&&decide (id<72)))
def L6(o:d9):Kh:=o.in?.isSome
def tw(c:IC)(τ:Tg)(K:IC->Prop)(o:d9):Prop:=w6 τ o/\ck (!L6 o&& !V6 τ) (Ci (SZ τ) (λh=>(∀a,c.σ h=some a->a.keeps (·≠τ))/\put c τ o K) (put c τ o K))
def Sp(c:IC)(y i:Mh)(a:AV)(K:IC->Prop):Prop:=rd (c.ρ.lookup y) λh=>bO c h λτ o=>rd o.in? λp=>ck (hk τ a) (put c τ (.inst p.1 (T9 p.2 i a)) K)
def MM(τ:Tg)(o:d9):Prop:=br (V6 τ) (o= .p9 true λz'=>none) (w6 τ o)
def dq(c:IC)(u:Mo)(y i:Mh)(τ:Tg)(o:d9)(K:IC->Prop):Prop:=rd (c.ρ.lookup y) λh=>bO c h λa b=>rd b.in? λp=>
 ck (nu u τ&&(c.ρ.all (λp=>nt τ p.2)&&(hb a τ&&(!L6 o&&p.2.all λp=>decide (p.1=i)||nt τ p.2)))) (MM τ o/\∃b',up (up c.b τ o) a (.inst p.1 (T9 p.2 i (.g9 τ)))=b'/\K ⟨c.ρ,c.t,b'⟩)
def Rp(c:IC)(u:Mo)(y i j:Mh)(κ:LK)(o:d9)(K:IC->Prop):Prop:=rd (c.ρ.lookup y) λh=>fld c h i λd=>rd (c.ρ.lookup j) λt=>rd t.int? λt=>bO c d λτ a=>rd a.dI? λp=>
 ck (decide (τ= .w7 κ)&&(p.1&&(!L6 o&&(nu u (.ls κ t)&&c.ρ.all λp=>nt (.ls κ t) p.2)))) (w6 (.ls κ t) o/\f7 t=true/\∃b',up (up c.b (.ls κ t) o) (.w7 κ) (.p9 true (f9 p.2 t (.g9 (.ls κ t))))=b'/\K ⟨c.ρ,c.t,b'⟩)
def ow(c:IC)(u:Mo)(y:Mh)(x:Str)(τ:Tg)(o:d9)(K:IC->Prop):Prop:=rd (c.ρ.lookup y) λh=>bO c h λa b=>rd b.dS? λf=>
 ck (nu u τ&&(c.ρ.all (λp=>nt τ p.2)&&(hb a τ&&(!L6 o&&(!V6 τ&&decide (x∈SK)))))) (w6 τ o/\(∀j v,j≠x->f j=some v->v.keeps (·≠τ))/\∃b',up (up c.b τ o) a (.s8 (f9 f x (.g9 τ)))=b'/\K ⟨c.ρ,c.t,b'⟩)
def zp(ds es:xh Jh)(P:Jh->Prop):Prop:=match ds,es with
 |[x],[y]=>P (.list [.tuple [x,y]])
 |_,_=>False
def O2.qI:O2->Kh
 | .add=>true
 |_=>false
def UT(ns:xh Dh):Prop:=ns.Pairwise (·<·)/\∀x∈ns,x∈[-7,-5,-3,2,4,6]
def U4(L:xh (xh Dh)):xh (xh Dh):=L.mergeSort λx y=>decide (x.headD 0<=y.headD 0)
def NI(L:xh (xh Dh)):Prop:=(∀l∈L,l≠[])/\(L.map (·.headD 0)).Nodup
def sQ(L:xh (xh Dh)):xh Jh:=L.map λl=> .tuple (zs l)
def qw(c:IC)(a:AV)(P:Jh->Prop):Prop:=WM c a λds=>∃L,ds=sQ L/\L.length<64/\NI L/\P (.list (sQ (U4 L)))
def ao(c:IC)(i:Mh)(K:IC->Prop):Prop:=rd (c.ρ.lookup i) λa=>FK c a λτ w vs=>rd τ.ti λj=>∃ds,vs=ds.map .a9/\ck w (K ⟨T9 c.ρ i (.a9 (.list ds)),c.t.filter λp=> !decide (p.1=j),c.b⟩)
inductive O5(u:Mo) c(K:Mo->IC->(IC->(IC->Prop)->Prop)->Prop):Prop
 |mk τ (o o') (e:c.σ τ=some o) (z:Fz o o') (h:put c τ o' λc1=>K (u.1,τ::u.2) c1 λa k=>a.σ τ=some o'/\put a τ o k)
def Yp(l:xh (Str×AV)):Kh:=l.all λp=>decide (p.1∈SK)
def Zp(l:xh (Dh×AV)):Kh:=l.all λp=>f7 p.1
section
variable{α:Type}(P:w8)(n:Mh)(mp mq mr ms:Sm)(u:Mo)(c c0:IC)(K:KE)(KT':KT)(KL':KL)(KO':KO)(KP':KP)(KB':KB)
abbrev kA(K:α->IC->Prop)(a:α):Prop:=K a c
abbrev kD(d:Jh):Prop:=K (.a9 d) c
abbrev kC(Q:Prop)(_:α):Prop:=Q
abbrev kB(c:IC):Prop:=mq.b u c KB'
abbrev Yt(i:Mh):KE:=λa c1=>fld c1 a i (kA c1 K)
abbrev oz(i:Dh):Prop:=K (.a9 (.int (-i))) c
abbrev xt:KE:=λa c1=>rd a.int? (oz c1 K)
abbrev UA(ds:xh Jh):Prop:=K (.a9 (.tuple ds)) c
abbrev rz(ds:xh Jh):Prop:=K (.a9 (.list ds)) c
abbrev Ju:KL:=λvs c1=>ck (qd vs.length 100) (SV vs (UA c1 K))
abbrev Bt:KL:=λvs c1=>ck (qd vs.length 100) (SV vs (rz c1 K))
abbrev Ct:KL:=λvs c1=>ck (qd vs.length 100) (KO' (.list true vs) c1)
abbrev Vt(f:BF):KL:=λvs c1=>Ky f c1 vs (kA c1 K)
abbrev Ht:KE:=λa c1=>gI c1 a (kC (K (.a9 (.bool true)) c1))
abbrev Uu:KE:=λa c1=>qw c1 a (kD c1 K)
abbrev YA(ns:xh Dh):Prop:=UT ns/\K (.a9 (.list (zs ns))) c
abbrev Vu:KE:=λa c1=>Gv c1 a (YA c1 K)
abbrev vt(τ:Tg)(id:Mh):KL:=λvs c1=>lx P n id τ u vs c1 K
abbrev Jk(id:Mh):KL:=λvs c1=>ox P n id u vs c1 K
abbrev qt(τ:Tg):KO:=λo c1=>ck (nu u τ&&c1.ρ.all λp=>nt τ p.2) (tw c1 τ (K (.g9 τ)) o)
abbrev Cu(l:xh (Str×AV)):Prop:=ck (qd l.length 15&&Yp l) (KO' (.s8 (Y8 (λz'=>none) l)) c)
abbrev gk:KP:=λps c1=>WU ps (Cu c1 KO')
abbrev Du(l:xh (Dh×AV)):Prop:=ck (qd l.length 15) (Zp l=true/\KO' (.p9 true (Y8 (λz'=>none) l)) c)
abbrev ik:KP:=λps c1=>XU ps (Du c1 KO')
abbrev kW(W:IC->(IC->Prop)->Prop)(K:α->IC->Prop)(a:α)(c:IC):Prop:=W c (K a)
abbrev Hk(u:Mo)(c1:IC)(W:IC->(IC->Prop)->Prop):Prop:=mp.e u c1 (kW W K)
abbrev Jt(u:Mo)(c1:IC)(W:IC->(IC->Prop)->Prop):Prop:=mp.o u c1 (kW W KO')
abbrev Iu:KE:=λa c1=>rd a.bool? (kA c1 KT')
abbrev ut:KT:=λb c1=>KT' (!b) c1
abbrev et:KE:=λa c1=>KB' (.ret a) c1
abbrev VA(a:AV):KE:=λb c=>Zi c a b (kA c K)
abbrev Ku:KE:=λa c1=>mq.e (hold a u) c1 (VA K a)
abbrev Ez(op:O2)(a:AV):KE:=λb c=>dp op c a b (kD c K)
abbrev Xt(op:O2):KE:=λa c1=>mq.e (hold a u) c1 (Ez K op a)
abbrev Bz(vs ws:xh AV):Prop:=(vs++ws).length<=1000000/\KO' (.list true (vs++ws)) c
abbrev Cz(b:AV)(vs:xh AV):Prop:=gI c b (Bz c KO' vs)
abbrev Dz(op:O2)(a:AV):KE:=λb c=>ck op.qI (gI c a (Cz c KO' b))
abbrev Wt(op:O2):KE:=λa c1=>mq.e (hold a u) c1 (Dz KO' op a)
abbrev Uk(t:Kh):Prop:=K (.a9 (.bool t)) c
abbrev Az(op:C2)(a:AV):KE:=λb c=>kr op c a b (Uk c K)
abbrev Ut(op:C2):KE:=λa c1=>mq.e (hold a u) c1 (Az K op a)
abbrev yz(op:C2)(a:AV):KE:=λb c=>kr op c a b (kA c KT')
abbrev Tt(op:C2):KE:=λa c1=>mq.e (hold a u) c1 (yz KT' op a)
abbrev Gz(a:AV)(b:Kh):Prop:=br b (mq.e u c K) (K a c)
abbrev js:KE:=λa c1=>rd a.bool? (Gz mq u c1 K a)
abbrev uF(a:AV):KL:=λas c=>KL' (a::as) c
abbrev xz:KE:=λa c1=>mq.l (hold a u) c1 (uF KL' a)
abbrev QA(ds es:xh Jh):Prop:=zp ds es (kD c K)
abbrev SA(b:AV)(ds:xh Jh):Prop:=rd b.tup? (QA c K ds)
abbrev TA(a:AV):KE:=λb c=>rd a.tup? (SA c K b)
abbrev Gu:KE:=λa c1=>mq.e (hold a u) c1 (TA K a)
abbrev Ru(y:Mh)(x:Str)(τ:Tg):KO:=λo c1=>ow c1 u y x τ o (kB mq u KB')
abbrev pz(id:Mh)(a:AV)(vs:xh AV)(τ:Tg)(o:d9):Prop:=ck (L6 o&&IG τ id) (ox P n id u (a::vs) c K)
abbrev qz(id:Mh)(a:AV)(c1:IC):KL:=λvs c=>bO c1 a (pz P n u c K id a vs)
abbrev yt(id:Mh):KE:=λa c1=>mq.l (hold a u) c1 (qz P n u K id a c1)
abbrev Et(f:LM)(a:AV)(c1:IC):KL:=λvs c=>Hv f c1 c a vs K
abbrev Dk(f:LM):KE:=λa c1=>mq.l (hold a u) c1 (Et K f a c1)
abbrev oI(ds es:xh Jh):Prop:=ds.length<=1000000/\K (.a9 (.list es)) c
abbrev ZA(k:Dh)(ds:xh Jh):Prop:=rd (u3 none (some k) none ds) (oI c K ds)
abbrev az(a:AV)(k:Dh):Prop:=tq c a (ZA c K k)
abbrev bz(a:AV):KE:=λb c=>rd b.int? (az c K a)
abbrev Wu:KE:=λa c1=>mq.e (hold a u) c1 (bz K a)
abbrev gz(vs ws:xh AV):Prop:=vs.length<=1000000/\KO' (.list true ws) c
abbrev iz(k:Dh)(vs:xh AV):Prop:=rd (u3 none (some k) none vs) (gz c KO' vs)
abbrev jz(a:AV)(k:Dh):Prop:=gI c a (iz c KO' k)
abbrev mz(a:AV):KE:=λb c=>rd b.int? (jz c KO' a)
abbrev Yu:KE:=λa c1=>mq.e (hold a u) c1 (mz KO' a)
abbrev cz(k:Dh)(ds:xh Jh):Prop:=rd (u3 none none (some k) ds) (oI c K ds)
abbrev dz(a:AV)(k:Dh):Prop:=WM c a (cz c K k)
abbrev ez(a:AV):KE:=λb c=>rd b.int? (dz c K a)
abbrev Xu:KE:=λa c1=>mq.e (hold a u) c1 (ez K a)
abbrev Zt:KT:=λb c1=>br b (mq.t u c1 KT') (KT' false c1)
abbrev Ak:KT:=λb c1=>br b (KT' true c1) (mq.t u c1 KT')
abbrev Nk:KE:=λz' c1=>mq.b u c1 KB'
abbrev dt(i:Mh):KE:=λa c1=>mq.b u (c1.set i a) KB'
abbrev Mu(is:xh Mh):KE:=λa c1=>N5 false is a c1 (kB mq u KB')
abbrev Nu(is:xh Mh):KL:=λvs c1=>fQ is.reverse vs.reverse c1 (kB mq u KB')
abbrev Pu(is:xh Mh):KL:=λvs c1=>ck (qd vs.length 100) (fQ is vs c1 (kB mq u KB'))
abbrev XA(i:Mh)(ds:xh Jh):Prop:=mq.b u (c.set i (.a9 (.list ds))) KB'
abbrev Su(i:Mh):KL:=λws c1=>SV ws (XA mq u c1 KB' i)
abbrev WA(i:Mh)(τ:Tg)(c:IC):Prop:=mq.b u (c.set i (.g9 τ)) KB'
abbrev Lu(i:Mh)(τ:Tg):KL:=λws c1=>ck (nu (D8 c0.ρ u) τ&&c1.ρ.all λp=>nt τ p.2) (tw c1 τ (WA mq u KB' i τ) (.list true ws))
abbrev Tu(y i:Mh):KE:=λa c1=>Sp c1 y i a (kB mq u KB')
abbrev Ou(y i:Mh)(τ:Tg):KO:=λo c1=>dq c1 u y i τ o (kB mq u KB')
abbrev Qu(y i j:Mh)(κ:LK):KO:=λo c1=>Rp c1 u y i j κ o (kB mq u KB')
abbrev Ft:KT:=λb c1=>br b (mq.e u c1 K) (mr.e u c1 K)
abbrev jt(a b:AV):KP:=λps c=>KP' ((a,b)::ps) c
abbrev ot(a:AV):KE:=λb c=>mr.p (hold b (hold a u)) c (jt KP' a b)
abbrev uk:KE:=λa c1=>mq.e (hold a u) c1 (ot mr u KP' a)
abbrev Qt(is:xh Mh)(one:Kh)(fv:xh Mh)(c1:IC)(vs:xh AV):Prop:=vs.length<=1000000/\fJ (mr.t (D8 c0.ρ u)) (mp.e (D8 c0.ρ u)) (I5 fv c0.ρ) one is vs c1 KL'
abbrev Rt(is:xh Mh)(one:Kh)(fv:xh Mh):KE:=λa c1=>CD c1 (D8 c0.ρ u) a (Qt mp mr u c0 KL' is one fv c1)
abbrev wz(c:IC)(ds:xh Jh):Prop:=K (.a9 (.list ds)) ⟨c0.ρ,c.t,c.b⟩
abbrev Ot:KL:=λws c=>SV ws (wz c0 K c)
abbrev Nt:KL:=λws c=>KO' (.list true ws) ⟨c0.ρ,c.t,c.b⟩
abbrev Pt:KL:=λws c=>KL' ws ⟨c0.ρ,c.t,c.b⟩
abbrev vz(a:AV):KE:=λb c=>iq c a b (kB mr u KB')
abbrev Kt:KE:=λa c1=>mq.e (hold a u) c1 (vz mr u KB' a)
abbrev uz(is:xh Mh)(one:Kh)(k:xh Mh)(c1:IC)(vs:xh AV):Prop:=lp (mq.b u) (N5 one is) (IC.keep k) KB' vs c1
abbrev rh(is:xh Mh)(one:Kh)(k:xh Mh):KE:=λa c1=>CD c1 u a (uz mq u KB' is one k c1)
def NF(is:xh Mh)(one:Kh)(i body:Sm)(k:xh Mh)(c:IC)(K:KB):Prop:=i.e u c (rh body u K is one k)
abbrev Ik(is:xh Mh)(one:Kh)(k:xh Mh)(a:Mo)(c1:IC)(W:IC->(IC->Prop)->Prop):Prop:=NF a is one mp mq k c1 (kW W (zW (kB mr u KB') KB'))
abbrev Kk(i:Mh)(k:xh Mh):KL:=λvs c1=>ck (qd vs.length 100) (lp (mq.b (vs.foldr hold u)) (N5 true [i]) (IC.keep k) (zW (kB mr u KB') KB') vs c1)
abbrev Zu(a b:AV):KE:=λr c=>gq c b r a (kB ms u KB')
abbrev bt(a:AV):KE:=λb c=>mr.e (hold b (hold a u)) c (Zu ms u KB' a b)
abbrev rk:KE:=λa c1=>mq.e (hold a u) c1 (bt mr ms u KB' a)
abbrev Ek:KT:=λb c1=>br b (mq.b u c1 (zW (kB ms u KB') KB')) (mr.b u c1 (zW (kB ms u KB') KB'))
end
def Aw(P:w8)(n:Mh)(k:K0):Sm:=match k with
 | .var i=>{Sm.F with e:=λu c K=>rd (c.ρ.lookup i) (kA c K)}
 | .con d=>{Sm.F with e:=λu c K=>K (.a9 d) c}
 | .tI k=>{Sm.F with e:=λu c K=>K (.a9 (pg.gd k).2) c}
 | .nil=>{Sm.F with
   l:=λu c K=>K [] c
   t:=λu c K=>K true c
   p:=λu c K=>K [] c
   b:=λu c K=>K .next c}
 | .dI=>{Sm.F with o:=λu c K=>K (.p9 true λz'=>none) c}
 | .dL=>{Sm.F with o:=λu c K=>K (.M9 true []) c}
 | .dT=>{Sm.F with o:=λu c K=>K (.W9 λz'=>none) c}
 | .X0=>{Sm.F with b:=λu c K=>K (.ret (.a9 .none)) c}
 | .bad=>Sm.F
def yw(P:w8)(n:Mh)(k:K1)(m:Sm):Sm:=match k with
 | .D6 i=>{Sm.F with e:=λu c K=>m.e u c (Yt K i)}
 | .neg=>{Sm.F with e:=λu c K=>m.e u c (xt K)}
 | .one=>{Sm.F with e:=m.e}
 | .tup=>{Sm.F with e:=λu c K=>m.l u c (Ju K)}
 | .lst=>{Sm.F with
   e:=λu c K=>m.l u c (Bt K)
   o:=λu c K=>m.l u c (Ct K)}
 | .blt f=>{Sm.F with e:=λu c K=>m.l u c (Vt K f)}
 | .CF=>{Sm.F with e:=λu c K=>m.e u c (Ht K)}
 | .VQ=>{Sm.F with e:=λu c K=>m.e u c (Uu K)}
 | .xH=>{Sm.F with e:=λu c K=>m.e u c (Vu K)}
 | .new τ id=>{Sm.F with e:=λu c K=>m.l u c (vt P n u K τ id)}
 | .fn id=>{Sm.F with e:=λu c K=>m.l u c (Jk P n u K id)}
 | .own τ=>{Sm.F with e:=λu c K=>m.o u c (qt u K τ)}
 | .dS=>{Sm.F with o:=λu c K=>m.p u c (gk K)}
 | .dN=>{Sm.F with o:=λu c K=>m.p u c (ik K)}
 | .fz=>{Sm.F with
   e:=λu c K=>O5 u c (Hk m K)
   o:=λu c K=>O5 u c (Jt m K)}
 | .val=>{Sm.F with t:=λu c K=>m.e u c (Iu K)}
 | .not=>{Sm.F with t:=λu c K=>m.t u c (ut K)}
 | .ret=>{Sm.F with b:=λu c K=>m.e u c (et K)}
 | .rel i=>{Sm.F with b:=λu c K=>ao c i (kB m u K)}
def xw(P:w8)(n:Mh)(k:K2)(a m:Sm):Sm:=match k with
 | .sub=>{Sm.F with e:=λu c K=>a.e u c (Ku m u K)}
 | .bin op=>{Sm.F with
   e:=λu c K=>a.e u c (Xt m u K op)
   o:=λu c K=>a.e u c (Wt m u K op)}
 | .cmp op=>{Sm.F with
   e:=λu c K=>a.e u c (Ut m u K op)
   t:=λu c K=>a.e u c (Tt m u K op)}
 | .uW=>{Sm.F with e:=λu c K=>a.e u c (js m u K)}
 | .cons=>{Sm.F with l:=λu c K=>a.e u c (xz m u K)}
 | .zip=>{Sm.F with e:=λu c K=>a.e u c (Gu m u K)}
 | .W0 y x τ=>{Sm.F with b:=λu c K=>a.o u c (Ru m u K y x τ)}
 | .met id=>{Sm.F with e:=λu c K=>a.e u c (yt P n m u K id)}
 | .lm f=>{Sm.F with e:=λu c K=>a.e u c (Dk m u K f)}
 | .iU=>{Sm.F with
   e:=λu c K=>a.e u c (Wu m u K)
   o:=λu c K=>a.e u c (Yu m u K)}
 | .TM=>{Sm.F with e:=λu c K=>a.e u c (Xu m u K)}
 | .and=>{Sm.F with t:=λu c K=>a.t u c (Zt m u K)}
 | .or=>{Sm.F with t:=λu c K=>a.t u c (Ak m u K)}
 | .ex=>{Sm.F with b:=λu c K=>a.e u c (Nk m u K)}
 | .set i=>{Sm.F with b:=λu c K=>a.e u c (dt m u K i)}
 | .g6 is=>{Sm.F with b:=λu c K=>a.e u c (Mu m u K is)}
 | .VW is=>{Sm.F with b:=λu c K=>a.l u c (Nu m u K is)}
 | .XW is=>{Sm.F with b:=λu c K=>a.l u c (Pu m u K is)}
 | .wY i=>{Sm.F with b:=λu c K=>a.c u c (Su m u K i)}
 | .vY i τ=>{Sm.F with b:=λu c K=>a.c u c (Lu m u c K i τ)}
 | .M4 y i=>{Sm.F with b:=λu c K=>a.e u c (Tu m u K y i)}
 | .WW y i τ=>{Sm.F with b:=λu c K=>a.o u c (Ou m u K y i τ)}
 | .R3 y i j κ=>{Sm.F with b:=λu c K=>a.o u c (Qu m u K y i j κ)}
def ww(P:w8)(n:Mh)(k:K3)(j m g:Sm):Sm:=match k with
 | .ite=>{Sm.F with e:=λu c K=>j.t u c (Ft m g u K)}
 | .pr=>{Sm.F with p:=λu c K=>j.e u c (uk m g u K)}
 | .comp is one fv=>{Sm.F with
   e:=λu c K=>m.e (D8 c.ρ u) c (Rt j g u c (Ot c K) is one fv)
   o:=λu c K=>m.e (D8 c.ρ u) c (Rt j g u c (Nt c K) is one fv)
   c:=λu c K=>m.e (D8 c.ρ u) c (Rt j g u c (Pt c K) is one fv)}
 | .cY is one fv=>{Sm.F with o:=λu c K=>g.e (D8 c.ρ u) c λa c1=>CD c1 (D8 c.ρ u) a λvs=>vs.length<=1000000/\fJ (λc K=>K true c) (λc' K=>j.e (D8 c.ρ u) c' λa c1=>m.e (hold a (D8 c.ρ u)) c1 λb l=>rd a.int? λi=>rd b.dat? λd=>K (.a9 (.tuple [.int i,d])) l) (I5 fv c.ρ) one is vs c1 λws l=>∃ps,ws=ps.map uD/\K (.M9 true (dJ ps)) ⟨c.ρ,l.t,l.b⟩}
 | .del=>{Sm.F with b:=λu c K=>j.e u c (Kt m g u K)}
 | .UZ false is one f=>{Sm.F with b:=λu c K=>NF u is one j m f c (zW (kB g u K) K)}
 | .UZ true is one f=>{Sm.F with b:=λu c K=>O5 u c (Ik j m g u K is one f)}
 | .GV i f=>{Sm.F with b:=λu c K=>j.l u c (Kk m g u K i f)}
 | .vU f=>{Sm.F with b:=λu c K=>∃N,wh (j.t u) (m.b u) (IC.keep f) (zW (kB g u K) K) N c}
def vw(P:w8)(n:Mh)(k:K4)(m a d ms:Sm):Sm:=match k with
 | .M1=>{Sm.F with b:=λu c K=>m.e u c (rk a d ms u K)}
 | .ifs=>{Sm.F with b:=λu c K=>m.t u c (Ek a d ms u K)}
def Xp(P:w8)(n:Mh)(k:K1)(_:M)(p:Sm):Sm:=yw P n k p
def Wp(P:w8)(n:Mh)(k:K2)(_ _:M)(p q:Sm):Sm:=xw P n k p q
def Vp(P:w8)(n:Mh)(k:K3)(_ _ _:M)(p q r:Sm):Sm:=ww P n k p q r
def Tp(P:w8)(n:Mh)(k:K4)(_ _ _ _:M)(p q r s:Sm):Sm:=vw P n k p q r s
def A9(P:w8)(n:Mh)(m:M):Sm:=M.rec (Aw P n) (Xp P n) (Wp P n) (Vp P n) (Tp P n) m
end
def Zk:xh Mh:=[65,72,79,86,93,100,107,114,121,128,133,138,143,150,157,164,171,178,185,192,199,206,213,220,227,234,241,248,255,262,267,274,281,288,295,302,309,316,321,328,335,342,349,
 370,377,384,391,398,405,412,419,426,433,440,447,454,461,468,475,482,489,496,503,510,517,524,531,538,545,552,559,566,600,605,610,615,622,627,634,639,646,653,658,663,670,675]
def ZQ(i:Mh):Mh:=Zk.getD i 0
def Lx(o:He):ja:=match o.data with
 | .func fd=>fd
 |_=>default
def Ax(K:Frag)(f:Mh):He:=(K.lookup f).getD default
def MG(i:Mh)(x:ja):ja:={x with body:= .stmts (pg.body i),scope:=pg.sc i,globals:=xf,closure:=[],builtins:=builtinsNs}
def On(o:He)(i:Mh):He:=⟨o.cls,o.dict,.func (MG i (Lx o)),o.slots⟩
def Br(K:Frag)(i:Mh)(x:ja):Kh:=codeIn K x.code x.qualname&&(((pg.ps i).all λp=>X7 ((pg.sc i).names.lookup p))&&(decide (pg.ps i).Nodup&&(decide ((sa 0 (pg.sc i).names []).map (·.1)).Nodup&&(!(pg.sc i).isCoroutine&&(!(pg.sc i).isGenerator&&(decide ((pg.sc i).kind= .function)&&keepIn K (.ref (ZQ i))))))))
def Ar(K:Frag)(i:Mh):Kh:=isFn K (.ref (ZQ i))&&(ug 30).all λj=> !decide (an j=pg.nm i)
def jh(v:Mh->Nh)(n:Mh):xh Nh:=(ug n).map v
def PA(K:Frag)(D:Mh):xh (Ah (Ah Nh)):=De K (.ref D) "__getattribute__"::De K (.ref D) "__getattr__"::De K (.ref D) "__setattr__"::(ug 30).map λi=>De K (.ref D) (an i)
def Fu(K:Frag)(D:Mh):Kh:=hasDictIn K D&&(plainOver K D&&(makesIn K D&&keepIn K (.ref D)))
def OA:xh (Ah (Ah Nh)):=some (some (.builtin "object.__getattribute__"))::some none::some (some (.builtin "object.__setattr__"))::List.replicate 30 (some none)
def fp:xh Str:=[S "len",S "sorted",S "list",S "tuple",S "zip",S "min",S "max",S "set",S "range",S "int",S "isinstance"]
def Yk:xh Nh:=[.ref 51,.str (S "arguments") 241,.int 0 706,.ref 580,.ref 593]
def mD:xh (Mh×gf Nh):=[(51,#[.str (S "num") 236,.str (S "bvnum") 237,.str (S "true") 238,.str (S "false") 239]),(580,#[.ref 574,.ref 575,.ref 576,.ref 577,.ref 578,.ref 579]),(593,#[.ref 581,.ref 582,.ref 583,.ref 584,.ref 585,.ref 586,.ref 587,.ref 588,.ref 589,.ref 590,.ref 591,.ref 592]),(574,#[.str (S "f") 987,.int 0 988,.int 3 989]),(575,#[.str (S "f") 990,.int 1 991,.int 4 992]),(576,#[.str (S "f") 993,.int 3 994,.int 5 995]),(577,#[.str (S "p") 996,.int 0 997,.int 6 998]),(578,#[.str (S "p") 999,.int 1 1000,.int 7 1001]),(579,#[.str (S "p") 1002,.int 3 1003,.int 8 1004]),(581,#[.int 0 1006,.int 1 1007]),(582,#[.int 1 1008,.int 2 1009]),(583,#[.int 0 1010,.int 2 1011]),(584,#[.int 3 1012,.int 4 1013]),(585,#[.int 0 1014,.int 3 1015]),(586,#[.int 3 1016,.int 5 1017]),(587,#[.int 2 1018,.int 5 1019]),(588,#[.int 6 1020,.int 7 1021]),(589,#[.int 7 1022,.int 8 1023]),(590,#[.int 6 1024,.int 9 1025]),(591,#[.int 7 1026,.int 9 1027]),(592,#[.int 8 1028,.int 9 1029])]
structure KF(K:Frag):Prop where
 a:(ug 86).map (λi=>K.lookup (ZQ i))=(ug 86).map λi=>some (On (Ax K (ZQ i)) i)
 b:(ug 86).map (λi (v:Mh->Nh)=>bindArgs (MG i (Lx (Ax K (ZQ i)))) ⟨jh v (pg.ps i).length,[]⟩)=(ug 86).map λi v=>pure ((pg.ps i).zip (jh v (pg.ps i).length))
 c:((ug 86).all λi=>Br K i (Lx (Ax K (ZQ i))))=true
 f:((ug 72).all (Ar K)&&(Fu K 352&&Fu K 569))=true
 d:PA K 352++PA K 569=OA++OA
 e:(ug 72).map (λi=>De K (.ref (if i<43 then 352 else 569)) (pg.nm i))=(ug 72).map λi=>some (some (.ref (ZQ i)))
 g:(ug 14).map (λi=>nsIn K xf (pg.nm (i+72)))=(ug 14).map λi=>some (some (.ref (ZQ (i+72))))
 h:(fp.map (nsIn K xf))=fp.map λz'=>some none
 i:(ug 5).map (λk=>nsIn K xf (pg.gd k).1)=Yk.map λv=>some (some v)
 j:[nsIn K xf (S "Congruence"),nsIn K xf (S "Bank")]=[some (some (.ref 352)),some (some (.ref 569))]
 t:mD.map (λp=>K.lookup p.1)=mD.map λp=>some (r7 p.2 0)
def TJ(e:Expr):Kh:=swappedStores.match_5 (λx=>Kh) e (λv pos=>true) λx=>false
theorem ff{P:Prop}(h:false=true):P:=absurd h wg
def M3(f:BoolOp->xh Expr->Cf->Kh)(e:Expr):Kh:=by apply @Expr.casesOn (λz'=>Kh) e;(case BoolOp=>exact f);all_goals (intros;exact false)
@[elab_as_elim] theorem k5{f:BoolOp->xh Expr->Cf->Kh}{e:Expr}{Q:Expr->Prop}(h:M3 f e=true)(k:∀x a b,f x a b=true->Q (.BoolOp x a b)):Q e:=by revert h;apply @Expr.casesOn (λe=>M3 f e=true->Q e) e;(case BoolOp=>exact k);all_goals (intros;exact ff (by assumption))
def FU(f:Expr->Operator->Expr->Cf->Kh)(e:Expr):Kh:=by apply @Expr.casesOn (λz'=>Kh) e;(case BinOp=>exact f);all_goals (intros;exact false)
@[elab_as_elim] theorem aQ{f:Expr->Operator->Expr->Cf->Kh}{e:Expr}{Q:Expr->Prop}(h:FU f e=true)(k:∀x b c a,f x b c a=true->Q (.BinOp x b c a)):Q e:=by revert h;apply @Expr.casesOn (λe=>FU f e=true->Q e) e;(case BinOp=>exact k);all_goals (intros;exact ff (by assumption))
def H3(f:UnaryOp->Expr->Cf->Kh)(e:Expr):Kh:=by apply @Expr.casesOn (λz'=>Kh) e;(case UnaryOp=>exact f);all_goals (intros;exact false)
@[elab_as_elim] theorem s0{f:UnaryOp->Expr->Cf->Kh}{e:Expr}{Q:Expr->Prop}(h:H3 f e=true)(k:∀x a b,f x a b=true->Q (.UnaryOp x a b)):Q e:=by revert h;apply @Expr.casesOn (λe=>H3 f e=true->Q e) e;(case UnaryOp=>exact k);all_goals (intros;exact ff (by assumption))
def EU(f:Expr->Expr->Expr->Cf->Kh)(e:Expr):Kh:=by apply @Expr.casesOn (λz'=>Kh) e;(case IfExp=>exact f);all_goals (intros;exact false)
@[elab_as_elim] theorem EY{f:Expr->Expr->Expr->Cf->Kh}{e:Expr}{Q:Expr->Prop}(h:EU f e=true)(k:∀x b c a,f x b c a=true->Q (.IfExp x b c a)):Q e:=by revert h;apply @Expr.casesOn (λe=>EU f e=true->Q e) e;(case IfExp=>exact k);all_goals (intros;exact ff (by assumption))
def aS(f:xh (Ah Expr)->xh Expr->Cf->Kh)(e:Expr):Kh:=by apply @Expr.casesOn (λz'=>Kh) e;(case Dict=>exact f);all_goals (intros;exact false)
@[elab_as_elim] theorem HW{f:xh (Ah Expr)->xh Expr->Cf->Kh}{e:Expr}{Q:Expr->Prop}(h:aS f e=true)(k:∀x a b,f x a b=true->Q (.Dict x a b)):Q e:=by revert h;apply @Expr.casesOn (λe=>aS f e=true->Q e) e;(case Dict=>exact k);all_goals (intros;exact ff (by assumption))
def s4(f:Expr->xh Pd->Bg->Cf->Kh)(e:Expr):Kh:=by apply @Expr.casesOn (λz'=>Kh) e;(case ListComp=>exact f);all_goals (intros;exact false)
@[elab_as_elim] theorem j5{f:Expr->xh Pd->Bg->Cf->Kh}{e:Expr}{Q:Expr->Prop}(h:s4 f e=true)(k:∀x b c a,f x b c a=true->Q (.ListComp x b c a)):Q e:=by revert h;apply @Expr.casesOn (λe=>s4 f e=true->Q e) e;(case ListComp=>exact k);all_goals (intros;exact ff (by assumption))
def uZ(f:Expr->xh CmpOp->xh Expr->Cf->Kh)(e:Expr):Kh:=by apply @Expr.casesOn (λz'=>Kh) e;(case Compare=>exact f);all_goals (intros;exact false)
@[elab_as_elim] theorem IW{f:Expr->xh CmpOp->xh Expr->Cf->Kh}{e:Expr}{Q:Expr->Prop}(h:uZ f e=true)(k:∀x b c a,f x b c a=true->Q (.Compare x b c a)):Q e:=by revert h;apply @Expr.casesOn (λe=>uZ f e=true->Q e) e;(case Compare=>exact k);all_goals (intros;exact ff (by assumption))
def KW(f:Expr->xh Expr->xh Keyword->Cf->Kh)(e:Expr):Kh:=by apply @Expr.casesOn (λz'=>Kh) e;(case Call=>exact f);all_goals (intros;exact false)
@[elab_as_elim] theorem JW{f:Expr->xh Expr->xh Keyword->Cf->Kh}{e:Expr}{Q:Expr->Prop}(h:KW f e=true)(k:∀x b c a,f x b c a=true->Q (.Call x b c a)):Q e:=by revert h;apply @Expr.casesOn (λe=>KW f e=true->Q e) e;(case Call=>exact k);all_goals (intros;exact ff (by assumption))
def P6(f:Const->Mh->Cf->Kh)(e:Expr):Kh:=by apply @Expr.casesOn (λz'=>Kh) e;(case Constant=>exact f);all_goals (intros;exact false)
@[elab_as_elim] theorem I3{f:Const->Mh->Cf->Kh}{e:Expr}{Q:Expr->Prop}(h:P6 f e=true)(k:∀x a b,f x a b=true->Q (.Constant x a b)):Q e:=by revert h;apply @Expr.casesOn (λe=>P6 f e=true->Q e) e;(case Constant=>exact k);all_goals (intros;exact ff (by assumption))
def c6(f:Expr->Str->Cf->Kh)(e:Expr):Kh:=by apply @Expr.casesOn (λz'=>Kh) e;(case Attribute=>exact f);all_goals (intros;exact false)
@[elab_as_elim] theorem G6{f:Expr->Str->Cf->Kh}{e:Expr}{Q:Expr->Prop}(h:c6 f e=true)(k:∀x a b,f x a b=true->Q (.Attribute x a b)):Q e:=by revert h;apply @Expr.casesOn (λe=>c6 f e=true->Q e) e;(case Attribute=>exact k);all_goals (intros;exact ff (by assumption))
def b8(f:Expr->Expr->Cf->Kh)(e:Expr):Kh:=by apply @Expr.casesOn (λz'=>Kh) e;(case Subscript=>exact f);all_goals (intros;exact false)
@[elab_as_elim] theorem z8{f:Expr->Expr->Cf->Kh}{e:Expr}{Q:Expr->Prop}(h:b8 f e=true)(k:∀x a b,f x a b=true->Q (.Subscript x a b)):Q e:=by revert h;apply @Expr.casesOn (λe=>b8 f e=true->Q e) e;(case Subscript=>exact k);all_goals (intros;exact ff (by assumption))
def O6(f:Str->Cf->Kh)(e:Expr):Kh:=by apply @Expr.casesOn (λz'=>Kh) e;(case Name=>exact f);all_goals (intros;exact false)
@[elab_as_elim] theorem b6{f:Str->Cf->Kh}{e:Expr}{Q:Expr->Prop}(h:O6 f e=true)(k:∀x a,f x a=true->Q (.Name x a)):Q e:=by revert h;apply @Expr.casesOn (λe=>O6 f e=true->Q e) e;(case Name=>exact k);all_goals (intros;exact ff (by assumption))
def ZT(f:xh Expr->Cf->Kh)(e:Expr):Kh:=by apply @Expr.casesOn (λz'=>Kh) e;(case List=>exact f);all_goals (intros;exact false)
@[elab_as_elim] theorem GW{f:xh Expr->Cf->Kh}{e:Expr}{Q:Expr->Prop}(h:ZT f e=true)(k:∀x a,f x a=true->Q (.List x a)):Q e:=by revert h;apply @Expr.casesOn (λe=>ZT f e=true->Q e) e;(case List=>exact k);all_goals (intros;exact ff (by assumption))
def U5(f:xh Expr->Mh->Cf->Kh)(e:Expr):Kh:=by apply @Expr.casesOn (λz'=>Kh) e;(case Tuple=>exact f);all_goals (intros;exact false)
@[elab_as_elim] theorem E7{f:xh Expr->Mh->Cf->Kh}{e:Expr}{Q:Expr->Prop}(h:U5 f e=true)(k:∀x a b,f x a b=true->Q (.Tuple x a b)):Q e:=by revert h;apply @Expr.casesOn (λe=>U5 f e=true->Q e) e;(case Tuple=>exact k);all_goals (intros;exact ff (by assumption))
def y1(f:Expr->Expr->xh Pd->Bg->Cf->Kh)(e:Expr):Kh:=by apply @Expr.casesOn (λz'=>Kh) e;(case DictComp=>exact f);all_goals (intros;exact false)
@[elab_as_elim] theorem kX{f:Expr->Expr->xh Pd->Bg->Cf->Kh}{e:Expr}{Q:Expr->Prop}(h:y1 f e=true)(k:∀x c d b a,f x c d b a=true->Q (.DictComp x c d b a)):Q e:=by revert h;apply @Expr.casesOn (λe=>y1 f e=true->Q e) e;(case DictComp=>exact k);all_goals (intros;exact ff (by assumption))
def DU(f:Ah Expr->Ah Expr->Ah Expr->Cf->Kh)(e:Expr):Kh:=by apply @Expr.casesOn (λz'=>Kh) e;(case Slice=>exact f);all_goals (intros;exact false)
@[elab_as_elim] theorem ZR{f:Ah Expr->Ah Expr->Ah Expr->Cf->Kh}{e:Expr}{Q:Expr->Prop}(h:DU f e=true)(k:∀x b c a,f x b c a=true->Q (.Slice x b c a)):Q e:=by revert h;apply @Expr.casesOn (λe=>DU f e=true->Q e) e;(case Slice=>exact k);all_goals (intros;exact ff (by assumption))
def bZ(f:Ah Expr->Cf->Kh)(e:qf):Kh:=by apply @Stmt.casesOn (λz'=>Kh) e;(case Return=>exact f);all_goals (intros;exact false)
@[elab_as_elim] theorem sZ{f:Ah Expr->Cf->Kh}{e:qf}{Q:qf->Prop}(h:bZ f e=true)(k:∀x a,f x a=true->Q (.Return x a)):Q e:=by revert h;apply @Stmt.casesOn (λe=>bZ f e=true->Q e) e;(case Return=>exact k);all_goals (intros;exact ff (by assumption))
def cZ(f:xh Expr->Cf->Kh)(e:qf):Kh:=by apply @Stmt.casesOn (λz'=>Kh) e;(case Delete=>exact f);all_goals (intros;exact false)
@[elab_as_elim] theorem yU{f:xh Expr->Cf->Kh}{e:qf}{Q:qf->Prop}(h:cZ f e=true)(k:∀x a,f x a=true->Q (.Delete x a)):Q e:=by revert h;apply @Stmt.casesOn (λe=>cZ f e=true->Q e) e;(case Delete=>exact k);all_goals (intros;exact ff (by assumption))
def iX(f:xh Expr->Expr->Cf->Kh)(e:qf):Kh:=by apply @Stmt.casesOn (λz'=>Kh) e;(case Assign=>exact f);all_goals (intros;exact false)
@[elab_as_elim] theorem zU{f:xh Expr->Expr->Cf->Kh}{e:qf}{Q:qf->Prop}(h:iX f e=true)(k:∀x a b,f x a b=true->Q (.Assign x a b)):Q e:=by revert h;apply @Stmt.casesOn (λe=>iX f e=true->Q e) e;(case Assign=>exact k);all_goals (intros;exact ff (by assumption))
def oP(f:Expr->Expr->xh qf->xh qf->Cf->Kh)(e:qf):Kh:=by apply @Stmt.casesOn (λz'=>Kh) e;(case For=>exact f);all_goals (intros;exact false)
@[elab_as_elim] theorem XT{f:Expr->Expr->xh qf->xh qf->Cf->Kh}{e:qf}{Q:qf->Prop}(h:oP f e=true)(k:∀x c d b a,f x c d b a=true->Q (.For x c d b a)):Q e:=by revert h;apply @Stmt.casesOn (λe=>oP f e=true->Q e) e;(case For=>exact k);all_goals (intros;exact ff (by assumption))
def hX(f:Expr->xh qf->xh qf->Cf->Kh)(e:qf):Kh:=by apply @Stmt.casesOn (λz'=>Kh) e;(case While=>exact f);all_goals (intros;exact false)
@[elab_as_elim] theorem XR{f:Expr->xh qf->xh qf->Cf->Kh}{e:qf}{Q:qf->Prop}(h:hX f e=true)(k:∀x b c a,f x b c a=true->Q (.While x b c a)):Q e:=by revert h;apply @Stmt.casesOn (λe=>hX f e=true->Q e) e;(case While=>exact k);all_goals (intros;exact ff (by assumption))
def ZD(f:Expr->xh qf->xh qf->Cf->Kh)(e:qf):Kh:=by apply @Stmt.casesOn (λz'=>Kh) e;(case If=>exact f);all_goals (intros;exact false)
@[elab_as_elim] theorem nP{f:Expr->xh qf->xh qf->Cf->Kh}{e:qf}{Q:qf->Prop}(h:ZD f e=true)(k:∀x b c a,f x b c a=true->Q (.If x b c a)):Q e:=by revert h;apply @Stmt.casesOn (λe=>ZD f e=true->Q e) e;(case If=>exact k);all_goals (intros;exact ff (by assumption))
def Ui(f:Expr->Cf->Kh)(e:qf):Kh:=by apply @Stmt.casesOn (λz'=>Kh) e;(case Expr=>exact f);all_goals (intros;exact false)
@[elab_as_elim] theorem pP{f:Expr->Cf->Kh}{e:qf}{Q:qf->Prop}(h:Ui f e=true)(k:∀x a,f x a=true->Q (.Expr x a)):Q e:=by revert h;apply @Stmt.casesOn (λe=>Ui f e=true->Q e) e;(case Expr=>exact k);all_goals (intros;exact ff (by assumption))
def KS(e:Expr):Kh:=Expr.casesOn (motive_1:=λz'=>Kh) e (λa x b=>true) (λa x b=>true) (λa x b c=>true) (λa x b=>true) (λa x b c=>true) (λa x b c=>true) (λa x b=>true) (λa x b=>true) (λa x b c=>true) (λa x b c=>true) (λa x b c d=>true) (λa x b c=>true) (λa x=>true) (λa x=>true) (λa x=>true) (λa x b c=>true) (λa x b c=>true) (λa x b c=>true) (λa x=>true) (λa x b=>true) (λa x b=>true) (λa x b=>true) (λa x=>false) (λa x=>true) (λa x=>true) (λa x b=>true) (λa x b c=>true)
def oO(e:Expr):Kh:=Expr.casesOn (motive_1:=λz'=>Kh) e (λa x b=>true) (λa x b=>true) (λa x b c=>true) (λa x b=>true) (λa x b c=>true) (λa x b c=>true) (λa x b=>true) (λa x b=>true) (λa x b c=>true) (λa x b c=>true) (λa x b c d=>true) (λa x b c=>true) (λa x=>true) (λa x=>true) (λa x=>true) (λa x b c=>true) (λa x b c=>false) (λa x b c=>true) (λa x=>true) (λa x b=>true) (λa x b=>true) (λa x b=>true) (λa x=>true) (λa x=>true) (λa x=>true) (λa x b=>true) (λa x b c=>true)
def Bx(e:Expr):Kh:=Expr.casesOn (motive_1:=λz'=>Kh) e (λa x b=>true) (λa x b=>true) (λa x b c=>true) (λa x b=>true) (λa x b c=>true) (λa x b c=>true) (λa x b=>true) (λa x b=>true) (λa x b c=>true) (λa x b c=>true) (λa x b c d=>true) (λa x b c=>true) (λa x=>true) (λa x=>true) (λa x=>true) (λa x b c=>true) (λa x b c=>true) (λa x b c=>true) (λa x=>true) (λa x b=>true) (λa x b=>true) (λa x b=>true) (λa x=>true) (λa x=>true) (λa x=>true) (λa x b=>true) (λa x b c=>false)
def nV(e:Expr):Kh:=Expr.casesOn (motive_1:=λz'=>Kh) e (λa x b=>true) (λa x b=>true) (λa x b c=>true) (λa x b=>true) (λa x b c=>true) (λa x b c=>true) (λa x b=>true) (λa x b=>false) (λa x b c=>true) (λa x b c=>true) (λa x b c d=>true) (λa x b c=>true) (λa x=>true) (λa x=>true) (λa x=>true) (λa x b c=>true) (λa x b c=>true) (λa x b c=>true) (λa x=>true) (λa x b=>true) (λa x b=>true) (λa x b=>true) (λa x=>true) (λa x=>true) (λa x=>true) (λa x b=>true) (λa x b c=>true)
def Q6(e:Expr):Kh:=Expr.casesOn (motive_1:=λz'=>Kh) e (λa x b=>true) (λa x b=>true) (λa x b c=>true) (λa x b=>true) (λa x b c=>true) (λa x b c=>true) (λa x b=>true) (λa x b=>true) (λa x b c=>false) (λa x b c=>false) (λa x b c d=>false) (λa x b c=>true) (λa x=>true) (λa x=>true) (λa x=>true) (λa x b c=>true) (λa x b c=>true) (λa x b c=>true) (λa x=>true) (λa x b=>true) (λa x b=>true) (λa x b=>true) (λa x=>true) (λa x=>true) (λa x=>true) (λa x b=>true) (λa x b c=>true)
def iK(e:Expr):Kh:=Expr.casesOn (motive_1:=λz'=>Kh) e (λa x b=>true) (λa x b=>true) (λa x b c=>true) (λa x b=>true) (λa x b c=>true) (λa x b c=>true) (λa x b=>true) (λa x b=>true) (λa x b c=>true) (λa x b c=>true) (λa x b c d=>true) (λa x b c=>true) (λa x=>true) (λa x=>true) (λa x=>true) (λa x b c=>true) (λa x b c=>true) (λa x b c=>true) (λa x=>true) (λa x b=>true) (λa x b=>true) (λa x b=>true) (λa x=>true) (λa x=>true) (λa x=>true) (λa x b=>false) (λa x b c=>true)
theorem y4{o v:Nh}{e:Expr}(h:Bx e=true):xc e false o v=Za [o,v] (getItem o v):=by revert h;apply @Expr.casesOn (λe=>Bx e=true->xc e false o v=Za [o,v] _) e;all_goals (intros;first|rfl|exact ff (by assumption))
theorem R7{es:xh Expr}{env:Ub}{e:Expr}(h:KS e=true):Hf (e::es) env=(false,bc e env)::Hf es env:=(Expr.casesOn (motive_1:=λe=>KS e=true->Hf (e::es) _=(false,bc e _)::Hf _ _) e (λx z' z' h=>ig _) (λx z' z' h=>ig _) (λx z' z' z' h=>ig _) (λx z' z' h=>ig _) (λx z' z' z' h=>ig _) (λx z' z' z' h=>ig _) (λx z' z' h=>ig _) (λx z' z' h=>ig _) (λx z' z' z' h=>ig _) (λx z' z' z' h=>ig _) (λx z' z' z' z' h=>ig _) (λx z' z' z' h=>ig _) (λx z' h=>ig _) (λx z' h=>ig _) (λx z' h=>ig _) (λx z' z' z' h=>ig _) (λx z' z' z' h=>ig _) (λx z' z' z' h=>ig _) (λx z' h=>ig _) (λx z' z' h=>ig _) (λx z' z' h=>ig _) (λx z' z' h=>ig _) (λx z' h=>ff h) (λx z' h=>ig _) (λx z' h=>ig _) (λx z' z' h=>ig _) (λx z' z' z' h=>ig _)) h
theorem b4{t:Ah Expr}{l:Mh}{env:Ub}{e:Expr}(h:Q6 e=true):Nf e t l env=pure false:=by revert h;apply @Expr.casesOn (λe=>Q6 e=true->Nf e t l _=pure _) e;all_goals (intros;first|rfl|exact ff (by assumption))
theorem aT{op:CmpOp}{e:Expr}(h:nV e=true):db op e=false:=by revert h;apply @Expr.casesOn (λe=>nV e=true->db _ e=false) e;all_goals (intros;first|rfl|exact ff (by assumption))
theorem PY{env:Ub}{x:Nh}{e:Expr}(h:nV e=true):ab e env x=pure x:=by revert h;apply @Expr.casesOn (λe=>nV e=true->ab e _ x=pure x) e;all_goals (intros;first|rfl|exact ff (by assumption))
theorem hK{t:xh Expr}{k:Mh}{p:Cf}{env:Ub}{e:Expr}(h:iK e=true):Ae [.Tuple t k p] e env=pure none:=(Expr.casesOn (motive_1:=λe=>iK e=true->Ae [.Tuple _ k p] e _=pure _) e (λx z' z' h=>ig _) (λx z' z' h=>ig _) (λx z' z' z' h=>ig _) (λx z' z' h=>ig _) (λx z' z' z' h=>ig _) (λx z' z' z' h=>ig _) (λx z' z' h=>ig _) (λx z' z' h=>ig _) (λx z' z' z' h=>ig _) (λx z' z' z' h=>ig _) (λx z' z' z' z' (h)=>ig (pure none)) (λx z' z' z' h=>ig _) (λx z' h=>ig _) (λx z' h=>ig _) (λx z' h=>ig _) (λx z' z' z' h=>ig _) (λx z' z' z' h=>ig _) (λx z' z' z' h=>ig _) (λx z' h=>ig _) (λx z' z' h=>ig _) (λx z' z' h=>ig _) (λx z' z' h=>ig _) (λx z' h=>ig _) (λx z' h=>ig _) (λx z' h=>ig _) (λx z' z' h=>ff h) (λx z' z' z' h=>ig _)) h
theorem T1{x:Str}{env:Ub}{w:ca Nh}{e:Expr}(h:oO e=true):Se e x env w=w:=by revert h;apply @Expr.casesOn (λe=>oO e=true->Se e x _ w=w) e;all_goals (intros;first|rfl|exact ff (by assumption))
theorem JS{e:Expr}(h:KS e=true):TJ e=false:=by revert h;apply @Expr.casesOn (λe=>KS e=true->TJ e=false) e;all_goals (intros;first|rfl|exact ff (by assumption))
def kv(env:Ub)(l:Mh)(e:Expr):Ah Str:=swappedStores.match_8 (λx=>Ah Str) e (λid pos=>if(env.kindOf id==some .local&&pos.line==l)=true then some id else none) λx=>none
@[elab_as_elim] theorem CG{env:Ub}{l:Mh}{e:Expr}{Q:Expr->Prop}(h:(kv env l e).isSome=true)(k:∀id pos,(if(env.kindOf id==some .local&&pos.line==l)=true then some id else none).isSome=true->Q (.Name id pos)):Q e:=(Expr.casesOn (motive_1:=λe=>(kv _ l e).isSome=true->Q e) e (λx z' z' (h:false=true)=>ff h) (λx z' z' (h:false=true)=>ff h) (λx z' z' z' (h:false=true)=>ff h) (λx z' z' (h:false=true)=>ff h) (λx z' z' z' (h:false=true)=>ff h) (λx z' z' z' (h:false=true)=>ff h) (λx z' z' (h:false=true)=>ff h) (λx z' z' (h:false=true)=>ff h) (λx z' z' z' (h:false=true)=>ff h) (λx z' z' z' (h:false=true)=>ff h) (λx z' z' z' z' (h:false=true)=>ff h) (λx z' z' z' (h:false=true)=>ff h) (λx z' h=>ff h) (λx z' h=>ff h) (λx z' h=>ff h) (λx z' z' z' (h:false=true)=>ff h) (λx z' z' z' (h:false=true)=>ff h) (λx z' z' z' (h:false=true)=>ff h) (λx z' h=>ff h) (λx z' z' (h:false=true)=>ff h) (λx z' z' (h:false=true)=>ff h) (λx z' z' (h:false=true)=>ff h) (λx z' h=>ff h) (λx a h=>k _ _ h) (λx z' h=>ff h) (λx z' z' (h:false=true)=>ff h) (λx z' z' z' (h:false=true)=>ff h)) h
structure Ck where
 e:Bg->Expr->Kh
 l:Bg->xh Expr->Kh
 t:Bg->Expr->Kh
 o:Bg->Expr->Kh
 c:Bg->Expr->Kh
 p:Bg->xh (Ah Expr)->xh Expr->Kh
 b:Bg->xh qf->Kh
 z:Kh
def Ck.F:Ck:=⟨λs e=>false,λs e=>false,λs e=>false,λs e=>false,λs e=>false,λs k e=>false,λs e=>false,false⟩
def Ck.E(f:Bg->Expr->Kh):Ck:={Ck.F with e:=f}
def Ck.O(f:Bg->Expr->Kh):Ck:={Ck.F with o:=f}
def Ck.T(f:Bg->Expr->Kh):Ck:={Ck.F with t:=f}
def Ck.B(f:Bg->xh qf->Kh):Ck:={Ck.F with b:=f}
def O2.op:O2->Operator
 | .add=> .Add
 | .sub=> .Sub
 | .mul=> .Mult
 | .mod=> .Mod
 | .fdiv=> .FloorDiv
def C2.op:C2->CmpOp
 | .eq=> .Eq
 | .ne=> .NotEq
 | .lt=> .Lt
 | .le=> .LtE
 | .gt=> .Gt
 | .ge=> .GtE
 | .isin=> .In
 | .notin=> .NotIn
 | .isv=> .Is
 | .isnot=> .IsNot
def BF.nm:BF->Str
 | .len=>S "len"
 | .sorted=>S "sorted"
 | .list=>S "list"
 | .tuple=>S "tuple"
 | .range=>S "range"
 | .min=>S "min"
 | .max=>S "max"
 | .int=>S "int"
def LM.nm:LM->Str
 | .append=>S "append"
 | .extend=>S "extend"
 | .pop=>S "pop"
 | .get=>S "get"
def Kz(k:Ah zc):Kh:=decide (k=some .globalImplicit)
def Mx(c:Const)(d:Jh):Kh:=match d with
 | .none=>decide (c= .none)
 | .bool b=>decide (c= .bool b)
 | .int i=>decide (c= .int i)
 | .str s=>decide (c= .str s)&&Ve s
 |_=>false
def UU(o i:Bg):Bg:={i with names:=i.names.map λ(n,k)=>if(k== .free&&o.kind== .function&&o.names.lookup n==some .cell) then(n,.cell) else(n,k)}
def FH(o i:Bg):Kh:=decide (i.kind= .function)&&i.names.all λy=>decide (y.2≠ .cell)&&(decide (y.2≠ .local)||decide (i.names.lookup y.1=some .local))&&(decide (y.2≠ .free)||decide (o.names.lookup y.1=some .cell))
def qN(m:Ck)(s:Bg):xh Expr->Kh
 |[]=>m.z
 |[e]=> !m.z&&m.t s e
 |_=>false
def DG(s:Bg)(vs:xh Str)(i:Mh)(e:Expr):Kh:=O6 (λx p=>decide (x=vn vs i)&&OZ (s.names.lookup x)&&decide (x≠S "__debug__")&&decide (x≠S "__classdict__")) e
def VM(s:Bg)(vs:xh Str)(i:Mh)(e:Expr):Kh:=O6 (λx p=>decide (x=vn vs i)&&X7 (s.names.lookup x)) e
def oS(s:Bg)(vs:xh Str)(is:xh Mh)(a:xh Expr):Kh:=match is,a with
 |[],[]=>true
 |i::is,t::a=>VM s vs i t&&oS s vs is a
 |_,_=>false
def Fx(s:Bg)(n:Mh)(t:Expr):Kh:=O6 (λx p=>decide (s.names.lookup x=some .local)&&p.line==n) t
def mw(s:Bg)(t es:xh Expr):Kh:=(t.length==2||t.length==3)&&es.length==t.length&&es.all KS&&(t.all (Fx s ((t.head?.map (·.pos.line)).getD 0)))&& !es.all (foldedForSure 8)&& !es.all (constantsAlone 8)
def zG(s:Bg)(t es:xh Expr):Kh:= !(t.all (Fx s ((t.head?.map (·.pos.line)).getD 0)))&&es.all KS
def gl(s:Bg)(x:Str)(f:Expr)(es:xh Expr):Kh:=O6 (λy p=>decide (y=x)&&Kz (s.names.lookup x)&&decide (x≠S "__debug__")&&es.all KS) f
def mt(x:Str)(f:Expr)(es:xh Expr)(pos:Cf)(k:Expr->Kh):Kh:=c6 (λo y a=>decide (y=x)&&oO o&&es.all KS&&a.endLine==pos.line&&Nat.blt es.length 30&&k o) f
def aP(k:Expr->xh Expr->Cf->Kh):Expr->Kh:=KW λx es a pos=>a.isEmpty&&k x es pos
def hd(w:qf->Kh)(k:xh qf->Kh)(a:xh qf):Kh:=match a with
 |s::a=>w s&&k a
 |[]=>false
def yX(k:Expr->Kh):xh Expr->Kh
 |[t]=>k t
 |_=>false
def iY(k:Expr->Expr->Cf->Kh):qf->Kh:=iX λa e pos=>yX (λt=>k t e pos) a
def QM(s:Bg)(vs:xh Str)(one:Kh)(is:xh Mh)(t:Expr):Kh:=match one with
 |true=>(match is with
  |[i]=>VM s vs i t
  |_=>false)
 |false=>U5 (λb k p=>oS s vs is b) t
def cy(vs:xh Str)(is:xh Mh)(one:Kh)(i body:Ck)(s:Bg):qf->Kh:=oP λt iter b o p=>QM s vs one is t&&nV iter&&o.isEmpty&&i.e s iter&&body.b s b
def LF(vs:xh Str)(s:Bg)(is:xh Mh)(one:Kh)(it:Ck)(fv:xh Mh)(gs:xh Pd)(sc:Bg)(k:Bg->xh Expr->Kh):Kh:=match gs with
 |[⟨t,iter,fs,d⟩]=>decide (d=0)&&QM (UU s sc) vs one is t&&FH s sc&&(is.all λi=>decide (sc.names.lookup (vn vs i)=some .local))&&nV iter&&it.e s iter&&k (UU s sc) fs&&fv.all λi=> !is.contains i&&decide ((UU s sc).names.lookup (vn vs i)≠some .local)
 |_=>false
def zX(vs:xh Str)(s:Bg)(is:xh Mh)(one:Kh)(e a i:Ck)(fv:xh Mh):Expr->Kh:=s4 λc g b p=>LF vs s is one a fv g b λr fs=>e.e r c&&qN i r fs
def cK(vs:xh Str)(s:Bg)(is:xh Mh)(one:Kh)(k v i:Ck)(fv:xh Mh):Expr->Kh:=y1 λa b g c p=>LF vs s is one i fv g c λr fs=>k.e r a&&v.e r b&&fs.isEmpty
def oD(s:Bg)(x:Str)(p:Cf):Expr->Kh:=s4 λel gs sc q=>(s.names.lookup x==some .local)&&p.line==q.line&& !(sc.names.any λ(n,k)=>n==x&&(k== .local||k== .cell))
def xE(op:C2)(m v:Ck)(s:Bg):Expr->Kh:=uZ λl a b p=>match a,b with
 |[o],[r]=>decide (o=op.op)&&nV r&&m.e s l&&v.e s r
 |_,_=>false
def zH(up:Kh)(m v:Ck)(s:Bg):Expr->Kh:=b8 λo i p=>DU (λa b c q=>match up with
 |true=>a.isNone&&c.isNone&&b.any (v.e s)&&m.e s o
 |false=>a.isNone&&b.isNone&&c.any (v.e s)&&m.e s o) i
def Hr(O:BoolOp)(m v:Ck)(s:Bg):Expr->Kh:=M3 λo es p=>match es with
 |[a,b]=>decide (o=O)&&m.t s a&&v.t s b
 |a::b::c::r=>decide (o=O)&&m.t s a&&v.t s (.BoolOp O (b::c::r) p)
 |_=>false
def ir(m:Ck)(s:Bg):Expr->Kh:=aS λk es p=>k.all (·.isSome)&&(k.length==es.length)&&Nat.blt 0 k.length&&qd k.length 15&&m.p s k es
def d0:Bg->Expr->Kh:=λs=>aS λk es p=>k.isEmpty&&es.isEmpty
def ah(k:xh Expr->xh Expr->Kh)(t e:Expr):Kh:=U5 (λa n p=>U5 (λes m q=>k a es) e) t
def IT(vs:xh Str)(s:Bg)(y i:Mh)(t:Expr):Kh:=c6 (λo x p=>DG s vs y o&&decide (x=an i)&&decide (i<30)) t
def DF(s:Bg)(x:Str):Kh:=decide (s.names.lookup x=some .cell)
def uJ(op:O2)(m v:Ck)(s:Bg):Expr->Kh:=FU λl o r p=>decide (o=op.op)&&m.e s l&&v.e s r
def Tq:Tg->Str
 | .house=>S "Congruence"
 |_=>S "Bank"
def zr(vs:xh Str)(k:K0):Ck:=match k with
 | .var i=> .E λs=>DG s vs i
 | .con d=> .E λs=>P6 λc k p=>Mx c d
 | .tI k=> .E λs=>O6 λx p=>decide (x=(pg.gd k).1)&&Kz (s.names.lookup x)&&decide (x≠S "__debug__")&&decide (k<5)
 | .nil=>{Ck.F with
   l:=λs es=>es.isEmpty
   p:=λs f es=>f.isEmpty&&es.isEmpty
   b:=λs a=>a.isEmpty
   z:=true}
 | .dI=> .O d0
 | .dL=> .O d0
 | .dT=> .O d0
 | .X0=> .B λs=>hd (bZ λe p=>e.isNone) λa=>true
 | .bad=> .B λs a=>true
def yr(vs:xh Str)(k:K1)(m:Ck):Ck:=match k with
 | .D6 i=> .E λs=>c6 λo x p=>decide (x=an i)&&decide (i<30)&&oO o&&m.e s o
 | .neg=> .E λs=>H3 λo x p=>decide (o= .USub)&&m.e s x
 | .one=> .E λs=>M3 λo es p=>yX (m.e s) es
 | .tup=> .E λs=>U5 λes k p=>m.l s es
 | .lst=>{Ck.F with
   e:=λs=>ZT λes p=>m.l s es
   o:=λs=>ZT λes p=>m.l s es}
 | .blt f=> .E λs=>aP λx es p=>gl s f.nm x es&&m.l s es
 | .CF=> .E λs=>aP λx es p=>match es with
   |[a,y]=>gl s (S "isinstance") x [a,y]&&gl s (S "list") y []&&m.e s a
   |_=>false
 | .VQ=> .E λs=>aP λx es p=>yX (λa=>gl s (S "sorted") x [a]&&m.e s a) es
 | .xH=> .E λs=>aP λx es p=>yX (λy=>gl s (S "sorted") x [y]&&aP (λx es p=>yX (λa=>gl s (S "set") x [a]&&m.e s a) es) y) es
 | .new τ id=> .E λs=>aP λx es p=>gl s (Tq τ) x es&&m.l s es
 | .fn id=> .E λs=>aP λx es p=>decide (72<=id)&&decide (id<86)&&gl s (pg.nm id) x es&&m.l s es
 | .own τ=> .E m.o
 | .dS=> .O (ir m)
 | .dN=> .O (ir m)
 | .fz=>{Ck.F with e:=m.e,o:=m.o}
 | .val=> .T λs e=>(O6 (λx p=>true) e||KW (λx y z p=>true) e)&&m.e s e
 | .not=> .T λs=>H3 λo x p=>decide (o= .Not)&&m.t s x
 | .ret=> .B λs=>hd (bZ λe p=>e.any (m.e s)) λb=>true
 | .rel i=> .B m.b
def xr(vs:xh Str)(k:K2)(d m:Ck):Ck:=match k with
 | .sub=> .E λs=>b8 λo i p=>Bx i&&d.e s o&&m.e s i
 | .bin op=>{Ck.F with e:=uJ op d m,o:=uJ op d m}
 | .cmp op=>{Ck.F with e:=xE op d m,t:=xE op d m}
 | .uW=> .E λs=>M3 λo es p=>match es with
   |e1::v::rest=>decide (o= .And)&&d.e s e1&&m.e s (.BoolOp .And (v::rest) p)
   |_=>false
 | .cons=>{Ck.F with l:=λs es=>match es with
   |e::es=>KS e&&d.e s e&&m.l s es
   |_=>false}
 | .zip=> .E λs=>aP λx es p=>yX (λy=>gl s (S "list") x [y]&&aP (λx es p=>match es with
   |[a,b]=>gl s (S "zip") x [a,b]&&(d.e s a&&m.e s b)
   |_=>false) y) es
 | .W0 y x τ=> .B λs=>hd (iY λt e p=>b8 (λo i q=>DG s vs y o&&P6 (λc k p=>Mx c (.str x)) i) t&&d.o s e) (m.b s)
 | .met id=> .E λs=>aP λx es pos=>mt (pg.nm id) x es pos λe=>d.e s e&&m.l s es
 | .lm f=> .E λs=>aP λx es pos=>mt f.nm x es pos λe=>d.e s e&&m.l s es
 | .iU=>{Ck.F with e:=zH true d m,o:=zH true d m}
 | .TM=> .E (zH false d m)
 | .and=> .T (Hr .And d m)
 | .or=> .T (Hr .Or d m)
 | .ex=> .B λs=>hd (Ui λe p=>Q6 e&&d.e s e) (m.b s)
 | .set i=> .B λs=>hd (iY λt e p=>VM s vs i t&&(Q6 e||DF s (vn vs i))&&d.e s e) (m.b s)
 | .g6 is=> .B λs=>hd (iY λt e p=>Q6 e&&iK e&&QM s vs false is t&&d.e s e) (m.b s)
 | .VW is=> .B λs=>hd (iY λt e p=>ah (λu es=>oS s vs is u&&mw s u es&&(is.map (vn vs)).eraseDups.length==is.length&&d.l s es) t e) (m.b s)
 | .XW is=> .B λs=>hd (iY λt e p=>ah (λu es=>oS s vs is u&&zG s u es&&d.l s es) t e) (m.b s)
 | .wY i=> .B λs=>hd (iY λt e p=>O6 (λx q=>decide (x=vn vs i)&&oD s x q e) t&&d.c s e) (m.b s)
 | .vY i τ=> .B λs=>hd (iY λt e p=>O6 (λx q=>decide (x=vn vs i)&&oD s x q e) t&&d.c s e) (m.b s)
 | .M4 y i=> .B λs=>hd (iY λt e p=>IT vs s y i t&&d.e s e) (m.b s)
 | .WW y i τ=> .B λs=>hd (iY λt e p=>IT vs s y i t&&d.o s e) (m.b s)
 | .R3 y i j κ=> .B λs=>hd (iY λt e p=>b8 (λo x q=>IT vs s y i o&&DG s vs j x) t&&Q6 e&&d.o s e) (m.b s)
def vr(vs:xh Str)(k:K3)(f m d:Ck):Ck:=match k with
 | .ite=> .E λs=>EU λx a b p=>f.t s x&&m.e s a&&d.e s b
 | .pr=>{Ck.F with p:=λs h es=>match h,es with
   |some x::h,e::es=>f.e s x&&m.e s e&&d.p s h es
   |_,_=>false}
 | .comp is one fv=>{Ck.F with
   e:=λs=>zX vs s is one f m d fv
   o:=λs=>zX vs s is one f m d fv
   c:=λs=>zX vs s is one f m d fv}
 | .cY is one fv=> .O λs=>cK vs s is one f m d fv
 | .del=> .B λs=>hd (cZ λr p=>yX (b8 λo i q=>f.e s o&&m.e s i) r) (d.b s)
 | .UZ z is one g=> .B λs=>hd (cy vs is one f m s) (d.b s)
 | .GV i g=> .B λs=>hd (oP λt iter j l p=>l.isEmpty&&VM s vs i t&&U5 (λes k p=>f.l s es) iter&&m.b s j) (d.b s)
 | .vU g=> .B λs=>hd (hX λx j l p=>l.isEmpty&&f.t s x&&m.b s j) (d.b s)
def ur(vs:xh Str)(k:K4)(c d m ms:Ck):Ck:=match k with
 | .M1=> .B λs=>hd (iY λt e p=>b8 (λo i q=>d.e s o&&m.e s i) t&&Q6 e&&c.e s e) (ms.b s)
 | .ifs=> .B λs=>hd (ZD λx a b p=>c.t s x&&d.b s a&&m.b s b) (ms.b s)
def u7(vs:xh Str)(m:M):Ck:=M.rec (zr vs) (λk z' p=>yr vs k p) (λk z' z' p q=>xr vs k p q) (λk z' z' z' p q r=>vr vs k p q r) (λk z' z' z' z' p q r s=>ur vs k p q r s) m
section
variable{P:w8}{vs:xh Str}{c c':IC}{u:Mo}{τ:Tg}{o o':d9}{a b r v:AV}{i j k:Mh}{ρ:xh (Mh×AV)}{σ:Tg->Ah d9}
theorem l9{a b:Kh}(h:(a&&b)=true):a=true/\b=true:=(gg a b).mp h
theorem o9{e:Type}{x:Ah e}{Q:e->Prop}(h:rd x Q):∃a,x=some a/\Q a:=by
 cases x with
 |none=>exact h.elim
 |some a=>exact⟨a,rfl,h⟩
theorem z9{b:Kh}{Q:Prop}(h:ck b Q):b=true/\Q:=by
 cases b with
 |false=>exact h.elim
 |true=>exact⟨rfl,h⟩
theorem fY{b:Kh}{Q R:Prop}(h:br b Q R):(b=true/\Q)\/(b=false/\R):=by
 cases b with
 |false=>exact .inr ⟨rfl,h⟩
 |true=>exact .inl ⟨rfl,h⟩
theorem L9{e:Type}{x:Ah e}{Q:e->Prop}{R:Prop}(h:Ci x Q R):(∃a,x=some a/\Q a)\/(x=none/\R):=by
 cases x with
 |none=>exact .inr ⟨rfl,h⟩
 |some a=>exact .inl ⟨a,rfl,h⟩
theorem A8{e:Type}{x:e}{Q:Prop}(h:none=some x):Q:=(by nomatch h)
theorem N6{a:AV}{i:Jh}(h:AV.dat? a=some i):a= .a9 i:=(AV.casesOn (motive:=λz=>AV.dat? z=some i->z= .a9 i) a (λx h=>yh _ (Bh h)) (λx h=>A8 h) (λx h=>A8 h) (λx z' z' h=>A8 h) (λx h=>A8 h) (λx h=>A8 h)) h
theorem i6{a:AV}{i:Tg}(h:AV.obj? a=some i):a= .g9 i:=(AV.casesOn (motive:=λz=>AV.obj? z=some i->z= .g9 i) a (λx h=>A8 h) (λx h=>yh _ (Bh h)) (λx h=>A8 h) (λx z' z' h=>A8 h) (λx h=>A8 h) (λx h=>A8 h)) h
theorem SP{a:AV}{i:Dh}(h:AV.rng? a=some i):a= .range i:=(AV.casesOn (motive:=λz=>AV.rng? z=some i->z= .range i) a (λx h=>A8 h) (λx h=>A8 h) (λx h=>yh _ (Bh h)) (λx z' z' h=>A8 h) (λx h=>A8 h) (λx h=>A8 h)) h
theorem gZ{d:Jh}{i:Dh}(h:eV d=some i):d= .int i:=(PyData.casesOn (motive_1:=λz=>eV z=some i->z= .int i) d (λh=>A8 h) (λx h=>A8 h) (λx h=>yh _ (Bh h)) (λx h=>A8 h) (λx h=>A8 h) (λx h=>A8 h) (λx h=>A8 h)) h
theorem BS{d:Jh}{i:Str}(h:XL d=some i):d= .str i:=(PyData.casesOn (motive_1:=λz=>XL z=some i->z= .str i) d (λh=>A8 h) (λx h=>A8 h) (λx h=>A8 h) (λx h=>yh _ (Bh h)) (λx h=>A8 h) (λx h=>A8 h) (λx h=>A8 h)) h
theorem XP{d:Jh}{i:Kh}(h:YP d=some i):d= .bool i:=(PyData.casesOn (motive_1:=λz=>YP z=some i->z= .bool i) d (λh=>A8 h) (λx h=>yh _ (Bh h)) (λx h=>A8 h) (λx h=>A8 h) (λx h=>A8 h) (λx h=>A8 h) (λx h=>A8 h)) h
theorem AS{d:Jh}{i:xh Jh}(h:WL d=some i):d= .tuple i:=(PyData.casesOn (motive_1:=λz=>WL z=some i->z= .tuple i) d (λh=>A8 h) (λx h=>A8 h) (λx h=>A8 h) (λx h=>A8 h) (λx h=>A8 h) (λx h=>yh _ (Bh h)) (λx h=>A8 h)) h
theorem aK{d:Jh}{i:xh Jh}(h:iG d=some i):d= .list i:=(PyData.casesOn (motive_1:=λz=>iG z=some i->z= .list i) d (λh=>A8 h) (λx h=>A8 h) (λx h=>A8 h) (λx h=>A8 h) (λx h=>yh _ (Bh h)) (λx h=>A8 h) (λx h=>A8 h)) h
theorem Li{o:d9}{i:Kh×xh AV}(h:d9.ls? o=some i):o= .list i.1 i.2:=(d9.casesOn (motive:=λz=>d9.ls? z=some i->z= .list _ _) o (λx z' h=>yh (λp=>d9.list p.1 p.2) (Bh h)) (λx z' h=>A8 h) (λx z' h=>A8 h) (λx h=>A8 h) (λx h=>A8 h) (λx z' h=>A8 h)) h
theorem M0{o:d9}{i:Kh×(Dh->Ah AV)}(h:d9.dI? o=some i):o= .p9 i.1 i.2:=(d9.casesOn (motive:=λz=>d9.dI? z=some i->z= .p9 _ _) o (λx z' h=>A8 h) (λx z' h=>yh (λp=>d9.p9 p.1 p.2) (Bh h)) (λx z' h=>A8 h) (λx h=>A8 h) (λx h=>A8 h) (λx z' h=>A8 h)) h
theorem g3{o:d9}{i:Kh×xh (Dh×AV)}(h:d9.dL? o=some i):o= .M9 i.1 i.2:=(d9.casesOn (motive:=λz=>d9.dL? z=some i->z= .M9 _ _) o (λx z' h=>A8 h) (λx z' h=>A8 h) (λx z' h=>yh (λp=>d9.M9 p.1 p.2) (Bh h)) (λx h=>A8 h) (λx h=>A8 h) (λx z' h=>A8 h)) h
theorem CR{o:d9}{i:xh KI->Ah AV}(h:d9.dT? o=some i):o= .W9 i:=(d9.casesOn (motive:=λz=>d9.dT? z=some i->z= .W9 i) o (λx z' h=>A8 h) (λx z' h=>A8 h) (λx z' h=>A8 h) (λx h=>yh _ (Bh h)) (λx h=>A8 h) (λx z' h=>A8 h)) h
theorem eM{o:d9}{i:Str->Ah AV}(h:d9.dS? o=some i):o= .s8 i:=(d9.casesOn (motive:=λz=>d9.dS? z=some i->z= .s8 i) o (λx z' h=>A8 h) (λx z' h=>A8 h) (λx z' h=>A8 h) (λx h=>A8 h) (λx h=>yh _ (Bh h)) (λx z' h=>A8 h)) h
theorem eR{o:d9}{i:Mh×xh (Mh×AV)}(h:d9.in? o=some i):o= .inst i.1 i.2:=(d9.casesOn (motive:=λz=>d9.in? z=some i->z= .inst _ _) o (λx z' h=>A8 h) (λx z' h=>A8 h) (λx z' h=>A8 h) (λx h=>A8 h) (λx h=>A8 h) (λx z' h=>yh (λp=>d9.inst p.1 p.2) (Bh h))) h
section
variable{d:Jh}
theorem kK(h:isNone d=true):d= .none:=by
 cases d with
 |none=>rfl
 |_=>cases h
end
theorem XV{e:Type}{f:Jh->Ah e}{g:e->Jh}(l:∀d x,f d=some x->d=g x){x:e}(h:a.dat?.bind f=some x):a= .a9 (g x):=
 (Option.bind_eq_some_iff.mp h).elim λd z=>(N6 z.1).trans (yh _ (l d x z.2))
theorem r8{i:Dh}(h:a.int?=some i):a= .a9 (.int i):=XV (λz' z'=>gZ) h
theorem MU{i:Str}(h:a.str?=some i):a= .a9 (.str i):=XV (λz' z'=>BS) h
theorem oZ{i:Kh}(h:a.bool?=some i):a= .a9 (.bool i):=XV (λz' z'=>XP) h
theorem d6{i:xh Jh}(h:a.tup?=some i):a= .a9 (.tuple i):=XV (λz' z'=>AS) h
theorem y3{i:xh Jh}(h:a.lst?=some i):a= .a9 (.list i):=XV (λz' z'=>aK) h
theorem vZ{Q:Dh->Dh->Prop}(h:two a b Q):∃i j,a= .a9 (.int i)/\b= .a9 (.int j)/\Q i j:=
 (o9 h).elim λi h=>(o9 h.2).elim λj q=>⟨i,j,r8 h.1,r8 q.1,q.2⟩
theorem nZ{as:xh AV}{Q:xh Jh->Prop}(h:SV as Q):∃ds,as=ds.map .a9/\Q ds:=by
 induction as generalizing Q with
 |nil=>exact⟨[],rfl,h⟩
 |cons a _ i=>exact(o9 h).elim λd h=>(i h.2).elim λds q=>⟨d::ds,List.cons_eq_cons.mpr ⟨N6 h.1,q.1⟩,q.2⟩
structure n4(vs:xh Str):Prop where
 nd:vs.Nodup
 sm:∀s∈vs,∀k,s≠⟨#[1114112+k]⟩
theorem CU(V:n4 vs)(e:vn vs i=vn vs j):i=j:=by
 unfold vn at e;cases f:vs[i]? with
 |none=>cases h:vs[j]? with
  |none=>
   rw [f,h] at e;haveI e:=yh (λs=>s.cps[0]?) e;exact ae (Bh e)
  |some s=>rw [f,h] at e;exact absurd e.symm (V.sm s (Bf h) i)
 |some s=>cases h:vs[j]? with
  |none=>rw [f,h] at e;exact absurd e (V.sm s (Bf f) j)
  |some t=>
   rw [f,h] at e;obtain⟨l,f⟩:=List.getElem?_eq_some_iff.mp f;obtain⟨m,h⟩:=List.getElem?_eq_some_iff.mp h;exact(List.getElem_inj V.nd).mp (f.trans (Eq.trans e h.symm))
theorem B0(V:n4 vs):(A0 vs ρ).lookup (vn vs i)=ρ.lookup i:=by
 unfold A0;induction ρ with
 |nil=>rfl
 |cons p r f=>
  refine rL Hg ?_;rw [Kg,Kg,f];by_cases q:i=p.1
  ·refine rL q ?_;rw [zg,zg]
  ·exact rL (yg q) (rL (yg λe=>q (CU V e)) rfl)
theorem pO(V:n4 vs):T9 (A0 vs ρ) (vn vs i) a=A0 vs (T9 ρ i a):=by
 unfold A0;induction ρ with
 |nil=>rfl
 |cons p r f=>
  refine rL Hg ?_;unfold T9;by_cases q:p.1=i
  ·refine rL (Lh q) (rL (Lh (yh _ q)) ?_);rfl
  ·refine rL (Fh q) (rL (Fh λe=>q (CU V e)) (rL f ?_));rfl
theorem PS{x:Str}(h:(A0 vs ρ).lookup x=some v):∃p∈ρ,x=vn vs p.1/\p.2=v:=by
 unfold A0 at h;induction ρ with
 |nil=>cases h
 |cons p r i=>
  rw [Hg,Kg] at h;split at h
  ·rename_i e;exact⟨p,.head _,eq_of_beq e,Bh h⟩
  ·exact(i h).imp λq z=>⟨.tail _ z.1,z.2⟩
theorem DZ{p:AV->Kh}{U:Tg->Prop}(h:(ρ.all λq=>p q.2)=true)(hp:∀v,p v=true->v.keeps U){x:Str}(e:(A0 vs ρ).lookup x=some v):v.keeps U:=
 (PS e).elim λq z=>z.2.2▸hp _ (List.all_eq_true.mp h q z.1)
theorem AK{is:xh Mh}{p:Mh×AV}(h:p∈I5 is ρ):p.1∈is/\ρ.lookup p.1=some p.2:=by
 obtain⟨i,m,e⟩:=List.mem_filterMap.mp h;obtain⟨a,e,q⟩:=Option.map_eq_some_iff.mp e;exact q▸⟨m,e⟩
theorem u2(V:n4 vs){is:xh Mh}{x:Str}(h:(A0 vs (I5 is ρ)).lookup x=some v):(A0 vs ρ).lookup x=some v/\∃i∈is,x=vn vs i:=by
 obtain⟨p,m,e,q⟩:=PS h;obtain⟨z,y⟩:=AK m;exact⟨by rw [e,B0 V,y,q],p.1,z,e⟩
theorem JU(h:τ.ti=none):τ.U9=false:=by
 unfold Tg.ti at h;cases q:τ.U9 with
 |false=>rfl
 |true=>rw [q] at h;cases h
theorem GY{k:Mh}(h:τ.ti=some k):τ= .W8 k:=by
 unfold Tg.ti at h;cases q:τ.U9 with
 |false=>rw [q] at h;cases h
 |true=>rw [q] at h;exact(Tg.qH q).trans (yh _ (Bh h))
variable{t:xh (Mh×d9)}{B B':Tg->Ah d9}
theorem T8(h:τ.ti=none):A4 t B τ=B τ:=by unfold A4;rw [h]
theorem G5(h:τ.ti=some k):A4 t B τ=t.lookup k:=by unfold A4;rw [h]
theorem c7(h:τ.ti=none):A4 t (up B τ o)=up (A4 t B) τ o:=funext λf=>by
 by_cases e:f=τ
 ·refine rL e ?_;rw [q7,T8 h,q7]
 ·refine rL (u8 e) ?_;cases q:f.ti with
  |none=>rw [T8 q,T8 q,u8 e]
  |some k=>rw [G5 q,G5 q]
theorem AO:A4 (T9 t k o) B=up (A4 t B) (.W8 k) o:=funext λf=>by
 by_cases e:f= .W8 k
 ·refine rL e (rL q7 ?_);exact fZ
 ·refine rL (u8 e) ?_;cases q:f.ti with
  |none=>rw [T8 q,T8 q]
  |some j=>refine rL (G5 q) (rL (G5 q) ?_);exact A6 λz=>e (z▸GY q)
theorem FZ:Ji Tg.U9 (A4 t B)=A4 [] B:=funext λτ=>by
 cases q:τ.ti with
 |none=>rw [T8 q,aW (JU q),T8 q]
 |some k=>refine rL (GY q) ?_;rfl
theorem QY:Di Tg.U9 (A4 t B) (A4 [] B')=A4 t B':=funext λτ=>by
 cases q:τ.ti with
 |none=>rw [Z3 (JU q),T8 q,T8 q]
 |some k=>refine rL (GY q) ?_;rfl
theorem bG{K:IC->Prop}(h:put c τ o K):∃c',c'.σ=up c.σ τ o/\c'.ρ=c.ρ/\K c':=by
 unfold put at h;cases q:τ.ti with
 |none=>rw [q] at h;exact h.elim λb h=>⟨⟨c.ρ,c.t,b⟩,(yh _ h.1.symm).trans (c7 q),rfl,h.2⟩
 |some k=>rw [q] at h;exact⟨⟨c.ρ,T9 _ k o,c.b⟩,GY q▸AO,rfl,h⟩
theorem v4{p:Tg->Kh}{U:Tg->Prop}(hp:∀t,p t=true->U t)(h:wB p a=true):a.keeps U:=by
 cases a with
 |g9 t=>exact hp t h
 |_=>trivial
theorem P5{b:Kh}(h:(!b)=true):b=false:=(Pe b).mp h
theorem K5{t:Tg}(h:hb τ t=true):τ.U9=false/\t.U9=false/\t≠τ/\SZ t=some τ:=
 haveI f:=l9 h;haveI g:=l9 f.2;haveI e:=l9 g.2
 ⟨P5 f.1,P5 g.1,Sc (P5 e.1),Hh e.2⟩
theorem W6{τ:Tg}(h:hk τ a=true):a.keeps λt=>hb τ t=true:=v4 (λz' h=>h) h
theorem Q7{τ:Tg}(h:nt τ a=true):a.keeps (·≠τ):=v4 (λz' h=>Sc (P5 h)) h
theorem wQ(h:sF a=true):a.keeps λτ=>τ.U9=false:=v4 (λz' h=>P5 h) h
theorem UO{m:Md}(h:VO m a=true):a.keeps λt=>m.u t=true\/t.U9=true:=v4 (λz' h=>(Xg _ _).mp h) h
theorem lW{β:Type}{l:xh β}{f:β->Jh}{U:Tg->Prop}:∀y∈l.map λx=>AV.a9 (f x),y.keeps U:=λy m=>(List.mem_map.mp m).elim λd e=>e.2▸(trivial)
theorem mW{ds:xh Jh}{U:Tg->Prop}:∀y∈ds.map AV.a9,y.keeps U:=lW
theorem cW(h:w6 τ o)(g:L6 o=false)(hd:V6 τ=false):nU P τ o:=
 ⟨h,λD z' e=>(by rw [e] at g;cases g),λκ f e=>(by rw [e] at hd;cases hd)⟩
theorem Inv.up{σ:Tg->Ah d9}(h:Inv P σ)(f:nU P τ o):Inv P (up σ τ o):=λg o' e=>(R4 e).elim (λz=>z.1▸z.2▸f) λz=>h _ _ z.2
theorem Inv.wf(h:Inv P σ):Wf Tg.U9 σ where
 W8:=λτ o q e=>d9.t9 (λt y=>absurd ((K5 y).1.symm.trans q) wg) (h _ o e).hold
 old:=λτ o e=>d9.t9 (λt y=>(K5 y).2.1) (h _ o e).hold
theorem D0(e:A4 [] B τ=some o):τ.U9=false:=by
 cases q:τ.ti with
 |none=>exact JU q
 |some k=>rw [G5 q] at e;cases e
theorem YX(h:Inv P (A4 t B)):Inv P (A4 [] B):=λτ o e=>h _ o (by
 cases q:τ.ti with
 |none=>rw [T8 q] at e⊢;exact e
 |some k=>rw [G5 q] at e;cases e)
theorem UY(h:Inv P (A4 t B))(h':Inv P (A4 [] B')):Inv P (A4 t B'):=λτ o e=>by
 cases q:τ.ti with
 |none=>rw [T8 q] at e;exact h' _ o (rL (T8 q) e)
 |some k=>rw [G5 q] at e;exact h _ o (rL (G5 q) e)
theorem K9{t:Tg}(h:um u t):um (hold a u) t:=by
 cases a with
 |g9 _=>exact h.imp id (.tail _)
 |_=>exact h
theorem x9:a.keeps (um (hold a u)):=by
 cases a with
 |g9 _=>exact .inr (.head _)
 |_=>trivial
theorem V5{t:Tg}(h:um u t):um (D8 ρ u) t:=by
 induction ρ with
 |nil=>exact h
 |cons p r i=>exact K9 i
theorem yV:∀p∈ρ,p.2.keeps (um (D8 ρ u)):=by
 induction ρ with
 |nil=>exactλp m=>(by nomatch m)
 |cons p r i=>exactλq m=>(List.mem_cons.mp m).elim (λe=>e▸x9) λm=>AV.t9 (λz'=>K9) (i q m)
theorem F0{as:xh AV}:(∀t,um u t->um (as.foldr hold u) t)/\∀a∈as,a.keeps (um (as.foldr hold u)):=by
 induction as with
 |nil=>exact⟨λz' h=>h,λa m=>(by nomatch m)⟩
 |cons a _ i=>exact⟨λt h=>K9 (i.1 t h),λq m=>(List.mem_cons.mp m).elim (λe=>e▸x9) λm=>AV.t9 (λz'=>K9) (i.2 q m)⟩
theorem OY(h:nu u τ=true):¬um u τ:=λq=>by
 obtain⟨f,e⟩:=l9 h;exact q.elim (λq=>by rw [q] at f;cases f) λq=>by rw [List.contains_iff_mem.mpr q] at e;cases e
theorem rT{t:Tg}(h:Md.lU.u t=true):t.H1=true:=by
 cases t with
 |ls k _=>cases k<;>cases h
 |_=>first|rfl|cases h
theorem HX{t:Tg}:Md.all.u t=true\/t.U9=true:=by
 cases h:t.U9 with
 |true=>exact .inr rfl
 |false=>exact .inl (yh (!·) h)
theorem NO{e:Md}(h:bF u e=true){t:Tg}(q:um u t):e.u t=true\/t.U9=true:=by
 obtain⟨f,w⟩:=l9 h;refine q.elim (λq=> ?_) λq=>(Xg _ _).mp (List.all_eq_true.mp w t q);obtain⟨m,l⟩:=u;cases m with
 |all=>cases e with
  |all=>exact HX
  |_=>cases f
 |st=>cases e with
  |all=>exact HX
  |st=>exact .inl q
  |_=>cases f
 |s2=>cases e with
  |all=>exact HX
  |st=>exact .inl (by show(t.H1||t.iN)=true;rw [show t.H1=true from q];rfl)
  |s2=>exact .inl q
  |_=>cases f
 |lU=>
  haveI z:=rT q;cases e with
  |all=>exact HX
  |st=>exact .inl (by show(t.H1||t.iN)=true;rw [z];rfl)
  |s2=>exact .inl z
  |lU=>exact .inl q
  |top=>cases f
 |top=>cases q
variable{W:Wd}{n:Mh}{F:Fm}{X:Cx}{U:Tg->Prop}{d e:Jh}{G:Gh}{h:Pf}
theorem GZ{Q:xh AV->Prop}(h:gI c a Q):∃vs,Ls c.σ a vs/\Q vs:=(L9 h).elim
 (λh=>h.elim λτ h=>(o9 h.2).elim λo q=>(o9 q.2).elim λp z=>⟨p.2,.inr ⟨τ,p.1,i6 h.1,q.1.trans (yh _ (Li z.1))⟩,z.2⟩)
 λh=>(o9 h.2).elim λds q=>⟨_,.inl ⟨ds,y3 q.1,rfl⟩,q.2⟩
theorem z5{Q:xh Jh->Prop}(h:WM c a Q):∃ds,Ls c.σ a (ds.map .a9)/\Q ds:=(L9 h).elim
 (λh=>h.elim λτ h=>(o9 h.2).elim λo q=>(o9 q.2).elim λp z=>z.2.elim λds w=>⟨ds,.inr ⟨τ,p.1,i6 h.1,w.1▸q.1.trans (yh _ (Li z.1))⟩,w.2⟩)
 λh=>(o9 h.2).elim λds q=>⟨ds,.inl ⟨ds,y3 q.1,rfl⟩,q.2⟩
theorem GO{Q:xh Dh->Prop}(h:Gv c a Q):∃ns,Ls c.σ a ((zs ns).map .a9)/\Q ns:=(z5 h).elim λds h=>h.2.elim λns q=>⟨ns,q.1▸h.1,q.2⟩
theorem FN{Q:AV->Prop}(h:fld c a i Q):∃τ D as v,a= .g9 τ/\c.σ τ=some (.inst D as)/\as.lookup i=some v/\Q v:=
 (o9 h).elim λτ h=>(o9 h.2).elim λo q=>(o9 q.2).elim λp z=>(o9 z.2).elim λv w=>⟨τ,p.1,p.2,v,i6 h.1,q.1.trans (yh _ (eR z.1)),w.1,w.2⟩
theorem yF{k:Dh}{ds:xh Jh}{d:Jh}(h:H8 k ds=some d):H8 k (ds.map AV.a9)=some (.a9 d):=by
 unfold H8 at h⊢;refine rL (kg) ?_;rw [kg,Eh];split at h
 ·rename_i z;refine rL (Lh z) (rL h ?_);rfl
 ·rename_i z;refine rL (Fh z) ?_;split at h
  ·rename_i y;refine rL (Lh y) (rL h ?_);rfl
  ·cases h
theorem DH{k:Dh}{n:Mh}(h:0<=k)(hn:k.toNat<n):seqIndex? k n=some k.toNat:=by
 unfold seqIndex?;exact(Fh (Int.not_lt.mpr h))▸Lh (by rw [gg];exact⟨Rh h,Rh ((Int.toNat_lt h).mp hn)⟩)
inductive mi(X:Cx)(a b:AV)(Q:AV->Prop):Prop
 |mk (v:AV) (O:∀F U oe ie,Bx ie=true->Q5 F U X (uc oe ie) a b v X) (q:Q v)
theorem EL{Q:AV->Prop}(h:Zi c a b Q):mi (c.cx vs) a b Q:=(L9 h).elim
 (λh=>h.elim λk h=>r8 h.1▸(L9 h.2).elim
  (λh=>h.elim λτ h=>i6 h.1▸(o9 h.2).elim λo q=>(L9 q.2).elim
   (λh=>h.elim λp h=>(o9 h.2).elim λv z=>⟨v,λF U z' z' hs=>HB (.inr ⟨τ,p.1,rfl,q.1.trans (yh _ (Li h.1))⟩) z.1 z.2.1 λa k t=>y4 hs,z.2.2⟩)
   λh=>(L9 h.2).elim (λh=>h.elim λp h=>(o9 h.2).elim λv z=>⟨v,λF U z' z' hs=>mO q.1 ((yh _ (M0 h.1)).trans rfl) z.1 λa k t=>y4 hs,z.2⟩)
    λh=>(o9 h.2).elim λp h=>(o9 h.2).elim λv z=>⟨v,λF U z' z' hs=>mO q.1 ((yh _ (g3 h.1)).trans rfl) z.1 λa k t=>y4 hs,z.2⟩)
  λh=>(L9 h.2).elim
   (λh=>h.elim λds h=>y3 h.1▸(o9 h.2).elim λd z=>⟨.a9 d,λF U z' z' hs=>HB (.inl ⟨ds,rfl,rfl⟩) (yF z.1) (vh (Ph (Eh _)) z.2.1) λa k t=>y4 hs,z.2.2⟩)
   λh=>(o9 h.2).elim λds h=>d6 h.1▸(o9 (z9 h.2).2).elim λd z=>
    have q:=l9 (z9 h.2).1;haveI g:=Hh q.1
    ⟨.a9 d,λF U z' z' hs=>eO (DH g (dg (List.getElem?_eq_some_iff.mp z.1).1 (Ph (Eh _).symm))) (rL (kg) (rL z.1 rfl)) ⟨Vd (by decide) g,Hh q.2⟩ λa k t=>y4 hs,z.2⟩)
 λh=>(o9 h.2).elim λs h=>MU h.1▸(o9 h.2).elim λτ h=>i6 h.1▸(o9 h.2).elim λo q=>(o9 q.2).elim λf h=>(o9 h.2).elim λv z=>⟨v,λF U z' z' hs=>qG (q.1.trans (yh _ (eM h.1))) z.1 λa k t=>y4 hs,z.2⟩
inductive RD X f(a b)(Q:Jh->Prop):Prop
 |mk d (O:∀F U,Q5 F U X f a b (.a9 d) X) (q:Q d)
theorem bS{f:Nh->Nh->ca Nh}{g:Dh->Dh->Jh}{R:Dh->Dh->Prop}{Q:Jh->Prop}(h:two a b λi j=>R i j/\Q (g i j))(O:∀F U i j,R i j->Q5 F U X f (.a9 (.int i)) (.a9 (.int j)) (.a9 (g i j)) X):RD X f a b Q:=
 (vZ h).elim λi h=>h.elim λj h=>⟨g i j,λF U=>h.1▸h.2.1▸O F U i j h.2.2.1,h.2.2.2⟩
theorem dC{Q:Dh->Dh->Prop}(h:two a b Q):two a b λi j=>True/\Q i j:=by
 obtain⟨i,j,rfl,rfl,q⟩:=vZ h;exact⟨trivial,q⟩
theorem vJ{Q:Jh->Prop}(h:Qy c a b Q):RD (c.cx vs) (yc .Add) a b Q:=(L9 h).elim
 (λh=>h.elim λi h=>(o9 h.2).elim λj q=>⟨_,λF U=>r8 h.1▸r8 q.1▸MB,q.2⟩)
 λh=>(L9 h.2).elim (λh=>h.elim λds h=>(o9 h.2).elim λes q=>⟨_,λF U=>d6 h.1▸d6 q.1▸pQ q.2.1.1 q.2.1.2 q.2.2.1,q.2.2.2⟩)
  λh=>(z5 h.2).elim λds h=>(z5 h.2).elim λes q=>⟨_,λF U=>ZU h.1 q.1 q.2.1,q.2.2⟩
theorem FE{op:O2}{Q:Jh->Prop}(h:dp op c a b Q):RD (c.cx vs) (yc op.op) a b Q:=by
 cases op with
 |add=>exact vJ h
 |sub=>exact bS (dC h) λF U i j z'=>xB
 |mul=>exact bS h λF U i j q=>CB q
 |mod=>exact bS h λF U i j q=>DB q
 |fdiv=>exact bS h λF U i j q=>LB q.1 q.2
inductive xp X f(a b)(Q:Kh->Prop):Prop
 |mk t (O:∀F U,Q5 F U X f a b (.a9 (.bool t)) X) (q:Q t)
theorem JN:Y0 d e=yf d e:=by
 unfold Y0;cases h:eV d with
 |none=>rfl
 |some i=>
  cases q:eV e with
  |none=>rfl
  |some j=>
   exact rL (gZ h) (rL (gZ q) rfl)
theorem xI{Q:Jh->Prop}(h:dv c a Q):∃d,Dv c.σ a d/\Q d:=(L9 h).elim (λh=>h.elim λd h=>⟨d,.inl (N6 h.1),h.2⟩) λh=>(z5 h.2).elim λds q=>⟨_,.inr ⟨ds,rfl,q.1⟩,q.2⟩
theorem IN{Q:Kh->Prop}(h:HD c a b Q):∃d e,Dv c.σ a d/\Dv c.σ b e/\lay d=true/\lay e=true/\Q (yf d e):=
 (xI h).elim λd h=>(xI h.2).elim λe q=>haveI z:=l9 (z9 q.2).1;⟨d,e,h.1,q.1,z.1,z.2,JN▸(z9 q.2).2⟩
theorem cS{f:Nh->Nh->ca Nh}{g:Dh->Dh->Kh}{Q:Kh->Prop}(h:two a b λi j=>Q (g i j))(O:∀F U i j,Q5 F U X f (.a9 (.int i)) (.a9 (.int j)) (.a9 (.bool (g i j))) X):xp X f a b Q:=
 (vZ h).elim λi h=>h.elim λj h=>⟨g i j,λF U=>h.1▸h.2.1▸O F U i j,h.2.2⟩
theorem SR.OS(S:SR W σ G h)(e:σ τ=some o)(a:o.ad (G.μ τ) (G.μ τ)):(G.μ τ==sysModules)=false:=by
 cases w:o.wr with
 |true=>exact S.bT e (.inl w) a
 |false=>exact(S.O5 _ o _ e w a).elim λob z=>S.bT e (.inr (S.fX _ _ _ z)) a
theorem oN{Q:Kh->Prop}(h:Os c a b Q):∃t,(∀F U,Q5 F U (c.cx vs) (Jf .In) a b (.a9 (.bool t)) (c.cx vs))/\(∀F U,Q5 F U (c.cx vs) (Jf .NotIn) a b (.a9 (.bool (!t))) (c.cx vs))/\Q t:=(L9 h).elim
 (λh=>h.elim λτ h=>i6 h.1▸(o9 h.2).elim λo q=>(L9 q.2).elim
  (λh=>h.elim λp h=>(o9 h.2).elim λe z=>N6 z.1▸z.2.elim λds w=>have y:=l9 (z9 w.2).1;have l:= .inr ⟨τ,p.1,rfl,w.1▸q.1.trans (yh _ (Li h.1))⟩;⟨_,λF U=>JB y.1 y.2 l,λF U=>HS y.1 y.2 l,(z9 w.2).2⟩)
  λh=>(L9 h.2).elim
   (λh=>h.elim λp h=>(o9 h.2).elim λk z=>r8 z.1▸⟨_,λF U=>bI q.1 ((yh _ (M0 h.1)).trans rfl) λG g S=>S.OS q.1 (M0 h.1▸rfl),λF U=>mV q.1 ((yh _ (M0 h.1)).trans rfl) λG g S=>S.OS q.1 (M0 h.1▸rfl),z.2⟩)
   λh=>(o9 h.2).elim λp h=>(o9 h.2).elim λk z=>r8 z.1▸⟨_,λF U=>bI q.1 ((yh _ (g3 h.1)).trans rfl) λG g S=>S.OS q.1 (g3 h.1▸rfl),λF U=>mV q.1 ((yh _ (g3 h.1)).trans rfl) λG g S=>S.OS q.1 (g3 h.1▸rfl),z.2⟩)
 λh=>(o9 h.2).elim λe h=>N6 h.1▸(L9 h.2).elim
  (λh=>h.elim λds h=>y3 h.1▸have y:=l9 (z9 h.2).1;⟨_,λF U=>JB y.1 y.2 (.inl ⟨ds,rfl,rfl⟩),λF U=>HS y.1 y.2 (.inl ⟨ds,rfl,rfl⟩),(z9 h.2).2⟩)
  λh=>(o9 h.2).elim λds h=>d6 h.1▸have y:=l9 (z9 h.2).1;⟨_,λF U=>gO y.1 y.2,λF U=>kV y.1 y.2,(z9 h.2).2⟩
theorem hN{Q:Kh->Prop}(h:Ks a b Q):∃d,a= .a9 d/\b= .a9 .none/\Q (isNone d):=
 (o9 h).elim λe h=>(o9 (z9 h.2).2).elim λd q=>⟨d,N6 q.1,(N6 h.1).trans (yh _ (kK (z9 h.2).1)),q.2⟩
theorem kM{op:C2}{Q:Kh->Prop}(h:kr op c a b Q):xp (c.cx vs) (Jf op.op) a b Q:=by
 cases op with
 |eq=>exact(IN h).elim λd z=>z.elim λe z=>⟨_,λF U=>av z.2.2.1 z.2.2.2.1 z.1 z.2.1,z.2.2.2.2⟩
 |ne=>exact(IN (Q:=λt=>Q _) h).elim λd z=>z.elim λe z=>⟨_,λF U=>Uw z.2.2.1 z.2.2.2.1 z.1 z.2.1,z.2.2.2.2⟩
 |lt=>exact cS h λF U i j=>Vw
 |le=>exact cS h λF U i j=>Ww
 |gt=>exact cS h λF U i j=>Yw
 |ge=>exact cS h λF U i j=>Zw
 |isin=>obtain⟨t,g,m,q⟩:=oN h;exact⟨_,g,q⟩
 |notin=>obtain⟨t,g,m,q⟩:=oN (Q:=λt=>Q _) h;exact⟨_,m,q⟩
 |isv=>obtain⟨d,rfl,rfl,q⟩:=hN h;exact⟨_,λF U=>Xw,q⟩
 |isnot=>obtain⟨d,rfl,rfl,q⟩:=hN (Q:=λt=>Q _) h;exact⟨_,λF U=>gK,q⟩
end
section
variable{P:w8}{n i j k:Mh}{nm:xh Str}{c c':IC}{τ:Tg}{o o':d9}{a b r v:AV}{as vs:xh AV}{F:Fm}{X:Cx}{U:Tg->Prop}{d e:Jh}{h:Pf}{σ:Tg->Ah d9}
theorem R0{Q:AV->Prop}(h:a1 vs Q):∃a,vs=[a]/\Q a:=by
 cases vs with
 |nil=>exact h.elim
 |cons a as=>cases as with
  |nil=>exact⟨a,rfl,h⟩
  |cons b _=>exact h.elim
theorem HM{Q:AV->AV->Prop}(h:a2 vs Q):∃a b,vs=[a,b]/\Q a b:=by
 cases vs with
 |nil=>exact h.elim
 |cons a as=>cases as with
  |nil=>exact h.elim
  |cons b bs=>cases bs with
   |nil=>exact⟨a,b,rfl,h⟩
   |cons d _=>exact h.elim
theorem ZE{Q:AV->Prop}{R:AV->AV->Prop}(h:qp vs Q R):(∃a,vs=[a]/\Q a)\/∃a b,vs=[a,b]/\R a b:=by
 cases vs with
 |nil=>exact h.elim
 |cons a as=>cases as with
  |nil=>exact .inl ⟨a,rfl,h⟩
  |cons b bs=>cases bs with
   |nil=>exact .inr ⟨a,b,rfl,h⟩
   |cons d _=>exact h.elim
def BF.val:BF->Nh
 | .len=> .builtin "len"
 | .sorted=> .builtin "sorted"
 | .list=> .type "list"
 | .tuple=> .type "tuple"
 | .range=> .type "range"
 | .min=> .builtin "min"
 | .max=> .builtin "max"
 | .int=> .type "int"
inductive R1(nm:xh Str)(c:IC)(f:Nh)(vs:xh AV)(Q:AV->Prop):Prop
 |mk (v:AV) (O:∀F U,O4 F U (c.cx nm) (λxs=>call f xs []) vs v (c.cx nm)) (q:Q v)
theorem Ti{ds:xh Jh}{n:Mh}(h:ds.length<=n):(ds.map AV.a9).length<=n:=vh (Ph (Eh _)) h
theorem tJ{Q:AV->Prop}(h:My c a Q):R1 nm c (.builtin "len") [a] Q:=(L9 h).elim
 (λh=>h.elim λds h=>⟨_,λF U=>y3 h.1▸Eh _▸aI (.inl ⟨ds,rfl,rfl⟩) (Ti h.2.1),h.2.2⟩)
 λh=>(GZ h.2).elim λvs q=>⟨_,λF U=>aI q.1 q.2.1,q.2.2⟩
theorem uM{Q:AV->Prop}(h:GI c a Q):R1 nm c (.type "list") [a] Q:=(L9 h).elim
 (λh=>h.elim λk h=>⟨_,λF U=>SP h.1▸EX h.2.1.1 h.2.1.2,h.2.2⟩)
 λh=>(L9 h.2).elim
  (λh=>h.elim λτ h=>(o9 h.2).elim λo q=>(L9 q.2).elim
   (λw=>w.elim λp w=>haveI z:=z9 w.2;⟨_,λF U=>i6 h.1▸lV (q.1.trans ((yh _ (g3 w.1)).trans (z.1▸rfl))) z.2.1,z.2.2⟩)
   λw=>(o9 w.2).elim λp w=>w.2.elim λds z=>⟨_,λF U=>dO (.inr ⟨τ,p.1,i6 h.1,z.1▸q.1.trans (yh _ (Li w.1))⟩) z.2.1,z.2.2⟩)
  λh=>(o9 h.2).elim λds h=>⟨_,λF U=>dO (.inl ⟨ds,y3 h.1,rfl⟩) h.2.1,h.2.2⟩
theorem qJ{Q:AV->Prop}(h:Jy c a Q):R1 nm c (.type "tuple") [a] Q:=(L9 h).elim
 (λh=>h.elim λds h=>⟨.a9 _,λF U=>by refine rL (d6 h.1) ?_;exact xY,h.2⟩)
 λh=>(z5 h.2).elim λds q=>⟨_,λF U=>dK q.1 q.2.1,q.2.2⟩
theorem rJ{f:BF}{Q:AV->Prop}(h:Ky f c vs Q):R1 nm c f.val vs Q:=by
 cases f with
 |len=>obtain⟨a,rfl,h⟩:=R0 h;exact tJ h
 |sorted=>obtain⟨a,rfl,h⟩:=R0 h;obtain⟨ns,l,z,q⟩:=GO h;exact⟨_,λF U=>cO l z,q⟩
 |list=>obtain⟨a,rfl,h⟩:=R0 h;exact uM h
 |tuple=>obtain⟨a,rfl,h⟩:=R0 h;exact qJ h
 |range=>obtain⟨a,rfl,h⟩:=R0 h;obtain⟨i,e,q⟩:=o9 h;exact⟨_,λF U=>r8 e▸fK,q⟩
 |min=>obtain⟨a,b,rfl,h⟩:=HM h;obtain⟨i,j,rfl,rfl,q⟩:=vZ h;exact⟨_,λF U=>FB,q⟩
 |max=>obtain⟨a,b,rfl,h⟩:=HM h;obtain⟨i,j,rfl,rfl,q⟩:=vZ h;exact⟨_,λF U=>GB,q⟩
 |int=>obtain⟨a,rfl,h⟩:=R0 h;obtain⟨i,e,q⟩:=o9 h;exact⟨.a9 _,λF U=>by refine rL (r8 e) ?_;exact IB,q⟩
inductive RU(P:w8)(nm:xh Str)(c:IC)(R:Cx->Prop)(K:IC->Prop):Prop
 |mk (c':IC) (E:R (c'.cx nm)) (i:Inv P c'.σ) (r:c'.ρ=c.ρ) (k:K c')
theorem a7{K:IC->Prop}{R:Cx->Prop}(h:put c τ o K)(I:Inv P c.σ)(f:nU P τ o)(E:R ⟨(c.cx nm).ρ,up (c.cx nm).σ τ o⟩):RU P nm c R K:=
 (bG h).elim λc' q=>⟨c',(show(c'.cx _)=_ by unfold IC.cx;rw [q.1,q.2.1])▸E,q.1▸I.up f,q.2.1,q.2.2⟩
theorem Z6(f:nU P τ o)(h:w6 τ o')(w:∀D as,o'= .inst D as->∃as',o= .inst D as')(hd:V6 τ=false\/∀m,o'= .p9 true m->∃f,o= .p9 true f/\∀j v,m j=some v->f j=some v):nU P τ o':=
 ⟨h,λD as e=>(w D _ e).elim λas' e=>f.cls D _ e,λκ m e p=>hd.elim (λhd=>by rw [e] at hd;cases hd) λhd=>(hd _ p).elim λg z=>λj v q=>f.w7 _ g e z.1 j v (z.2 j v q)⟩
section
variable{K':Type}[xg K']{f:K'->Ah AV}{x:K'}{U:Tg->Prop}
theorem H7(h:∀k v,f k=some v->v.keeps U)(m:a.keeps U):∀k v,f9 f x a k=some v->v.keeps U:=λk v e=>by
 unfold f9 at e;split at e
 ·exact Bh e▸m
 ·exact h k v e
theorem WZ:∀k v,H9 f x k=some v->f k=some v:=λk v e=>by
 unfold H9 at e;split at e
 ·cases e
 ·exact e
end
theorem yK{d:Jh}{Q:KI->Prop}(h:MA d Q):∃k,d=KI.a9 k/\Q k:=(L9 h).elim (λh=>h.elim λi h=>⟨.int i,gZ h.1,h.2⟩)
 λh=>(L9 h.2).elim (λh=>h.elim λi h=>⟨.str i,BS h.1,h.2⟩) λh=>(o9 h.2).elim λds h=>h.2.elim λl q=>⟨.tup l,(AS h.1).trans (yh _ q.1),q.2⟩
theorem tF{ds:xh Jh}{Q:xh KI->Prop}(h:Eu ds Q):∃m,ds=m.map KI.a9/\Q m:=by
 induction ds generalizing Q with
 |nil=>exact⟨[],rfl,h⟩
 |cons d _ i=>exact(yK h).elim λk h=>(i h.2).elim λm q=>⟨k::m,List.cons_eq_cons.mpr ⟨h.1,q.1⟩,q.2⟩
theorem TX{Q:xh KI->Prop}(h:key a Q):∃k,a= .a9 (.tuple (k.map KI.a9))/\Q k:=(o9 h).elim λds h=>(tF h.2).elim λk q=>⟨k,q.1▸d6 h.1,q.2⟩
theorem I6{Q:Tg->d9->Prop}(h:bO c a Q):∃τ o,a= .g9 τ/\c.σ τ=some o/\Q τ o:=(o9 h).elim λτ h=>(o9 h.2).elim λo q=>⟨τ,o,i6 h.1,q⟩
theorem XX{Q:Tg->Kh->xh AV->Prop}(h:FK c a Q):∃τ w vs,a= .g9 τ/\c.σ τ=some (.list w vs)/\Q τ w vs:=(I6 h).elim λτ h=>h.elim λo h=>(o9 h.2.2).elim λp q=>⟨τ,p.1,p.2,h.1,h.2.1.trans (yh _ (Li q.1)),q.2⟩
section
variable{K:IC->Prop}{f:Dh->Ah AV}{g:Str->Ah AV}{t:xh KI->Ah AV}{l:xh (Dh×AV)}{k:Dh}{s:Str}{ks:xh KI}
theorem sC(I:Inv P c.σ)(m:hk τ a=true)(hd:V6 τ=false)(e:c.σ τ=some (.p9 true f))(h:f7 k=true/\put c τ (.p9 true (f9 f k a)) K):RU P nm c (λX=>∀F U,cL F U (c.cx nm) Zc (.g9 τ) (.a9 (.int k)) a X) K:=
 a7 h.2 I (Z6 (I _ _ e) (H7 (I _ _ e).hold (W6 m)) (λz' z' e=>(by nomatch e)) (.inl hd)) λF U=>uG e h.1
theorem rC(I:Inv P c.σ)(m:hk τ a=true)(hd:V6 τ=false)(e:c.σ τ=some (.M9 true l))(h:l.length<=1000000/\put c τ (.M9 true (R6 l k a)) K):RU P nm c (λX=>∀F U,cL F U (c.cx nm) Zc (.g9 τ) (.a9 (.int k)) a X) K:=
 a7 h.2 I (Z6 (I _ _ e) (LZ (I _ _ e).hold (W6 m)) (λz' z' e=>(by nomatch e)) (.inl hd)) λF U=>sG e h.1
theorem qC(I:Inv P c.σ)(m:hk τ a=true)(hd:V6 τ=false)(e:c.σ τ=some (.s8 g))(hs:s∈SK)(h:put c τ (.s8 (f9 g s a)) K):RU P nm c (λX=>∀F U,cL F U (c.cx nm) Zc (.g9 τ) (.a9 (.str s)) a X) K:=
 a7 h I (Z6 (I _ _ e) (H7 (I _ _ e).hold (W6 m)) (λz' z' e=>(by nomatch e)) (.inl hd)) λF U=>pG e hs
theorem pC(I:Inv P c.σ)(m:hk τ a=true)(hd:V6 τ=false)(e:c.σ τ=some (.W9 t))(h:ks∈TK/\put c τ (.W9 (f9 t ks a)) K):RU P nm c (λX=>∀F U,cL F U (c.cx nm) Zc (.g9 τ) (.a9 (.tuple (ks.map KI.a9))) a X) K:=
 a7 h.2 I (Z6 (I _ _ e) (H7 (I _ _ e).hold (W6 m)) (λz' z' e=>(by nomatch e)) (.inl hd)) λF U=>mG e h.1
theorem xC(I:Inv P c.σ)(e:c.σ τ=some (.p9 true f))(h:(f k).isSome=true/\put c τ (.p9 true (H9 f k)) K):RU P nm c (λX=>∀F U,KD F U (c.cx nm) delItem (.g9 τ) (.a9 (.int k)) X) K:=
 a7 h.2 I (Z6 (I _ _ e) (λk v q=>(I _ _ e).hold k v (WZ k v q)) (λz' z' e=>(by nomatch e)) (.inr λm e=>⟨_,rfl,λj v q=>WZ j v (by cases e;exact q)⟩)) λF U=>vG e h.1
theorem wC(I:Inv P c.σ)(e:c.σ τ=some (.W9 t))(h:(t ks).isSome=true/\put c τ (.W9 (H9 t ks)) K):RU P nm c (λX=>∀F U,KD F U (c.cx nm) delItem (.g9 τ) (.a9 (.tuple (ks.map KI.a9))) X) K:=
 a7 h.2 I (Z6 (I _ _ e) (λk v q=>(I _ _ e).hold k v (WZ k v q)) (λz' z' e=>(by nomatch e)) (.inr λf e=>(by nomatch e))) λF U=>oG e h.1
end
theorem MR{σ:Tg->Ah d9}{w:Kh}{β:Type}{m:Kh->β->d9}{x:β}(q:σ τ=some o)(h:o=m w x)(hw:w=true):σ τ=some (m true x):=hw▸h▸q
theorem AH{K:IC->Prop}(h:gq c b r a K)(I:Inv P c.σ):RU P nm c (λX=>∀F U,cL F U (c.cx nm) Zc b r a X) K:=
 (I6 h).elim λτ h=>h.elim λo h=>h.1▸haveI z:=z9 h.2.2;have y:=l9 z.1;haveI m:=P5 y.2;(L9 z.2).elim
  (λw=>w.elim λp w=>(o9 w.2).elim λk x=>r8 x.1▸sC I y.1 m (MR h.2.1 (M0 w.1) (z9 x.2).1) (z9 x.2).2)
  λw=>(L9 w.2).elim (λw=>w.elim λp w=>(o9 w.2).elim λk x=>r8 x.1▸rC I y.1 m (MR h.2.1 (g3 w.1) (z9 x.2).1) (z9 x.2).2)
  λw=>(L9 w.2).elim (λw=>w.elim λp w=>(o9 w.2).elim λk x=>MU x.1▸qC I y.1 m (eM w.1▸h.2.1) (Hh (z9 x.2).1) (z9 x.2).2)
  λw=>(o9 w.2).elim λp w=>(TX w.2).elim λk x=>x.1▸pC I y.1 m (CR w.1▸h.2.1) x.2
theorem EH{K:IC->Prop}(h:iq c b r K)(I:Inv P c.σ):RU P nm c (λX=>∀F U,KD F U (c.cx nm) delItem b r X) K:=
 (I6 h).elim λτ h=>h.elim λo h=>h.1▸(L9 h.2.2).elim
  (λw=>w.elim λp w=>(o9 w.2).elim λk x=>r8 x.1▸xC I (MR h.2.1 (M0 w.1) (z9 x.2).1) (z9 x.2).2)
  λw=>(o9 w.2).elim λp w=>(TX w.2).elim λk x=>x.1▸wC I (CR w.1▸h.2.1) x.2
variable{c1:IC}{u:Mo}{ws:xh AV}{Y:Cx}{G:Gh}{name:Str}
theorem yO{id:Cc}{w:Kh}{l:xh (Dh×AV)}{x:Cx}(e:x.σ τ=some (.M9 w l))(f:Slot "dict" name id)(h:typeOf (.builtin id)=pure (.type "method_descriptor")):Mt F x (.g9 τ) name (.builtin id):=λG s y z' Q S r q=>by
 obtain rfl:y= .ref _:=r;obtain⟨kvs,hd,_⟩:=S.sr.g9 _ _ e;exact getMethod_builtin hd.mapOf.typeIs PySem.F.plainAttrs_dict f h (λa z=>by cases z;exact let⟨o,_,_,ho,hc,_⟩:=hd;⟨o,ho,hc.2.1⟩) q
inductive RM P nm(f:LM)(c1 c:IC) a vs(K:KE):Prop
 |mk id v c' (M:∀F,Mt F (c1.cx nm) a f.nm (.builtin id)) (O:∀F U,O4 F U (c.cx nm) (λxs=>call (.builtin id) xs []) (a::vs) v (c'.cx nm)) (i:Inv P c'.σ) (r:c'.ρ=c.ρ) (k:K v c')
theorem RU.rm{f:LM}{K:KE}{id:Cc}{v:AV}(M:∀F,Mt F (c1.cx nm) a f.nm (.builtin id))(h:RU P nm c (λX=>∀F U,O4 F U (c.cx nm) (λxs=>call (.builtin id) xs []) (a::vs) v X) (K v)):RM P nm f c1 c a vs K:=
 h.casesOn λc' E i r k=>⟨id,v,c',M,E,i,r,k⟩
theorem zT{w g:Kh}{l:xh AV}(f:nU P τ (.list w l))(h:∀y∈ws,y.keeps λt=>hb τ t=true):nU P τ (.list g ws):=⟨h,(λz' z' e=>(by nomatch e)),(λz' z' z' e=>(by nomatch e))⟩
theorem uQ{K:KE}{l:xh AV}(I:Inv P c.σ)(M:∀F,Mt F (c1.cx nm) (.g9 τ) (S "append") (.builtin "list.append"))(e:c.σ τ=some (.list true l))(f:hk τ v=true)(h:l.length<=1000000/\put c τ (.list true (l++[v])) (K (.a9 .none))):RM P nm .append c1 c (.g9 τ) [v] K:=
 RU.rm M (a7 h.2 I (zT (I _ _ e) λy m=>(List.mem_append.mp m).elim ((I _ _ e).hold y) λm=>List.mem_singleton.mp m▸W6 f) λF U=>nO e h.1)
theorem tQ{K:KE}{l:xh AV}{ds:xh Jh}(I:Inv P c.σ)(M:∀F,Mt F (c1.cx nm) (.g9 τ) (S "extend") (.builtin "list.extend"))(e:c.σ τ=some (.list true l))(hl:Ls c.σ v (ds.map .a9))(h:l.length+ds.length<=1000000/\put c τ (.list true (l++ds.map .a9)) (K (.a9 .none))):RM P nm .extend c1 c (.g9 τ) [v] K:=
 RU.rm M (a7 h.2 I (zT (I _ _ e) λy m=>(List.mem_append.mp m).elim ((I _ _ e).hold y) (mW y)) λF U=>kO e hl (vh (Ph (yh _ (Eh _))) h.1))
theorem YG{K:KE}{l:xh AV}(I:Inv P c.σ)(M:∀F,Mt F (c1.cx nm) (.g9 τ) (S "pop") (.builtin "list.pop"))(e:c.σ τ=some (.list true (l++[v])))(h:l.length<=1000000/\put c τ (.list true l) (K v)):RM P nm .pop c1 c (.g9 τ) [] K:=
 RU.rm M (a7 h.2 I (zT (I _ _ e) λy m=>(I _ _ e).hold y (Zh _ m)) λF U=>AB e h.1)
theorem mT{f:LM}{K:KE}{g:Ah AV}{d:AV}(I:Inv P c.σ)(M:∀F,Mt F (c1.cx nm) a f.nm (.builtin "dict.get"))(h:Ci g (λv=>K v c) (K d c))(O:∀F U,O4 F U (c.cx nm) (λxs=>call (.builtin "dict.get") xs []) (a::vs) (g.getD d) (c.cx nm)):RM P nm f c1 c a vs K:=
 (L9 h).elim (λh=>h.elim λv h=>⟨_,v,c,M,by rw [h.1] at O;exact O,I,rfl,h.2⟩) λh=>⟨_,d,c,M,by rw [h.1] at O;exact O,I,rfl,h.2⟩
theorem DX{τ f:Tg}(h:AV.g9 τ= .g9 f):τ=f:=Bh (yh AV.obj? h)
theorem PZ{Q:Tg->xh AV->Prop}{R:Prop}(h:bR c1 c a Q)(k:∀τ w v l,a= .g9 τ->c1.σ τ=some (.list w v)->c.σ τ=some (.list true l)->Q τ l->R):R:=
 (XX h).elim λτ h=>h.elim λw h=>h.elim λvs h=>(XX h.2.2).elim λf q=>q.elim λg q=>q.elim λl q=>
  haveI z:=z9 q.2.2
  k _ w _ l h.1 h.2.1 (DX (h.1.symm.trans q.1)▸z.1▸q.2.1) (DX (h.1.symm.trans q.1)▸z.2)
theorem vK{K:KE}(h:Hv .get c1 c a vs K)(I:Inv P c.σ):RM P nm .get c1 c a vs K:=
 (I6 h).elim λτ h=>h.elim λA h=>(I6 h.2.2).elim λs q=>q.elim λo q=>h.1▸have e:=(DX (h.1.symm.trans q.1)).symm▸q.2.1;(L9 q.2.2).elim
  (λw=>w.elim λg w=>(o9 w.2).elim λf x=>have M:=λF=>xO (CR w.1▸h.2.1) Fe rfl;have l:=CR x.1▸e
   (ZE x.2).elim (λq=>q.elim λr q=>(TX q.2).elim λm z=>q.1▸z.1▸mT I M z.2 λF U=>nG l) λq=>q.elim λr q=>q.elim λd q=>(TX q.2).elim λm z=>q.1▸z.1▸mT I M z.2 λF U=>eK l)
  λw=>(o9 w.2).elim λp w=>(o9 w.2).elim λt x=>have y:=z9 x.2;(HM y.2).elim λr z=>z.elim λd z=>(o9 z.2).elim λk q=>z.1▸r8 q.1▸mT I (λF=>yO (g3 w.1▸h.2.1) Fe rfl) q.2 λF U=>tG (MR e (g3 x.1) y.1) rfl rfl λz' z'=> .rfl
theorem XG{f:LM}{K:KE}(h:Hv f c1 c a vs K)(I:Inv P c.σ):RM P nm f c1 c a vs K:=by
 cases f with
 |append=>exact(R0 h).elim λv h=>h.1▸PZ h.2 λτ w z' l z e g q=>z▸uQ I (λF=>LX (.inr ⟨τ,w,rfl,e⟩) PySem.F.slot_list_append rfl) g (z9 q).1 (z9 q).2
 |extend=>exact(R0 h).elim λv h=>h.1▸PZ h.2 λτ w z' l z e g q=>(z5 q).elim λds q=>z▸tQ I (λF=>LX (.inr ⟨τ,w,rfl,e⟩) PySem.F.slot_list_extend rfl) g q.1 q.2
 |pop=>exact List.isEmpty_iff.mp (z9 h).1▸PZ (z9 h).2 λτ w z' l z e g q=>q.elim λx q=>q.elim λv q=>z▸YG I (λF=>LX (.inr ⟨τ,w,rfl,e⟩) PySem.F.slot_list_pop rfl) (q.1▸g) q.2
 |get=>exact vK h I
theorem eN{Q:xh AV->Prop}(h:CD c u a Q):∃vs,(∀F,ND F (c.cx nm) a vs)/\(∀v∈vs,v.keeps (um u))/\Q vs:=(L9 h).elim
 (λh=>h.elim λτ h=>(o9 h.2).elim λo q=>(L9 q.2).elim
  (λw=>w.elim λp w=>have z:=z9 w.2;⟨p.2,λF=>i6 h.1▸aR (.inr ⟨τ,rfl,q.1.trans (yh _ ((Li w.1).trans (yh (λb=>d9.list b _) (P5 z.1))))⟩),z.2.1,z.2.2⟩)
  λw=>(o9 w.2).elim λp w=>have z:=z9 w.2;⟨_,λF=>i6 h.1▸EK (q.1.trans (yh _ ((g3 w.1).trans (yh (λb=>d9.M9 b _) (P5 z.1))))),lW,z.2⟩)
 λh=>(L9 h.2).elim (λh=>h.elim λk h=>⟨_,λF=>SP h.1▸gN h.2.1.1 h.2.1.2,lW,h.2.2⟩)
 λh=>(L9 h.2).elim (λh=>h.elim λds h=>⟨_,λF=>y3 h.1▸aR (.inl ⟨ds,rfl,rfl⟩),mW,h.2⟩)
 λh=>(o9 h.2).elim λds h=>⟨_,λF=>d6 h.1▸AF AL,mW,h.2⟩
structure FD where
 A:Kd
 env:Ub
 fa:xh Mh
 k:env.scope.kind= .function
abbrev FD.f(D:FD)(P:w8)(n:Mh):Fm:=⟨P.W,D.A,D.env,D.fa,n⟩
inductive RF P nm n u f as(c:IC)(K:KE):Prop
 |mk a c' (O:∀D:FD,O4 (D.f P n) (um u) (c.cx nm) (λxs=>call f xs []) as a (c'.cx nm)) (i:Inv P c'.σ) (r:c'.ρ=c.ρ) (k:K a c')
theorem O4.weak{f:xh Nh->ca Nh}{g:Tg->Prop}(h:∀τ,g τ->U τ)(O:O4 F U X f as a Y):O4 F g X f as a Y:=λG s xs S r=>Yh (O G s _ S r) (λv z' z=>z.casesOn λG' e l r q=>⟨G',e.weak h,l,r,q⟩) λz' z' z=>z
theorem CN{K:KE}{id:Mh}(h:ox P n id u as c K)(I:Inv P c.σ):RF P nm n u (.ref (P.fv id)) as c K:=by
 obtain⟨m,a,b',E,h⟩:=h;obtain⟨q,h⟩:=z9 h;haveI l:=l9 q;haveI f:=l9 l.1;obtain⟨E,g⟩:=E (YX I);refine⟨a,⟨c.ρ,c.t,b'⟩,λD=> ?_,(UY I g),rfl,h⟩;haveI O:=ZJ (F:=D.f P n) (c:=c.cx nm) (FZ▸E) ⟨I.wf,g.wf,λτ o e=>D0 e,λx v e=>DZ f.2 (λv h=>UO h) e⟩ (wQ l.2);rw [show Di _ (c.cx _).σ _=A4 _ _ from QY] at O;exact O.weak λτ h=>NO f.1 h
theorem US(I:Inv P c.σ)(hρ:(c.ρ.all λp=>nt τ p.2)=true)(H:w6 τ o)(hs:∀h,SZ τ=some h->∀g,c.σ h=some g->g.keeps (·≠τ)):UQ (c.cx nm) o τ where
 w:=d9.t9 (λt h=>(K5 h).2.2.1) H
 s:=λf o' n e=>by
  by_cases q:SZ τ=some f
  ·exact hs _ q _ e
  ·exact d9.t9 (λt h z=>q (z▸(K5 h).2.2.2)) (I _ _ e).hold
 r:=λx v e=>DZ hρ (λz' h=>Q7 h) e
inductive RS P nm(c:IC) τ o(K:IC->Prop):Prop
 |mk c' (L:(c.ρ.all λp=>nt τ p.2)=true->UQ (c.cx nm) o τ) (e:c'.cx nm=⟨(c.cx nm).ρ,up (c.cx nm).σ τ o⟩) (i:Inv P c'.σ) (r:c'.ρ=c.ρ) (k:K c')
theorem TP{K:IC->Prop}(h:put c τ o K)(I:Inv P c.σ)(f:nU P τ o)(L:(c.ρ.all λp=>nt τ p.2)=true->UQ (c.cx nm) o τ):RS P nm c τ o K:=
 (a7 (R:=λX=>X=_) h I f rfl).casesOn λc' E i r k=>⟨c',L,E,i,r,k⟩
theorem IP{K:IC->Prop}(h:tw c τ K o)(I:Inv P c.σ):RS P nm c τ o K:=by
 obtain⟨H,h⟩:=h;obtain⟨q,h⟩:=z9 h;haveI q:=l9 q;have f:nU P _ o:=cW H (P5 q.1) (P5 q.2);exact(L9 h).elim (λh=>h.elim λt h=>TP h.2.2 I f λhρ=>US I hρ H λg e l z=>h.2.1 _ (Bh (h.1.symm.trans e)▸z)) λh=>TP h.2 I f λhρ=>US I hρ H λg e=>(by nomatch h.1.symm.trans e)
variable{x:Str}{m m1 m2 m3:M}{s:Bg}
inductive RX{α:Type}(P:w8)(nm:xh Str)(c:IC)(R:α->Cx->Prop)(K:α->IC->Prop):Prop
 |mk (a:α) (c':IC) (E:R a (c'.cx nm)) (i:Inv P c'.σ) (r:c'.ρ=c.ρ) (k:K a c')
inductive RB P nm(R:Fl->Cx->Prop)(K:KB):Prop
 |mk a c' (E:R a (c'.cx nm)) (i:Inv P c'.σ) (k:K a c')
inductive CX(F:Fm)(U:Tg->Prop)(c:Cx)(ws:xh AV)(X:Cx):Expr->Prop
 |mk (elt x iter:Expr) (ifs:xh Expr) (sc:Bg) (pos:Cf) (c1:Cx) (E:gU F U c (HV F.W elt x iter ifs sc pos) ws c1 X.σ) (r:c1.ρ=X.ρ):CX F U c ws X (.ListComp elt [⟨x,iter,ifs,0⟩] sc pos)
section
variable(P n nm)
def Hp(f:Mo->IC->KE->Prop)(g:Bg->Expr->Kh):Prop:=∀u c K,f u c K->Inv P c.σ->RX P nm c (λa X=>∀(D:FD) ex,g D.env.scope ex=true->Ev (D.f P n) (um u) (c.cx nm) ex a X) K
def Gp(f:Mo->IC->KL->Prop)(g:Bg->xh Expr->Kh):Prop:=∀u c K,f u c K->Inv P c.σ->RX P nm c (λa X=>∀(D:FD) ex,g D.env.scope ex=true->VT (D.f P n) (um u) (c.cx nm) ex a X) K
def Bp(f:Mo->IC->KT->Prop)(g:Bg->Expr->Kh):Prop:=∀u c K,f u c K->Inv P c.σ->RX P nm c (λa X=>∀(D:FD) ex,g D.env.scope ex=true->It (D.f P n) (um u) (c.cx nm) ex a X) K
def Fp(f:Mo->IC->KO->Prop)(g:Bg->Expr->Kh):Prop:=∀u c K,f u c K->Inv P c.σ->RX P nm c (λa X=>∀(D:FD) ex,g D.env.scope ex=true->oY (D.f P n) (um u) (c.cx nm) ex a X) K
def Ip(f:Mo->IC->KL->Prop)(g:Bg->Expr->Kh):Prop:=∀u c K,f u c K->Inv P c.σ->RX P nm c (λa X=>∀(D:FD) ex,g D.env.scope ex=true->CX (D.f P n) (um (D8 c.ρ u)) (c.cx nm) a X ex) K
def Ep(f:Mo->IC->KP->Prop)(g:Bg->xh (Ah Expr)->xh Expr->Kh):Prop:=∀u c K,f u c K->Inv P c.σ->RX P nm c (λa X=>∀(D:FD) ks es pos,g D.env.scope ks es=true->eD (D.f P n) (um u) (c.cx nm) ks es pos a X) K
def Jp(f:Mo->IC->KB->Prop)(g:Bg->xh qf->Kh):Prop:=∀u c K,f u c K->Inv P c.σ->RB P nm (λa X=>∀(D:FD),D.env.func.isSome=true->∀s,g D.env.scope s=true->Xs (D.f P n) (um u) (c.cx nm) s a X) K
def yp(f:Mo->IC->KT->Prop)(g:Kh):Prop:=∀u c K,f u c K->Inv P c.σ->g=true->K true c
structure OK m:Prop where
 e:Hp P n nm (A9 P n m).e (u7 nm m).e
 l:Gp P n nm (A9 P n m).l (u7 nm m).l
 t:Bp P n nm (A9 P n m).t (u7 nm m).t
 o:Fp P n nm (A9 P n m).o (u7 nm m).o
 c:Ip P n nm (A9 P n m).c (u7 nm m).c
 p:Ep P n nm (A9 P n m).p (u7 nm m).p
 b:Jp P n nm (A9 P n m).b (u7 nm m).b
 z:yp P (A9 P n m).t (u7 nm m).z
end
theorem a4:Hp P n nm Sm.F.e Ck.F.e:=λu c K h=>h.elim
theorem p7:Gp P n nm Sm.F.l Ck.F.l:=λu c K h=>h.elim
theorem B7:Bp P n nm Sm.F.t Ck.F.t:=λu c K h=>h.elim
theorem U7:Fp P n nm Sm.F.o Ck.F.o:=λu c K h=>h.elim
theorem n7:Ip P n nm Sm.F.c Ck.F.c:=λu c K h=>h.elim
theorem o7:Ep P n nm Sm.F.p Ck.F.p:=λu c K h=>h.elim
theorem y5:Jp P n nm Sm.F.b Ck.F.b:=λu c K h=>h.elim
theorem A7:yp P Sm.F.t Ck.F.z:=λu c K h=>h.elim
theorem sJ{x y:Str}(h:decide (x≠y)=true):(x==y)=false:=yg (Hh h)
@[elab_as_elim] theorem JX{e:Expr}{Q:Expr->Prop}(h:DG s nm i e=true)(k:∀p,OZ (s.names.lookup (vn nm i))=true->(vn nm i==("__debug__"))=false->(vn nm i==("__classdict__"))=false->Q (.Name (vn nm i) p)):Q e:=
 b6 h λx p h=>
  haveI g:=l9 h;haveI f:=l9 g.1;haveI l:=l9 f.1;haveI e:=Hh l.1
  e▸k p (e▸l.2) (e▸sJ f.2) (e▸sJ g.2)
@[elab_as_elim] theorem u6{k:Expr->xh Expr->Cf->Kh}{e:Expr}{Q:Expr->Prop}(h:aP k e=true)(j:∀x es pos,k x es pos=true->Q (.Call x es [] pos)):Q e:=
 JW h λx es z' pos h=>List.isEmpty_iff.mp (l9 h).1▸j x _ _ (l9 h).2
@[elab_as_elim] theorem X4{f:Expr}{es:xh Expr}{Q:Expr->Prop}(h:gl s x f es=true)(k:∀p,s.names.lookup x=some .globalImplicit->(x==("__debug__"))=false->es.all KS=true->Q (.Name x p)):Q f:=
 b6 h λy p h=>
  haveI l:=l9 h;haveI g:=l9 l.1;haveI q:=l9 g.1
  Hh q.1▸k p (Hh q.2) (sJ g.2) l.2
theorem P8{es:xh Expr}(h:es.all KS=true){pos:Cf}{env:Ub}:(Td pos (Hf es env)).any (·.1)=false:=by
 induction es with
 |nil=>rfl
 |cons e _ i=>refine rL (R7 (l9 h).1) ?_;exact i (l9 h).2
@[elab_as_elim] theorem eI{f:Expr}{es:xh Expr}{pos:Cf}{k:Expr->Kh}{Q:Expr->Prop}(h:mt x f es pos k=true)(j:∀o a,oO o=true->es.all KS=true->(a.endLine==pos.line)=true->es.length+0<30->k o=true->Q (.Attribute o x a)):Q f:=
 G6 h λo y a h=>
  haveI q:=l9 h;haveI p:=l9 q.1;haveI t:=l9 p.1;haveI g:=l9 t.1;haveI l:=l9 g.1
  Hh l.1▸j o _ l.2 g.2 t.2 (Jg p.2) q.2
@[elab_as_elim] theorem v3{k:Expr->Kh}{es:xh Expr}{Q:xh Expr->Prop}(h:yX k es=true)(j:∀e,k e=true->Q [e]):Q es:=by
 cases es with
 |nil=>exact ff h
 |cons e es=>cases es with
  |nil=>exact j e h
  |cons _ _=>exact ff h
theorem AC(V:n4 nm):OK P n nm (.var i):=
 ⟨λu c K h I=>(o9 h).elim λa h=>⟨a,c,λD z' g=>JX g λp l f q=>WN ((B0 V).trans h.1) l f q,I,rfl,h.2⟩,p7,B7,U7,n7,o7,y5,A7⟩
theorem aE{c:Const}{d:Jh}(h:Mx c d=true){k:Mh}{p:Cf}:Ev F U X (.Constant c k p) (.a9 d) X:=by
 cases d with
 |none=>refine rL (Hh h) ?_;exact gE
 |bool b=>refine rL (Hh h) ?_;exact pE
 |int i=>refine rL (Hh h) ?_;exact uy
 |str x=>haveI q:=h;refine rL (Hh (l9 q).1) ?_;exact qy (l9 q).2
 |_=>exact ff h
theorem bB:OK P n nm (.con d):=⟨λu c K h I=>⟨_,c,λD z' f=>I3 f λk n p q=>aE q,I,rfl,h⟩,p7,B7,U7,n7,o7,y5,A7⟩
theorem ZC:OK P n nm (.tI k):=⟨λu c K h I=>⟨_,c,λD z' t=>b6 t λx p q=>
  haveI g:=l9 q;haveI f:=l9 g.1;haveI l:=l9 f.1
  (P.gd k (Hh g.2)).elim λv z=>lE ((Hh l.1)▸z.1) (Hh l.2) z.2 (sJ f.2),I,rfl,h⟩,p7,B7,U7,n7,o7,y5,A7⟩
theorem gB(A:OK P n nm m):OK P n nm (.D6 m i):=⟨λu c K h I=>(A.e u c _ h I).casesOn λa c1 E1 f r k1=>(FN k1).elim λτ q=>q.elim λC q=>q.elim λas q=>q.elim λv q=>
  haveI z:=P.cls C (((f _ _ q.2.1).cls C _ rfl).imp (·.1) (·.1))
  ⟨v,c1,λD z' y=>G6 y λo x p w=>
   haveI w1:=l9 w;have t:=l9 w1.1;haveI g:=l9 t.1;haveI l:=Hh g.2
   Hh g.1▸rE (q.1▸E1 D o w1.2) (wG q.2.1 z.1 (z.2 i l) l q.2.2.1) λenv=>T1 t.2,f,r,q.2.2.2⟩,p7,B7,U7,n7,o7,y5,A7⟩
theorem DC(B:OK P n nm m1)(A:OK P n nm m2):OK P n nm (.sub m1 m2):=⟨λu c K h I=>(B.e u c _ h I).casesOn λa c1 E1 t l k1=>(A.e _ _ _ k1 t).casesOn λb g E z r k2=>(EL k2).casesOn λv O q=>
  ⟨v,g,λD z' y=>z8 y λo i p w=>haveI w1:=l9 w;haveI f:=l9 w1.1;py (E1 D o f.2) (E D i w1.2) (λz'=>K9) x9 (O _ _ _ _ f.1),z,r.trans l,q⟩,p7,B7,U7,n7,o7,y5,A7⟩
@[elab_as_elim] theorem wM{op:O2}{k1 k2:Ck}{e:Expr}{Q:Expr->Prop}(h:uJ op k1 k2 s e=true)(j:∀l r p,k1.e s l=true->k2.e s r=true->Q (.BinOp l op.op r p)):Q e:=
 aQ h λl o r p w=>haveI w1:=l9 w;haveI f:=l9 w1.1;Hh f.1▸j l r p f.2 w1.2
theorem lN{op:O2}(h:op.qI=true):op= .add:=by cases op<;>first|rfl|cases h
theorem eB{op:O2}(G:OK P n nm m1)(C:OK P n nm m2):OK P n nm (.bin op m1 m2):=⟨λu c K h I=>(G.e u c _ h I).casesOn λa c1 E1 i t k1=>(C.e _ _ _ k1 i).casesOn λb f E B g k2=>(FE k2).casesOn λd O q=>
  ⟨.a9 d,f,λD z' A=>wM (A) λl r p w1 w=>By (E1 D l w1) (E D r w) (λz'=>K9) x9 (O _ _),B,g.trans t,q⟩,p7,B7,
 λu c K h I=>(G.e u c _ h I).casesOn λa c1 E1 i t k1=>(C.e _ _ _ k1 i).casesOn λb f E B g k2=>(GZ (z9 k2).2).elim λvs z=>(GZ z.2).elim λws y=>
  ⟨_,f,λD e A=>wM (show uJ _ (u7 _ _) (u7 _ _) _ _=true from A) λl r p w1 w=>lN (z9 k2).1▸(jy (E1 D l w1) (E D r w) (λz'=>K9) x9 z.1 y.1 y.2.1).own,B,g.trans t,y.2.2⟩,n7,o7,y5,A7⟩
@[elab_as_elim] theorem oM{op:C2}{k1 k2:Ck}{e:Expr}{Q:Expr->Prop}(h:xE op k1 k2 s e=true)(j:∀l r p,db op.op r=false->k1.e s l=true->k2.e s r=true->Q (.Compare l [op.op] [r] p)):Q e:=IW h λl f g p h=>by
 cases f with
 |nil=>exact ff h
 |cons o f=>cases f with
  |cons _ _=>exact ff h
  |nil=>cases g with
   |nil=>exact ff h
   |cons r g=>cases g with
    |cons _ _=>exact ff h
    |nil=>
     haveI t:=l9 h;haveI q:=l9 t.1;haveI w:=l9 q.1;exact Hh w.1▸j l r p (aT w.2) q.2 t.2
theorem cB{op:C2}(G:OK P n nm m1)(C:OK P n nm m2):OK P n nm (.cmp op m1 m2):=⟨
 λu c K h I=>(G.e u c _ h I).casesOn λa c1 E1 i w k1=>(C.e _ _ _ k1 i).casesOn λb f E B g k2=>(kM k2).casesOn λt O q=>
  ⟨_,f,λD z' A=>oM A λl r p w1 z y=>xy (E1 D l z) (E D r y) (λz'=>K9) x9 (O _ _) w1,B,g.trans w,q⟩,p7,
 λu c K h I=>(G.e u c _ h I).casesOn λa c1 E1 i w k1=>(C.e _ _ _ k1 i).casesOn λb f E B g k2=>(kM k2).casesOn λt O q=>
  ⟨t,f,λD z' A=>oM A λl r p w1 z y=>Qz (E1 D l z) (E D r y) (λz'=>K9) x9 (O _ _) w1,B,g.trans w,q⟩,U7,n7,o7,y5,λu c K h I q=>(by nomatch q)⟩
theorem TC(l:OK P n nm m):OK P n nm (.neg m):=⟨λu c K h I=>(l.e u c _ h I).casesOn λa c1 E1 f r k1=>(o9 k1).elim λi q=>
  ⟨_,c1,λD z' g=>s0 g λo x p w=>haveI w1:=l9 w;Hh w1.1▸XK (r8 q.1▸E1 D x w1.2) BB,f,r,q.2⟩,p7,B7,U7,n7,o7,y5,A7⟩
theorem OC(f:OK P n nm m):OK P n nm (.one m):=⟨λu c K h I=>(f.e u c _ h I).casesOn λa c1 E1 i r k1=>
  ⟨a,c1,λD z' g=>k5 g λo z' p w=>v3 w λe w=>ty (E1 D e w),i,r,k1⟩,p7,B7,U7,n7,o7,y5,A7⟩
theorem sT{t:Kh}{Q R:Prop}(h:t=true)(x:Q):if t=true then Q else R:=(Lh h).mpr x
theorem tT{t:Kh}{Q R:Prop}(h:t=false)(x:R):if t=true then Q else R:=(Fh (Bool.eq_false_iff.mp h)).mpr x
theorem WC(C:OK P n nm m1)(B:OK P n nm m2)(A:OK P n nm m3):OK P n nm (.ite m1 m2 m3):=⟨λu c K h I=>(C.t u c _ h I).casesOn λt c1 E1 z y k1=>(fY k1).elim
  (λq=>(B.e u _ _ q.2 z).casesOn λa g E i r k2=>⟨a,g,λD z' l=>EY l λx b o p w=>have w1:=l9 w;have f:=l9 w1.1;vy (E1 D x f.1) (sT q.1 (E D b f.2)),i,r.trans y,k2⟩)
  λq=>(A.e u _ _ q.2 z).casesOn λa g E i r k2=>⟨a,g,λD z' l=>EY l λx b o p w=>have w1:=l9 w;have f:=l9 w1.1;vy (E1 D x f.1) (tT q.1 (E D o w1.2)),i,r.trans y,k2⟩,p7,B7,U7,n7,o7,y5,A7⟩
@[elab_as_elim] theorem PR{k1 k2:Expr->Kh}{o:BoolOp}{p:Cf}{Q:xh Expr->Prop}{es:xh Expr}(h:(match es with|e1::e::rest=>decide (o= .And)&&k1 e1&&k2 (.BoolOp .And (e::rest) p)|_=>false)=true)(j:∀e1 e r,o= .And->k1 e1=true->k2 (.BoolOp .And (e::r) p)=true->Q (e1::e::r)):Q es:=by
 cases es with
 |nil=>exact ff h
 |cons e1 es=>cases es with
  |nil=>exact ff h
  |cons e r=>haveI l:=l9 h;haveI g:=l9 l.1;exact j _ _ r (Hh g.1) g.2 l.2
theorem VH(H:OK P n nm m1)(C:OK P n nm m2):OK P n nm (.uW m1 m2):=⟨λu c K h I=>(H.e u c _ h I).casesOn λa c1 E1 i l k1=>(o9 k1).elim λt q=>(fY q.2).elim
  (λz=>(C.e u _ _ z.2 i).casesOn λb y E B A k2=>⟨b,y,λD z' g=>k5 g λo z' p w=>PR (Q:=λes=>Ev _ _ _ (.BoolOp o es p) b _) w λe1 z' r f x G=>f▸wI (oZ q.1▸E1 D _ x) pX trivial (sT z.1 (E D _ G)),B,A.trans l,k2⟩)
  λz=>⟨a,c1,λD z' g=>k5 g λo z' p w=>PR (Q:=λes=>Ev _ _ _ (.BoolOp o es p) a _) w λe1 z' r f x z'=>f▸wI (oZ q.1▸E1 D _ x) pX trivial (tT z.1 ⟨oZ q.1,rfl⟩),i,l,z.2⟩,p7,B7,U7,n7,o7,y5,A7⟩
variable{W:Wd}
theorem sV{l:xh AV}(h:qd l.length 100=true){k:Mh}(f:100<=k):l.length<=k:=vh (Jg h) f
theorem QC:OK P n nm .nil:=⟨a4,λu c K h I=>⟨[],c,λD z' f=>List.isEmpty_iff.mp f▸SY,I,rfl,h⟩,λu c K h I=>⟨true,c,λD z' f=>ff f,I,rfl,h⟩,U7,n7,
 λu c K h I=>⟨[],c,λD z' z' z' f=>List.isEmpty_iff.mp (l9 f).1▸List.isEmpty_iff.mp (l9 f).2▸uB,I,rfl,h⟩,λu c K h I=>⟨.next,c,λD z' z' f=>List.isEmpty_iff.mp f▸QD,I,h⟩,λu c K h I z'=>h⟩
theorem TH(y:OK P n nm m1)(p:OK P n nm m2):OK P n nm (.cons m1 m2):=⟨a4,λu c K h I=>(y.e u c _ h I).casesOn λa c1 E1 i r k1=>(p.l _ _ _ k1 i).casesOn λas A E q z k2=>⟨a::as,A,λD l g=>by
  cases l with
  |nil=>exact ff g
  |cons e es=>haveI w1:=l9 g;haveI w:=l9 w1.1;exact i4 (E1 D e w.2) (E D _ w1.2) (λz'=>K9) x9 λenv=>R7 w.1,q,z.trans r,k2⟩,B7,U7,n7,o7,y5,A7⟩
theorem Bw(y:OK P n nm m1)(q:OK P n nm m2)(z:OK P n nm m3):OK P n nm (.pr m1 m2 m3):=⟨a4,p7,B7,U7,n7,λu c K h I=>(y.e u c _ h I).casesOn λa c1 E1 H t k1=>(q.e _ _ _ k1 H).casesOn λb J E i C k2=>(z.p _ _ _ k2 i).casesOn λps A E3 B r G=>⟨(a,b)::ps,A,λD k es pos g=>by
  cases k with
  |nil=>exact ff g
  |cons x k=>cases x with
   |none=>exact ff g
   |some x=>cases es with
    |nil=>exact ff g
    |cons e es=>haveI w1:=l9 g;haveI w:=l9 w1.1;exact kG (E1 D x w.1) (E D e w.2) (E3 D _ _ _ w1.2) (λz' h=>h) (λz'=>K9) (λz' h=>K9 (K9 h)) (AV.t9 (λz' h=>⟨h,K9 h⟩) x9) x9,B,(r.trans C).trans t,G⟩,y5,A7⟩
theorem CC(f:OK P n nm m):OK P n nm (.tup m):=⟨λu c K h I=>(f.l u c _ h I).casesOn λas c1 E1 i r k1=>(nZ (z9 k1).2).elim λds q=>⟨_,c1,λD z' g=>E7 g λes k p w=>YK (q.1▸E1 D _ w) (q.1▸sV (z9 k1).1 (by decide)),i,r,q.2⟩,p7,B7,U7,n7,o7,y5,A7⟩
theorem VC(g:OK P n nm m):OK P n nm (.lst m):=⟨λu c K h I=>(g.l u c _ h I).casesOn λas c1 E1 i r k1=>(nZ (z9 k1).2).elim λds q=>⟨_,c1,λD z' f=>GW f λes p w=>kE (q.1▸E1 D _ w) (q.1▸sV (z9 k1).1 (by decide)),i,r,q.2⟩,p7,B7,
 λu c K h I=>(g.l u c _ h I).casesOn λas c1 E1 i r k1=>⟨_,c1,λD z' f=>GW f λes p w=>(XF (E1 D _ w) (sV (z9 k1).1 (by decide))).own,i,r,(z9 k1).2⟩,n7,o7,y5,A7⟩
theorem Ly(f:BF):f.nm∈[S "len",S "sorted",S "list",S "tuple",S "zip",S "min",S "max",S "set",S "range",S "int",S "isinstance"]/\Hb f.nm=some f.val/\f.nm≠S "__name__":=by
 cases f<;>decide+kernel
theorem fi(f:BF):Kp W f.val:=by
 cases f<;>first|exact m6|exact lZ
theorem dB{f:BF}(t:OK P n nm m):OK P n nm (.blt f m):=⟨λu c K h I=>(t.l u c _ h I).casesOn λas c1 E1 i r k1=>(rJ k1).casesOn λv O q=>⟨v,c1,λD z' z=>u6 z λx es z' w=>haveI w1:=l9 w;X4 w1.1 λp l g y=>
  haveI B:=Ly f
  D3 (g7 (P.no _ B.1) B.2.1 B.2.2 l g) (fi f) (E1 D _ w1.2) (O _ _) λenv=>P8 y,i,r,q⟩,p7,B7,U7,n7,o7,y5,A7⟩
theorem eE{y:Str}{p:Cf}{t:Cc}(N:LD F X y p (.type t)):Ev F U X (.Name y p) (.typ t) X:=λG s S=>N G s S _ λs' e q=> .here (e▸S) rfl q
theorem Js:Hb (S "isinstance")=some (.builtin "isinstance")/\S "isinstance"≠S "__name__"/\S "isinstance"∈[S "len",S "sorted",S "list",S "tuple",S "zip",S "min",S "max",S "set",S "range",S "int",S "isinstance"]:=by decide+kernel
theorem CH:Hb (S "set")=some (.type "set")/\S "set"≠S "__name__"/\S "set"∈[S "len",S "sorted",S "list",S "tuple",S "zip",S "min",S "max",S "set",S "range",S "int",S "isinstance"]:=by decide+kernel
@[elab_as_elim] theorem CS{k:Expr->Expr->Kh}{Q:xh Expr->Prop}{es:xh Expr}(h:(match es with|[a,y]=>k a y|_=>false)=true)(j:∀a y,k a y=true->Q [a,y]):Q es:=by
 cases es with
 |nil=>exact ff h
 |cons a es=>cases es with
  |nil=>exact ff h
  |cons y es=>cases es with
   |nil=>exact j a y h
   |cons _ _=>exact ff h
theorem XC(A:OK P n nm m):OK P n nm (.CF m):=⟨λu c K h I=>(A.e u c _ h I).casesOn λa c1 E1 i r k1=>(GZ k1).elim λvs l=>⟨_,c1,λD z' G=>u6 G λx z' pos w=>CS (Q:=λes=>Ev _ _ _ (.Call x es [] _) _ _) w λe y w=>haveI w1:=l9 w;have g:=l9 w1.1;X4 g.1 λp t q C=>by
  haveI B:=Ly .list;haveI f:=l9 C;refine X4 g.2 (λH E z z' z'=> ?_) (l9 f.2).1;exact D3 (g7 (P.no _ Js.2.2) Js.1 Js.2.1 t q) m6 (i4 (E1 D e w1.2) (i4 (eE (g7 (P.no _ B.1) B.2.1 B.2.2 E z)) SY (λz' h=>h) trivial λenv=>rfl) (λz'=>K9) x9 λenv=>R7 f.1) (fO l.1) λenv=>P8 (es:=[e,.Name _ _]) ((gg _ _).mpr ⟨f.1,rfl⟩),i,r,l.2⟩,p7,B7,U7,n7,o7,y5,A7⟩
theorem Fw{id:Mh}(z:OK P n nm m):OK P n nm (.fn id m):=⟨λu c K h I=>(z.l u c _ h I).casesOn λas z' E1 i r k1=>(CN k1 i).casesOn λa C O y B k2=>⟨a,C,λD z' E=>u6 E λx es z' w=>
  haveI w1:=l9 w;have g:=l9 w1.1;haveI f:=l9 g.1;haveI l:=Hh f.2
  X4 g.2 λp t q A=>D3 (uO (P.gl _ (Hh f.1) l) t q) (nT (P.kp _ l)) (E1 D _ w1.2) (O D) λenv=>P8 A,y,B.trans r,k2⟩,p7,B7,U7,n7,o7,y5,A7⟩
theorem JG{id:Mh}(h:IG τ id=true):(τ= .house/\id<43)\/(τ= .bank/\43<=id/\id<72):=((Xg _ _).mp h).imp (λh=>⟨Hh (l9 h).1,Hh (l9 h).2⟩) λh=>⟨Hh (l9 h).1,Hh (l9 (l9 h).2).1,Hh (l9 (l9 h).2).2⟩
theorem EF(h:L6 o=true):∃D as,o= .inst D as:=(Option.isSome_iff_exists.mp h).elim λp q=>⟨p.1,p.2,eR q⟩
theorem GG{id:Mh}(I:Inv P c.σ)(e:c.σ τ=some o)(h:L6 o=true)(q:IG τ id=true):id<72/\∀D:FD,Mt (D.f P n) (c.cx nm) (.g9 τ) (pg.nm id) (.ref (P.fv id)):=by
 obtain⟨C,as,rfl⟩:=EF h;haveI f:=(I _ _ e).cls C _ rfl;have g:=P.cls C (f.imp (·.1) (·.1));rcases JG q with⟨rfl,l⟩|⟨rfl,l1,l2⟩
 ·haveI z:=f.resolve_right λz=>(by nomatch z.2);have l2:id<72:=dg l (by decide);exact⟨l2,λD=>gR e g.1 (z.1▸P.fc _ l) (P.fn _ l2).1 (P.fn _ l2).2⟩
 ·have z:=f.resolve_left λz=>(by nomatch z.2);exact⟨l2,λD=>gR e g.1 (z.1▸P.fb _ l1 l2) (P.fn _ l2).1 (P.fn _ l2).2⟩
theorem UC{id:Mh}(B:OK P n nm m1)(g:OK P n nm m2):OK P n nm (.met m1 id m2):=⟨λu c K h I=>(B.e u c _ h I).casesOn λa c1 E1 i A k1=>(g.l _ _ _ k1 i).casesOn λas z' E t J k2=>(I6 k2).elim λτ q=>q.elim λo q=>
  haveI z:=z9 q.2.2;haveI M:=GG i q.2.1 (l9 z.1).1 (l9 z.1).2
  (CN z.2 t).casesOn λb C O G r k=>⟨b,C,λD z' L=>u6 L λx es z' w=>eI w λo z' p l H y f=>XN (E1 D o (l9 f).1) (q.1▸M.2 D) (nT (P.kp _ (Ca M.1 (by decide)))) (λz'=>K9) x9 (E D _ (l9 f).2) (O D) (λenv=>P8 l) (λenv=>T1 p) H y,G,(r.trans J).trans A,k⟩,p7,B7,U7,n7,o7,y5,A7⟩
theorem Dw{f:LM}(z:OK P n nm m1)(l:OK P n nm m2):OK P n nm (.lm m1 f m2):=⟨λu c K h I=>(z.e u c _ h I).casesOn λa c1 E1 J y k1=>(l.l _ _ _ k1 J).casesOn λas z' E i G k2=>(XG k2 i).casesOn λid b A M O B r k=>
  ⟨b,A,λD z' H=>u6 H λx es z' w=>eI w λo z' q p C t g=>XN (E1 D o (l9 g).1) (M _) m6 (λz'=>K9) x9 (E D _ (l9 g).2) (O _ _) (λenv=>P8 p) (λenv=>T1 q) C t,B,(r.trans G).trans y,k⟩,p7,B7,U7,n7,o7,y5,A7⟩
theorem NC(q:OK P n nm m):OK P n nm (.own τ m):=⟨λu c K h I=>(q.o u c _ h I).casesOn λo z' E1 i r k1=>
  haveI z:=z9 k1;haveI y:=l9 z.1
  (IP z.2 i).casesOn λf L e l p k2=>⟨_,f,λD t g=>e.symm▸ry (E1 D _ g) (OY y.1) (L y.2),l,p.trans r,k2⟩,p7,B7,U7,n7,o7,y5,A7⟩
@[elab_as_elim] theorem LP{up:Kh}{k1 k2:Ck}{e:Expr}{Q:Expr->Prop}(h:zH up k1 k2 s e=true)(j:∀o x p q,k1.e s o=true->k2.e s x=true->Q (.Subscript o (match up with|true=> .Slice none (some x) none q|false=> .Slice none none (some x) q) p)):Q e:=
 z8 h λo i p w=>by
  refine ZR w λa b d q w=> ?_;cases up with
  |true=>
   have w1:=l9 w;have l:=l9 w1.1;have y:=l9 l.1;cases b with
   |none=>exact ff l.2
   |some b=>cases a with
    |some _=>exact ff y.1
    |none=>cases d with
     |some _=>exact ff y.2
     |none=>exact j o b p q w1.2 l.2
  |false=>
   have w1:=l9 w;have l:=l9 w1.1;have y:=l9 l.1;cases d with
   |none=>exact ff l.2
   |some d=>cases a with
    |some _=>exact ff y.1
    |none=>cases b with
     |some _=>exact ff y.2
     |none=>exact j o d p q w1.2 l.2
theorem MP{g f p:Ah Dh}{ds es:xh Jh}(h:u3 g f p ds=some es):u3 g f p (ds.map AV.a9)=some (es.map .a9):=by
 unfold u3 at h⊢;split at h
 ·rename_i z;refine rL (Lh z) ?_;cases f with
  |none=>cases h
  |some b=>
   haveI h:(if 0<=b then some _ else if b= -1 then some _ else none)=some es:=h;show(if 0<=b then some ((ds.map _).take _) else if b= -1 then some _ else none)=some _;rw [Eh,<-Pc,<-Pc];split at h
   ·rename_i y;refine rL (Lh y) ?_;exact yh (λl=>l.map (List.map AV.a9)) h
   ·rename_i y;refine rL (Fh y) ?_;split at h
    ·rename_i w;refine rL (Lh w) ?_;exact yh (λl=>l.map (List.map AV.a9)) h
    ·cases h
 ·rename_i z;refine rL (Fh z) ?_;split at h
  ·rename_i y;rw [Lh y,<-Bh h,Ye]
  ·cases h
theorem TG{c:IC}{Q:xh Jh->Prop}(h:tq c a Q):∃ds,(∀F,Rr F (c.cx nm) a (ds.map .a9))/\Q ds:=(L9 h).elim
 (λz=>z.elim λp z=>z.2.elim λns w=>⟨zs _,λF G s v S r=>by
  haveI e:a= .raw (HJ ns):=by
   cases a with
   |raw _=>exact yh _ ((Bh z.1).trans w.1)
   |_=>exact(s9 z.1 rfl).elim
  rw [e] at r;obtain⟨y,o,e,p,e1,items,n,l,f⟩:=r;exact⟨y,items,e,⟨o,S.sr.y9 _ _ (.inl p),e1,n,l⟩,(AX f).M6⟩,w.2⟩)
 λh=>(z5 h.2).imp λds z=>⟨λF=>z.1.rd,z.2⟩
theorem HC(B:OK P n nm m1)(A:OK P n nm m2):OK P n nm (.iU m1 m2):=⟨
 λu c K h I=>(B.e u c _ h I).casesOn λa c1 E1 i r k1=>(A.e _ _ _ k1 i).casesOn λb f E t y k2=>(o9 k2).elim λk q=>(TG q.2).elim λds l=>(o9 l.2).elim λes z=>
  ⟨_,f,λD e g=>LP (show zH true (u7 _ _) (u7 _ _) _ _=true from g) λo x p z' w1 w=>(eW (E1 D o w1) (QN (r8 q.1▸E D x w)) (λz'=>K9) x9 (l.1 _) (MP z.1) (Ti z.2.1) ⟨λa b=>[b,a],λa b=>rfl⟩).a9,t,y.trans r,z.2.2⟩,p7,B7,
 λu c K h I=>(B.e u c _ h I).casesOn λa c1 E1 i r k1=>(A.e _ _ _ k1 i).casesOn λb f E t y k2=>(o9 k2).elim λk q=>(GZ q.2).elim λds l=>(o9 l.2).elim λes z=>
  ⟨_,f,λD e g=>LP (show zH true (u7 _ _) (u7 _ _) _ _=true from g) λo x p z' w1 w=>(eW (E1 D o w1) (QN (r8 q.1▸E D x w)) (λz'=>K9) x9 l.1.rd z.1 z.2.1 ⟨λa b=>[b,a],λa b=>rfl⟩).own,t,y.trans r,z.2.2⟩,n7,o7,y5,A7⟩
theorem JC(B:OK P n nm m1)(A:OK P n nm m2):OK P n nm (.TM m1 m2):=⟨
 λu c K h I=>(B.e u c _ h I).casesOn λa c1 E1 i r k1=>(A.e _ _ _ k1 i).casesOn λb f E t y k2=>(o9 k2).elim λk q=>(z5 q.2).elim λds l=>(o9 l.2).elim λes z=>
  ⟨_,f,λD e g=>LP (show zH false (u7 _ _) (u7 _ _) _ _=true from g) λo x p z' w1 w=>(eW (E1 D o w1) (qE (r8 q.1▸E D x w)) (λz'=>K9) x9 l.1.rd (MP z.1) (Ti z.2.1) ⟨λa b=>[a,b],λa b=>rfl⟩).a9,t,y.trans r,z.2.2⟩,p7,B7,U7,n7,o7,y5,A7⟩
@[elab_as_elim] theorem fM{e:Expr}{Q:Expr->Prop}(h:d0 s e=true)(j:∀p,Q (.Dict [] [] p)):Q e:=HW h λk z' p w=>List.isEmpty_iff.mp (l9 w).1▸List.isEmpty_iff.mp (l9 w).2▸j p
theorem Ow:OK P n nm .dI:=⟨a4,p7,B7,λu c K h I=>⟨_,c,λD e f=>fM (show d0 D.env.scope _=true from f) λp=>dM,I,rfl,h⟩,n7,o7,y5,A7⟩
theorem Kw:OK P n nm .dL:=⟨a4,p7,B7,λu c K h I=>⟨_,c,λD e f=>fM (show d0 D.env.scope _=true from f) λp=>cM,I,rfl,h⟩,n7,o7,y5,A7⟩
theorem Hw:OK P n nm .dT:=⟨a4,p7,B7,λu c K h I=>⟨_,c,λD e f=>fM (show d0 D.env.scope _=true from f) λp=>bM,I,rfl,h⟩,n7,o7,y5,A7⟩
theorem cG{ps:xh (AV×AV)}{Q:xh (Str×AV)->Prop}(h:WU ps Q):∃l,ps=l.map (λp=>(.a9 (.str p.1),p.2))/\Q l:=by
 induction ps generalizing Q with
 |nil=>exact⟨[],rfl,h⟩
 |cons p _ i=>exact(o9 h).elim λk h=>(i h.2).elim λl q=>⟨(k,p.2)::l,List.cons_eq_cons.mpr ⟨Ac (MU h.1) rfl,q.1⟩,q.2⟩
theorem dG{ps:xh (AV×AV)}{Q:xh (Dh×AV)->Prop}(h:XU ps Q):∃l,ps=l.map (λp=>(.a9 (.int p.1),p.2))/\Q l:=by
 induction ps generalizing Q with
 |nil=>exact⟨[],rfl,h⟩
 |cons p _ i=>exact(o9 h).elim λk h=>(i h.2).elim λl q=>⟨(k,p.2)::l,List.cons_eq_cons.mpr ⟨Ac (r8 h.1) rfl,q.1⟩,q.2⟩
theorem iV{K:Type}[xg K]{R:K->Prop}{l:xh (K×AV)}{f:K->Ah AV}(g:∀t,(f t).isSome=true->R t)(h:∀p∈l,R p.1)(t:K)(q:(Y8 f l t).isSome=true):R t:=by
 induction l generalizing f with
 |nil=>exact g t q
 |cons p l i=>exact i (T6 g (h p (.head _))) (λp m=>h p (.tail _ m)) q
@[elab_as_elim] theorem zI{k1:Ck}{e:Expr}{Q:Expr->Prop}(h:ir k1 s e=true)(j:∀k es p,k.all (·.isSome)=true->k.length=es.length->k≠[]->k.length<=15->k1.p s k es=true->Q (.Dict k es p)):Q e:=
 HW h λk es p w=>
  haveI w1:=l9 w;haveI g:=l9 w1.1;have f:=l9 g.1;haveI l:=l9 f.1
  j _ _ p l.1 (beq_iff_eq.mp l.2) (λe=>by rw [e] at f;exact ff f.2) (Jg g.2) w1.2
theorem Iw(A:OK P n nm m):OK P n nm (.dS m):=⟨a4,p7,B7,λu c K h I=>(A.p u c _ h I).casesOn λps c1 E1 i r k1=>(cG k1).elim λl q=>haveI z:=z9 q.2
  ⟨_,c1,λD z' g=>zI (g) λk es p f y w t x=>Ey (q.1▸E1 D _ _ p x) (iV (λz' q=>(by nomatch q)) λp m=>Hh (List.all_eq_true.mp (l9 z.1).2 p m)) f y w t,i,r,z.2⟩,n7,o7,y5,A7⟩
theorem Jw(A:OK P n nm m):OK P n nm (.dN m):=⟨a4,p7,B7,λu c K h I=>(A.p u c _ h I).casesOn λps c1 E1 i r k1=>(dG k1).elim λl q=>haveI z:=z9 q.2
  ⟨_,c1,λD z' g=>zI (g) λk es p f y w t x=>Fy (q.1▸E1 D _ _ p x) (iV (λz' q=>(by nomatch q)) λp m=>List.all_eq_true.mp z.2.1 p m) f y w t,i,r,z.2.2⟩,n7,o7,y5,A7⟩
theorem dW(f:nU P τ o)(h:w6 τ o')(c:∀D as,o'≠ .inst D as)(d:∀w f,o'≠ .p9 w f):nU P τ o':=⟨h,λD as e=>absurd e (c D _),λκ g z' e=>absurd e (d _ g)⟩
inductive RZ(P:w8)(nm:xh Str)(u:Mo)(c:IC)(K:Mo->IC->(IC->(IC->Prop)->Prop)->Prop):Prop
 |mk (τ:Tg) (o o':d9) (c1:IC) (e:c.σ τ=some o) (z:Fz o o') (e1:c1.cx nm=⟨(c.cx nm).ρ,up (c.cx nm).σ τ o'⟩) (i:Inv P c1.σ) (r:c1.ρ=c.ρ) (k:K (u.1,τ::u.2) c1 λc2 k=>c2.σ τ=some o'/\put c2 τ o k)
theorem xT{K:Mo->IC->(IC->(IC->Prop)->Prop)->Prop}(h:O5 u c K)(I:Inv P c.σ):RZ P nm u c K:=by
 obtain⟨τ,o,o',e,z,h⟩:=h;haveI f:=I _ o e;exact(a7 (R:=λX=>X=_) h I (dW f ((z.k _).mp f.hold) (λD as=>(z.cls D _).1) λw g=>(z.w7 w g).1) rfl).casesOn λc1 E i r k=>⟨τ,o,o',c1,e,z,E,i,r,k⟩
theorem lX{t:Tg}(h:um u t\/t=τ):um (u.1,τ::u.2) t:=h.elim (λh=>h.imp id (.tail _)) λh=>h▸ .inr (.head _)
theorem oY.weak{l:Tg->Prop}{e:Expr}(h:∀τ,l τ->U τ)(E:oY F U X e o Y):oY F l X e o Y:=λG s S=>Yh (E G s S) (λv z' z=>z.casesOn λt g S q x v p w a f y A B=>⟨t,g.weak h,S,q,x,v,p,w,a,f,y,A,B⟩) λz' z' z=>z
theorem Ew(C:OK P n nm m):OK P n nm (.fz m):=⟨λu c K h I=>(xT h I).casesOn λτ o o' c1 e z e1 l A k1=>(C.e _ _ _ k1 l).casesOn λa z' E i B k2=>
  have f:=i _ _ k2.1
  (a7 k2.2 i (dW f ((z.k _).mpr f.hold) (λD as=>(z.cls D _).2) λw g=>(z.w7 w g).2) rfl).casesOn λt y p r k=>
  ⟨a,t,λD G q=>y.symm▸wy z e (Do.weak (λz'=>lX) (e1▸E D _ q)) k2.1,p,(r.trans B).trans A,k⟩,p7,B7,
 λu c K h I=>(xT h I).casesOn λτ o o' c1 e z e1 l A k1=>(C.o _ _ _ k1 l).casesOn λa z' E i B k2=>
  have f:=i _ _ k2.1
  (a7 k2.2 i (dW f ((z.k _).mpr f.hold) (λD as=>(z.cls D _).2) λw g=>(z.w7 w g).2) rfl).casesOn λt y p r k=>
  ⟨a,t,λD G q=>y.symm▸mE z e (oY.weak (λz'=>lX) (e1▸E D _ q)) k2.1,p,(r.trans B).trans A,k⟩,n7,o7,y5,A7⟩
theorem hH{e:Expr}(h:(O6 (λx p=>true) e||KW (λx y z p=>true) e)=true){env:Ub}{w:ca Nh}:isTrue e env w=(do let v<-w;ma e.pos;na [v] (truthy v)):=
 ((Xg _ _).mp h).elim (λh=>b6 h λx p z'=>rfl) λh=>JW h λx y z p z'=>rfl
theorem BC(g:OK P n nm m):OK P n nm (.val m):=⟨a4,p7,λu c K h I=>(g.e u c _ h I).casesOn λa c1 E1 i r k1=>(o9 k1).elim λb q=>⟨b,c1,λD e f=>Oz (oZ q.1▸E1 D _ (l9 f).2) pX λenv w=>hH (l9 f).1,i,r,q.2⟩,U7,n7,o7,y5,λu c K h I q=>(by nomatch q)⟩
theorem PC(g:OK P n nm m):OK P n nm (.not m):=⟨a4,p7,λu c K h I=>(g.t u c _ h I).casesOn λb c1 E1 i r k1=>⟨_,c1,λD z' f=>s0 f λo x p w=>Hh (l9 w).1▸Pz (E1 D x (l9 w).2),i,r,k1⟩,U7,n7,o7,y5,λu c K h I q=>(by nomatch q)⟩
theorem QE{O:BoolOp}{t:Kh}{e:Expr}(E:It F U X e t Y):At F U X O [e] t Y:=by
 cases O with
 |And=>exact GM E (by cases t<;>first|exact sT rfl YE|exact tT rfl ⟨rfl,rfl⟩)
 |Or=>exact XE E (by cases t<;>first|exact tT rfl Yy|exact sT rfl ⟨rfl,rfl⟩)
def Np(k2:Ck)(s:Bg)(O:BoolOp)(r:xh Expr):Prop:=∀{F U X t Y},(∀e,k2.t s e=true->It F U X e t Y)->At F U X O r t Y
@[elab_as_elim] theorem JR{O:BoolOp}{k1 k2:Ck}{e:Expr}{Q:Expr->Prop}(h:Hr O k1 k2 s e=true)(j:∀a r p,k1.t s a=true->Np k2 s O r->Q (.BoolOp O (a::r) p)):Q e:=
 k5 h λo es p w=>by
  cases es with
  |nil=>exact ff w
  |cons a r=>cases r with
   |nil=>exact ff w
   |cons b r=>
    have g:∀{x},(decide (o=O)&&k1.t s a&&x)=true->(x=true->Np _ s O (b::r))->Q _:=λw z=>haveI w1:=l9 w;haveI l:=l9 w1.1;Hh l.1▸j a _ p l.2 (z w1.2);cases r with
    |nil=>exact g w λw {_ _ _ _ _} E=>QE (E b w)
    |cons c r=>exact g w λw {_ _ _ _ _} E=>E _ w
theorem iB(C:OK P n nm m1)(A:OK P n nm m2):OK P n nm (.and m1 m2):=⟨a4,p7,λu c K h I=>(C.t u c _ h I).casesOn λt c1 E1 i r k1=>(fY k1).elim
  (λq=>(A.t u _ _ q.2 i).casesOn λl w E y z k2=>⟨l,w,λD z' g=>JR (g) λe f p x B=>ZX (GM (E1 D e x) (sT q.1 (B (E D)))),y,z.trans r,k2⟩)
  λq=>⟨false,c1,λD z' g=>JR (g) λe f p x z'=>ZX (GM (E1 D e x) (tT q.1 ⟨rfl,rfl⟩)),i,r,q.2⟩,U7,n7,o7,y5,λu c K h I q=>(by nomatch q)⟩
theorem Cw(C:OK P n nm m1)(A:OK P n nm m2):OK P n nm (.or m1 m2):=⟨a4,p7,λu c K h I=>(C.t u c _ h I).casesOn λt c1 E1 i r k1=>(fY k1).elim
  (λq=>⟨true,c1,λD z' g=>JR (g) λe f p x z'=>ZX (XE (E1 D e x) (sT q.1 ⟨rfl,rfl⟩)),i,r,q.2⟩)
  λq=>(A.t u _ _ q.2 i).casesOn λl w E y z k2=>⟨l,w,λD z' g=>JR (g) λe f p x B=>ZX (XE (E1 D e x) (tT q.1 (B (E D)))),y,z.trans r,k2⟩,U7,n7,o7,y5,λu c K h I q=>(by nomatch q)⟩
variable{mk:M}{is:xh Mh}{ρ:xh (Mh×AV)}
@[elab_as_elim] theorem w3{e:Expr}{Q:Expr->Prop}(h:VM s nm i e=true)(k:∀p,X7 (s.names.lookup (vn nm i))=true->Q (.Name (vn nm i) p)):Q e:=
 b6 h λx p h=>Hh (l9 h).1▸k p (Hh (l9 h).1▸(l9 h).2)
theorem X5(V:n4 nm):(c.set i a).cx nm=⟨T9 (c.cx nm).ρ (vn nm i) a,(c.cx nm).σ⟩:=by
 show(⟨A0 _ (T9 _ i a),c.σ⟩:Cx)=⟨T9 (A0 _ _) _ a,c.σ⟩;exact rL (pO V) rfl
theorem PP(V:n4 nm){z:Str}(h:z≠vn nm i):((c.set i a).cx nm).ρ.lookup z=(c.cx nm).ρ.lookup z:=by
 refine rL (X5 V) ?_;exact A6 h
theorem tS(V:n4 nm):((c.set i a).cx nm).ρ=T9 (c.cx nm).ρ (vn nm i) a:=yh _ (X5 V)
theorem zZ{t:Expr}{f:xh Expr}{is:xh Mh}(h:oS s nm is (t::f)=true):∃i j,is=i::j/\VM s nm i t=true/\oS s nm j f=true:=by
 cases is with
 |nil=>exact ff h
 |cons i j=>exact⟨i,j,rfl,(l9 h).1,(l9 h).2⟩
def HF(D:FD)(nm:xh Str)(is:xh Mh):Prop:=D.env.func.isSome=true\/∀i∈is,D.env.scope.names.lookup (vn nm i)=some .local
inductive RT P n nm is vs(c:IC)(K:IC->Prop):Prop
 |mk c' (A:∀D,HF D nm is->∀t,oS D.env.scope nm is t=true->hD (D.f P n) (c.cx nm) t vs (c'.cx nm)) (B:∀D,HF D nm is->∀t,oS D.env.scope nm is t=true->∀σ,hD (D.f P n) ⟨(c.cx nm).ρ,σ⟩ t vs ⟨(c'.cx nm).ρ,σ⟩) (N:∀D,HF D nm is->(∀i∈is,X7 (D.env.scope.names.lookup (vn nm i))=true)->sx (D.f P n) (c.cx nm) (is.map (vn nm)) vs (c'.cx nm)) (i:Inv P c'.σ) (l:is.length=vs.length) (e:c'.σ=c.σ/\∀z,(∀i∈is,z≠vn nm i)->(c'.cx nm).ρ.lookup z=(c.cx nm).ρ.lookup z) (k:K c')
theorem rX(V:n4 nm){K:IC->Prop}(h:fQ is vs c K)(I:Inv P c.σ):RT P n nm is vs c K:=by
 induction is generalizing vs c with
 |nil=>cases vs with
  |nil=>exact⟨c,λD z' p w=>(by
    cases p with
    |nil=>exact NR
    |cons _ _=>exact ff w),λD z' p w z'=>(by
    cases p with
    |nil=>exact NR
    |cons _ _=>exact ff w),λD z' z'=>AJ,I,rfl,⟨rfl,λz' z'=>rfl⟩,h⟩
  |cons _ _=>exact h.elim
 |cons i _ C=>cases vs with
  |nil=>exact h.elim
  |cons v _=>
   exact(C h I).casesOn λc' A B N E l e k=>⟨c',λD y p w=>(by
    cases p with
    |nil=>exact ff w
    |cons t p=>
     haveI w1:=l9 w;exact w3 w1.1 λq x=>ZV (pZ x (y.imp id λh=>h i (.head _))) ((X5 V)▸A D (y.imp id λh j m=>h j (.tail _ m)) _ w1.2) λenv=>rfl),λD y p w σ=>(by
    cases p with
    |nil=>exact ff w
    |cons t p=>
     haveI w1:=l9 w;exact w3 w1.1 λq x=>ZV (pZ x (y.imp id λh=>h i (.head _))) (tS V▸B D (y.imp id λh j m=>h j (.tail _ m)) _ w1.2 _) λenv=>rfl),λD y w=>zM (w i (.head _)) (y.imp id λh=>h i (.head _)) ((X5 V)▸N D (y.imp id λh j m=>h j (.tail _ m)) λj m=>w j (.tail _ m)),E,yh _ l,⟨e.1,λz q=>(e.2 z λj m=>q j (.tail _ m)).trans (PP V (q i (.head _)))⟩,k⟩
theorem p5{f:xh Expr}{env:Ub}(h:oS s nm is f=true):(wd f env).length=is.length/\(wd f env).findIdx? (·.1)=none/\∀i∈is,X7 (s.names.lookup (vn nm i))=true:=by
 induction f generalizing is with
 |nil=>cases is with
  |nil=>exact⟨rfl,rfl,λz' m=>(by nomatch m)⟩
  |cons _ _=>exact ff h
 |cons t f l=>
  obtain⟨i,A,rfl,y,g⟩:=zZ h;obtain⟨q,z,w⟩:=l g;refine w3 y λp x=>⟨yh _ q,?_,λj m=>(List.mem_cons.mp m).elim (λe=>e▸x) (w j)⟩;show(((false,assign _ _)::wd _ _)).findIdx? _=none;refine rL (List.findIdx?_cons) (rL z ?_);rfl
inductive ki P n nm one is v(c:IC)(K:IC->Prop):Prop
 |mk c' (A:∀D,HF D nm is->∀t,QM D.env.scope nm one is t=true->As (D.f P n) (c.cx nm) t v (c'.cx nm)) (B:∀D,HF D nm is->∀t,QM D.env.scope nm one is t=true->∀σ,As (D.f P n) ⟨(c.cx nm).ρ,σ⟩ t v ⟨(c'.cx nm).ρ,σ⟩) (i:Inv P c'.σ) (e:c'.σ=c.σ/\∀z,(∀i∈is,z≠vn nm i)->(c'.cx nm).ρ.lookup z=(c.cx nm).ρ.lookup z) (k:K c')
theorem LU(V:n4 nm){one:Kh}{K:IC->Prop}(h:N5 one is v c K)(I:Inv P c.σ):ki P n nm one is v c K:=by
 cases one with
 |true=>
  cases is with
  |nil=>exact h.elim
  |cons i is=>cases is with
   |cons _ _=>exact h.elim
   |nil=>exact⟨c.set i v,λD f t w=>w3 (w) λp x=>(X5 V)▸pZ x (f.imp id λh=>h i (.head _)),λD f t w z'=>w3 (w) λp x=>(tS V)▸pZ x (f.imp id λh=>h i (.head _)),I,⟨rfl,λz q=>PP V (q i (.head _))⟩,h⟩
 |false=>exact(o9 h).elim λds q=>(rX V q.2 I).casesOn λc' A B N H l e k=>⟨c',λD f t w=>d6 q.1▸E7 (w) λG k p w=>aU (A D f _ w) (λenv=>(p5 w).1.trans l) λenv=>(p5 w).2.1,λD f t w σ=>d6 q.1▸E7 (w) λG k p w=>aU (B D f _ w _) (λenv=>(p5 w).1.trans l) λenv=>(p5 w).2.1,H,e,k⟩
def FD.Ms(D:FD)(sc:Bg)(h:sc.kind= .function)(L:Mh):FD:=⟨D.A,compEnvC sc (pW sc D.env) L D.env,[L],h⟩
@[elab_as_elim] theorem pN{k1:Ck}{fs:xh Expr}{Q:xh Expr->Prop}(h:qN k1 s fs=true)(h0:k1.z=true->Q [])(h1:k1.z=false->∀e,k1.t s e=true->Q [e]):Q fs:=by
 cases fs with
 |nil=>exact h0 h
 |cons e fs=>cases fs with
  |nil=>exact h1 (P5 (l9 h).1) e (l9 h).2
  |cons _ _=>exact ff h
def Ux(P:w8)(n:Mh)(nm:xh Str)(u:Mo)(T:IC->KT->Prop)(g:Bg->xh Expr->Kh):Prop:=∀c (K:KT),T c K->Inv P c.σ->RX P nm c (λt X=>∀(D:FD) fs,g D.env.scope fs=true->Ts (D.f P n) (um u) (c.cx nm) fs t X) K
theorem Qp(l:OK P n nm m):Ux P n nm u ((A9 P n m).t u) (qN (u7 nm m)):=λc K h I=>by
 cases hz:(u7 _ m).z with
 |true=>exact⟨true,c,λD z' q=>pN q (λz'=>xP) λz=>absurd (hz.symm.trans z) (by decide),I,rfl,l.z u c K h I hz⟩
 |false=>exact(l.t u c K h I).casesOn λt c1 E i r k=>⟨t,c1,λD z' q=>pN q (λz=>absurd (hz.symm.trans z) (by decide)) λz' e w=>pH (E D e w),i,r,k⟩
theorem jw:Ux P n nm u (λc K=>K true c) λz' fs=>fs.isEmpty:=λc K h I=>⟨true,c,λD z' q=>List.isEmpty_iff.mp q▸xP,I,rfl,h⟩
def Tx(P:w8)(n:Mh)(nm:xh Str)(u:Mo)(E:IC->KE->Prop)(q:FD->Cm->Prop):Prop:=∀c (K:KE),E c K->Inv P c.σ->RX P nm c (λa X=>∀(D:FD) kd,q D kd->∀G s,ST (D.f P n) (c.cx nm) G s.heap->kd.cmp (RA (D.f P n) (um u) X G s (kd.R a)) s) K
inductive qi(P:w8)(nm:xh Str)(R:xh AV->(Tg->Ah d9)->Prop)(K:KL):Prop
 |mk (ws:xh AV) (c':IC) (E:R ws c'.σ) (i:Inv P c'.σ) (k:K ws c')
theorem ER{c1 c:IC}(r:c1.ρ=c.ρ):c1.cx nm=⟨(c.cx nm).ρ,c1.σ⟩:=by
 unfold IC.cx;exact rL r rfl
theorem vE(V:n4 nm){one:Kh}{T:IC->KT->Prop}{E:IC->KE->Prop}{g:Bg->xh Expr->Kh}{q:FD->Cm->Prop}(m:Tx P n nm u E q)(R:Ux P n nm u T g){K:KL}(h:fJ T E ρ one is vs c K)(I:Inv P c.σ):
  qi P nm (λws σ'=>∀D kd,q D kd->g D.env.scope kd.ifs=true->QM D.env.scope nm one is kd.x=true->HF D nm is->(∀z v,(A0 nm ρ).lookup z=some v->∀i∈is,z≠vn nm i)->Cp (D.f P n) (um u) kd (A0 nm ρ) σ' vs c.σ ws) K:=by
 induction vs generalizing c K with
 |nil=>exact⟨[],c,λD z' z' z' z' z' z'=>⟨rfl,rfl⟩,I,h⟩
 |cons v _ J=>
  exact(LU V h I).casesOn λB z' Q o L k0=>(R _ _ k0 o).casesOn λt c1 E1 N r k1=>by
   have tk:∀D,HF D _ _->∀t,QM _ _ _ _ t=true->(∀z v,(A0 _ _).lookup z=some v->∀i∈is,z≠vn _ i)->Tk _ t v (A0 _ ρ) (B.cx _).ρ:=λD O t w hd=>⟨Q D O t w,λz v e=>(L.2 z (hd z v e)).trans e⟩;have s:B.cx _=⟨(B.cx nm).ρ,c.σ⟩:=yh _ L.1;exact(fY k1).elim
    (λy=>(m _ _ y.2 N).casesOn λa F S b Z k2=>(o9 k2).elim λd z=>(J z.2 b).casesOn λws G E3 C k=>⟨_,G,λD kd A x f l p=>⟨_,c1.σ,tk D l _ f p,.inr ⟨a,F.σ,ws,ER r▸s▸y.1▸E1 D _ x,ER r▸ER (Z.trans r)▸S D _ A,N6 z.1▸trivial,yh (·::ws) (N6 z.1).symm,E3 D _ A x f l p⟩⟩,C,k⟩)
    λy=>(J y.2 N).casesOn λws G E3 C k=>⟨ws,G,λD kd A x f l p=>⟨_,c1.σ,tk D l _ f p,.inl ⟨ER r▸s▸y.1▸E1 D _ x,E3 D _ A x f l p⟩⟩,C,k⟩
theorem uS{D:FD}{s:Bg}(h:FH D.env.scope s=true):TQ (D.f P n) s:=
 haveI f:=l9 h;have q:=List.all_eq_true.mp f.2
 ⟨λy m=>Hh (l9 (l9 (q y m)).1).1,Hh f.1,λy m e=>Hh (((Xg _ _).mp (l9 (l9 (q y m)).1).2).resolve_left λz=>Hh z e),λy m e=>Hh (((Xg _ _).mp (l9 (q y m)).2).resolve_left λz=>Hh z e)⟩
structure GC(nm:xh Str)(s:Bg)(is:xh Mh)(one:Kh)(k2:Ck)(fv:xh Mh)(t iter:Expr)(sc:Bg):Prop where
 x1:FH s sc=true
 x2:∀i∈is,sc.names.lookup (vn nm i)=some .local
 x3:nV iter=true
 x4:k2.e s iter=true
 x5:QM (UU s sc) nm one is t=true
 x7:∀i∈fv,i∉is/\(UU s sc).names.lookup (vn nm i)≠some .local
@[elab_as_elim] theorem iR{one:Kh}{k2:Ck}{fv:xh Mh}{f:xh Pd}{h:Bg}{k:Bg->xh Expr->Kh}{Q:xh Pd->Prop}(w:LF nm s is one k2 fv f h k=true)(J:∀t iter fs,GC nm s is one k2 fv t iter h->k (UU s h) fs=true->Q [⟨t,iter,fs,0⟩]):Q f:=by
 cases f with
 |nil=>exact ff w
 |cons g f=>
  obtain⟨t,iter,fs,d⟩:=g;cases f with
  |cons _ _=>exact ff w
  |nil=>
   haveI w1:=l9 w;haveI A:=l9 w1.1;haveI p:=l9 A.1;haveI l:=l9 p.1;haveI y:=l9 l.1;haveI B:=l9 y.1;haveI C:=l9 B.1;exact(Hh C.1)▸J t _ _ ⟨B.2,λi m=>Hh (List.all_eq_true.mp y.2 i m),l.2,p.2,C.2,λi m=>have z:=l9 (List.all_eq_true.mp w1.2 i m);⟨λq=>by rw [List.contains_iff_mem.mpr q] at z;exact ff z.1,Hh z.2⟩⟩ A.2
def Uq(P:w8)(n:Mh)(it:M)(T:IC->KT->Prop)(E:IC->KE->Prop)(is:xh Mh)(one:Kh)(fv:xh Mh)(u:Mo)(c:IC)(K:KL):Prop:=(A9 P n it).e (D8 c.ρ u) c λa c1=>CD c1 (D8 c.ρ u) a λvs=>vs.length<=1000000/\fJ T E (I5 fv c.ρ) one is vs c1 λws c2=>K ws ⟨c.ρ,c2.t,c2.b⟩
inductive ri(P:w8)(n:Mh)(nm:xh Str)(is:xh Mh)(one:Kh)(k2:Ck)(fv:xh Mh)(g:Bg->xh Expr->Kh)(q:FD->Cm->Prop)(u:Mo)(c:IC)(K:KL):Prop
 |mk (ws:xh AV) (c1 c':IC) (E:∀(D:FD) (f:Fo P.W),GC nm D.env.scope is one k2 fv f.x f.iter f.sc->(∀(h:f.sc.kind= .function) L,q (D.Ms f.sc h L) (f.kd D.A (D.Ms f.sc h L).env))->g (UU D.env.scope f.sc) f.ifs=true->(∀B G G' h us,f.cont B G h us->(∀a v,F9 G a v->F9 G' a v)->f.cont B G' h us)->gU (D.f P n) (um (D8 c.ρ u)) (c.cx nm) f ws (c1.cx nm) c'.σ) (i:Inv P c'.σ) (e:(c1.cx nm).ρ=(c'.cx nm).ρ) (r:c'.ρ=c.ρ) (k:K ws c')
theorem BI(V:n4 nm){one:Kh}{fv:xh Mh}(B:OK P n nm m2){T:IC->KT->Prop}{E:IC->KE->Prop}{g:Bg->xh Expr->Kh}{q:FD->Cm->Prop}(N:Tx P n nm (D8 c.ρ u) E q)(O:Ux P n nm (D8 c.ρ u) T g){K:KL}(h:Uq P n m2 T E is one fv u c K)(I:Inv P c.σ):ri P n nm is one (u7 nm m2) fv g q u c K:=
 (B.e _ c _ h I).casesOn λa c1 E1 Q r k1=>(eN k1).elim λvs y=>(vE V N O y.2.2.2 Q).casesOn λws l C G k2=>
  ⟨ws,c1,⟨c.ρ,l.t,l.b⟩,λD f x A H t=>⟨⟨vs,A0 _ _,Do.iter (E1 D _ x.x4) (y.1 _),λz v e=>(u2 V e).2.elim λi w=>⟨show(A0 _ _).lookup z=some v from r.symm▸(u2 V e).1,w.2▸(x.x7 i w.1).2⟩,y.2.2.1,λL=>C (D.Ms _ (uS (P:=P) (n:=n) x.x1).kind L) _ (A _ L) H x.x5 (.inr λi m=>lookup_relabel_local (x.x2 i m)) λz v e i m J=>(u2 V e).2.elim λj w=>(x.x7 j w.1).1 (CU V (w.2.symm.trans J)▸m),y.2.1,λx v e=>(PS e).elim λp w=>w.2.2▸yV p (r▸w.1)⟩,uS x.x1,λz=>PY x.x3,t⟩,G,show A0 _ _=A0 _ _ from r▸rfl,rfl,k2⟩
theorem CX.fresh{e:Expr}(h:CX F U X ws Y e):gL F U X e ws Y:=h.casesOn λf x z' z' z' z' c1 E r=>(show Y=⟨c1.ρ,Y.σ⟩ from r▸rfl)▸YF E
variable{one:Kh}{fv:xh Mh}
def qL(P:w8)(nm:xh Str)(m:M)(D:FD)(kd:Cm):Prop:=∃el x iter ifs sc pos,(u7 nm m).e D.env.scope el=true/\kd=(HV P.W el x iter ifs sc pos).kd D.A D.env
theorem xL(b:OK P n nm m):Tx P n nm u ((A9 P n m).e u) (qL P nm m):=λc K h I=>(b.e u c K h I).casesOn λa c1 E i r k=>⟨a,c1,λD z' q G s S=>by
 obtain⟨g,x,iter,f,j,pos,d,rfl⟩:=q;exact E D _ d G s S,i,r,k⟩
theorem nr(V:n4 nm)(b:OK P n nm m1)(f:OK P n nm m2)(d:OK P n nm m3){K:KL}(h:Uq P n m2 ((A9 P n m3).t (D8 c.ρ u)) ((A9 P n m1).e (D8 c.ρ u)) is one fv u c K)(I:Inv P c.σ):
  RX P nm c (λws X=>∀(D:FD) ex,zX nm D.env.scope is one (u7 nm m1) (u7 nm m2) (u7 nm m3) fv ex=true->CX (D.f P n) (um (D8 c.ρ u)) (c.cx nm) ws X ex) K:=
 (BI V f (xL b) (Qp d) h I).casesOn λws z' c' E i e r k=>⟨ws,c',λD z' g=>j5 g λa z' s p w=>iR w λt iter fs x w=>⟨a,t,iter,fs,s,p,_,E D (HV _ _ t _ _ _ p) x (λh L=>⟨a,t,iter,fs,s,p,(l9 w).1,rfl⟩) (l9 w).2 PF,e⟩,i,r,k⟩
theorem UH(V:n4 nm)(a:OK P n nm m1)(d:OK P n nm m2)(b:OK P n nm m3):OK P n nm (.comp m1 is one m2 m3 fv):=⟨
 λu c K h I=>(nr V a d b (K:=λws g=>SV _ λds=>K (.a9 (.list ds)) g) h I).casesOn λws c1 E i r k=>(nZ k).elim λds q=>⟨_,c1,λD f e=>Do.weak (λz'=>V5) (gL.a9 (q.1▸(E D _ e).fresh)),i,r,q.2⟩,p7,B7,
 λu c K h I=>(nr V a d b h I).casesOn λws c1 E i r k=>⟨_,c1,λD f e=>oY.weak (λz'=>V5) (E D _ e).fresh.own,i,r,k⟩,
 λu c K h I=>nr V a d b h I,o7,y5,A7⟩
def bo(P:w8)(nm:xh Str)(m m2:M)(D:FD)(kd:Cm):Prop:=∃kx vx x iter ifs sc pos,(u7 nm m).e D.env.scope kx=true/\(u7 nm m2).e D.env.scope vx=true/\kd=(SF P.W kx vx x iter ifs sc pos).kd D.A D.env
theorem xD(j:OK P n nm m1)(C:OK P n nm m2):Tx P n nm u (λc K=>(A9 P n m1).e u c λa c1=>(A9 P n m2).e (hold a u) c1 λb f=>rd a.int? λi=>rd b.dat? λd=>K (.a9 (.tuple [.int i,d])) f) (bo P nm m1 m2):=λc K h I=>
 (j.e u c _ h I).casesOn λa c1 E1 J B k1=>(C.e _ _ _ k1 J).casesOn λb f E t r k2=>(o9 k2).elim λi y=>(o9 y.2).elim λd z=>⟨_,f,λD z' q G s S=>by
  obtain⟨T,R,x,iter,O,V,pos,o,g,rfl⟩:=q;refine(E1 D _ o).bind S λU v z' Q F p e1=>(E D _ g).bind Q λH w z' N l k L=>⟨H,p.trans (k.weak λz'=>K9),N,⟨(i,d),?_⟩,e1.trans L⟩;obtain⟨tk,e⟩:F9 _ _ v:=r8 y.1▸F;exact⟨tk,rfl,e,N6 z.1▸l⟩,t,r.trans B,z.2⟩
theorem SL(V:n4 nm)(b:OK P n nm m1)(j:OK P n nm m2)(f:OK P n nm m3):OK P n nm (.cY m1 m2 is one m3 fv):=⟨a4,p7,B7,λu c K h I=>
 (BI V f (xD b j) jw (K:=λws g=>∃ps:xh _,ws=ps.map _/\K (.M9 _ (dJ ps)) g) h I).casesOn λws c1 c' E i e r k=>k.elim λps k=>⟨_,c',λD z' l=>oY.weak (λz'=>V5) (kX (Q:=λd=>oY _ (um (D8 c.ρ u)) _ d _ _) l λa v z' s p w=>iR w λt iter fs x w=>
  (show c'.cx nm=⟨(c1.cx nm).ρ,c'.σ⟩ from e▸rfl)▸sE (k.1▸(E D (SF P.W a v t iter fs s p) x (λh L=>⟨a,v,t,iter,fs,s,p,(l9 (l9 w).1).1,(l9 (l9 w).1).2,rfl⟩) (l9 w).2 QF))),i,r,k.2⟩,n7,o7,y5,A7⟩
theorem fR{w:qf->Kh}{k:xh qf->Kh}{f:xh qf}{Q:xh qf->Prop}(h:hd w k f=true)(j:∀s r,w s=true->k r=true->Q (s::r)):Q f:=by
 cases f with
 |nil=>exact ff h
 |cons s r=>exact j _ r (l9 h).1 (l9 h).2
def wp(P:w8)(n:Mh)(nm:xh Str)(u:Mo)(c:IC)(w:Bg->qf->Kh)(fl:Fl)(X:Cx):Prop:=∀D:FD,D.env.func.isSome=true->∀st,w D.env.scope st=true->X1 (D.f P n) (um u) (c.cx nm) st fl X
theorem seq(z:OK P n nm mk){w:Bg->qf->Kh}{fl:Fl}{K:KB}(E:wp P n nm u c w fl (c1.cx nm))(i:Inv P c1.σ)(k1:zW (λg=>(A9 P n mk).b u g K) K fl c1):RB P nm (λa X=>∀(D:FD),D.env.func.isSome=true->∀s,hd (w D.env.scope) ((u7 nm mk).b D.env.scope) s=true->Xs (D.f P n) (um u) (c.cx nm) s a X) K:=by
 cases fl with
 |next=>exact(z.b u _ K k1 i).casesOn λfl g A p k2=>⟨fl,g,λD f z' h=>fR (Q:=λs=>Xs _ _ _ s _ _) h λq r x y=>bH (E D f _ x) (A D f r y),p,k2⟩
 |ret a=>exact⟨.ret a,c1,λD f z' h=>fR (Q:=λs=>Xs _ _ _ s _ _) h λq r x z'=>qU (E D f _ x),i,k1⟩
theorem N1(h:OK P n nm mk){w:Bg->qf->Kh}{K:KB}(E:wp P n nm u c w .next (c1.cx nm))(i:Inv P c1.σ)(k1:(A9 P n mk).b u c1 K):RB P nm (λa X=>∀(D:FD),D.env.func.isSome=true->∀s,hd (w D.env.scope) ((u7 nm mk).b D.env.scope) s=true->Xs (D.f P n) (um u) (c.cx nm) s a X) K:=seq h E i k1
@[elab_as_elim] theorem v6{k:Expr->Expr->Cf->Kh}{s:qf}{Q:qf->Prop}(h:iY k s=true)(j:∀t e p,k t e p=true->Q (.Assign [t] e p)):Q s:=
 zU h λf e p w=>v3 w λt w=>j t e p w
theorem oJ{e:Expr}{p:Cf}{l:Mh}{env:Ub}(h:DF env.scope x=true):Nf e (some (.Name x p)) l env=pure false:=by
 have z:(env.kindOf x==some .local)=false:=by refine rL (show env.kindOf x=some .cell from Hh h) ?_;rfl
 cases e<;>first|rfl|(unfold Nf;dsimp only;rw [z,Rd];rfl)
theorem Gw(f:OK P n nm m)(g:OK P n nm mk):OK P n nm (.ex m mk):=⟨a4,p7,B7,U7,n7,o7,λu c K h I=>(f.e u c _ h I).casesOn λa z' E1 i z' k1=>N1 (w:=λs=>Ui λe p=>Q6 e&&(u7 _ m).e s e) g (λD z' z' w=>pP w λe p w=>aH (E1 D e (l9 w).2) λenv=>b4 (l9 w).1) i k1,A7⟩
theorem KC(V:n4 nm)(g:OK P n nm m)(l:OK P n nm mk):OK P n nm (.set i m mk):=⟨a4,p7,B7,U7,n7,o7,λu c K h I=>(g.e u c _ h I).casesOn λa c1 E1 z z' k1=>N1 (c1:=c1.set i a) (w:=λs=>iY λt e p=>VM s _ i t&&(Q6 e||DF s _)&&(u7 _ m).e s e) l (λD y z' w=>v6 w λt e p w=>
  haveI w1:=l9 w;haveI f:=l9 w1.1
  w3 f.1 λq x=>(X5 V)▸YI (E1 D e w1.2) x (.inl y) (((Xg _ _).mp f.2).elim b4 oJ)) z k1,A7⟩
theorem As.HU{f:xh Expr}{k:Mh}{p:Cf}{e:Expr}(h:Q6 e=true){l:Mh}{env:Ub}:Ia [.Tuple f k p] e l env=pure false:=b4 (t:=some (.Tuple f k p)) (l:=l) (env:=env) h
theorem HH(V:n4 nm)(l:OK P n nm m)(y:OK P n nm mk):OK P n nm (.g6 is m mk):=⟨a4,p7,B7,U7,n7,o7,λu c K h I=>(l.e u c _ h I).casesOn λa z' E1 C z' k1=>(LU V k1 C).casesOn λG A B i z' k2=>N1 (w:=λs=>iY λt e p=>Q6 e&&iK e&&QM s _ _ _ t&&(u7 _ m).e s e) y (λD z z' w=>v6 w λt e p w=>by
  haveI w1:=l9 w;have f:=l9 w1.1;haveI g:=l9 f.1;haveI T:=A D (.inl z) t f.2;exact E7 (f.2) (λE k q w T=>mL (E1 D e w1.2) T (As.HU g.1) (hK g.2)) T) i k2,A7⟩
@[elab_as_elim] theorem fS{k:xh Expr->xh Expr->Kh}{t e:Expr}{Q:Expr->Expr->Prop}(h:ah k t e=true)(j:∀f n p es m q,k f es=true->Q (.Tuple f n p) (.Tuple es m q)):Q t e:=
 E7 h λf n p w=>E7 w λes m q w=>j _ n p _ m q w
theorem DP{f:xh Expr}(h:oS s nm is f=true):f.length=is.length:=by
 induction f generalizing is with
 |nil=>cases is with
  |nil=>rfl
  |cons _ _=>exact ff h
 |cons t _ g=>
  obtain⟨i,j,rfl,p,l⟩:=zZ h;exact yh _ (g l)
theorem EN{f:Expr->Ah Str}{g:xh Expr}(h:oS s nm is g=true)(l:∀t∈g,∀i,VM s nm i t=true->f t=some (vn nm i)):g.filterMap f=is.map (vn nm):=by
 induction g generalizing is with
 |nil=>cases is with
  |nil=>rfl
  |cons _ _=>exact ff h
 |cons t _ q=>
  obtain⟨i,j,rfl,p,w⟩:=zZ h;exact rL List.filterMap_cons (rL (l t (.head _) i p) (rL (q w λt m=>l t (.tail _ m)) rfl))
theorem CM{g:Expr->Kh}{es:xh Expr}(h:es.all KS=true)(f:∀e,KS e=true->g e=false):es.any g=false:=by
 induction es with
 |nil=>rfl
 |cons e _ i=>refine rL fe (rL (f e (l9 h).1) (rL (i (l9 h).2) ?_));rfl
theorem ME{a b:Mh}(h:(a==b)=true):(a !=b)=false:=yh _ h
theorem VY{β:Type}{b:Kh}{x y:β}(h:b=false):(if b=true then x else y)=y:=Fh (Bool.eq_false_iff.mp h)
theorem dF{l:Mh}{t:Expr}{env:Ub}(e:env.scope=s)(h:Fx s l t=true)(q:VM s nm i t=true):∃p,t= .Name (vn nm i) p/\(env.kindOf (vn nm i)==some .local&&p.line==l)=true:=
 w3 q (λp x h=>⟨p,rfl,by
  haveI k:env.kindOf _=some .local:=(yh (λz:Bg=>z.names.lookup _) e).trans (Hh (l9 h).1);refine rL k (rL ((l9 h).2) ?_);rfl⟩) h
theorem CL{f es:xh Expr}{k m:Mh}{p q:Cf}{env:Ub}(e:env.scope=s)(C:s.kind= .function)(hs:oS s nm is f=true)(h:mw s f es=true)(hd:((is.map (vn nm)).eraseDups.length==is.length)=true):Ae [.Tuple f k p] (.Tuple es m q) env=pure (some (is.map (vn nm))):=by
 haveI g:=l9 h;haveI A:=l9 g.1;have y:=l9 A.1;haveI B:=l9 y.1;haveI l:=l9 B.1;haveI b:env.blockKind= .function:=by unfold Env.blockKind;refine rL e (rL C ?_);rfl
 unfold Ae;dsimp only;refine(VY ?_).trans ((VY (CM B.2 λe h=>JS h)).trans ?_)
 ·refine rL l.1 ?_;rw [ME l.2,b];rfl
 rw [EN hs λt m i w=> ?_]
 ·refine(VY ?_).trans ((VY (P5 A.2)).trans (VY (P5 g.2)));rw [Eh,(DP hs),ME (zg _),ME hd];rfl
 ·obtain⟨p',rfl,z⟩:=dF e (List.all_eq_true.mp y.2 t m) w;exact Lh z
theorem TF{l β:Type}{f:l->Ah β}{g:xh l}:(g.filterMap f).length<=g.length/\((g.filterMap f).length=g.length->∀t∈g,(f t).isSome=true):=by
 induction g with
 |nil=>exact⟨Oh _,λz' t m=>(by nomatch m)⟩
 |cons t _ i=>
  refine rL List.filterMap_cons ?_;cases q:f t with
  |none=>exact⟨vg i.1,λh=>absurd (vh (Ph (h.symm)) i.1) (Nat.not_succ_le_self _)⟩
  |some b=>exact⟨Vh i.1,λh w m=>(List.mem_cons.mp m).elim (λe=>by refine rL e (rL q ?_);rfl) (i.2 (Nat.succ.inj h) _)⟩
theorem lK{l:Mh}{env:Ub}{t:Expr}(e:env.scope=s)(h:(kv env l t).isSome=true):Fx s l t=true:=
 CG h λid p h=>by
  split at h
  ·rename_i z;haveI z:=l9 z;exact(gg _ _).mpr ⟨Rh ((yh (λz=>z.names.lookup id) e).symm.trans (beq_iff_eq.mp z.1)),z.2⟩
  ·cases h
theorem DL{f es:xh Expr}{k m:Mh}{p q:Cf}{env:Ub}(e:env.scope=s)(h:zG s f es=true):Ae [.Tuple f k p] (.Tuple es m q) env=pure none:=by
 unfold Ae;dsimp only;split
 ·rfl
 ·refine(VY (CM (l9 h).2 λe h=>JS h)).trans (Lh ((Xg _ _).mpr (.inl (bne_iff_ne.mpr λy=> ?_))));have:=(l9 h).1;rw [List.all_eq_true.mpr λt m=>lK e (TF.2 y t m)] at this;exact ff this
theorem IH(V:n4 nm)(G:OK P n nm m)(y:OK P n nm mk):OK P n nm (.VW is m mk):=⟨a4,p7,B7,U7,n7,o7,λu c K h I=>(G.l u c _ h I).casesOn λas z' E1 H z' k1=>(rX V k1 H).casesOn λJ A B N C l z' k2=>N1 (w:=λs=>iY λt e p=>ah (λg es=>oS s _ _ g&&mw s g es&&(is.map _).eraseDups.length==is.length&&(u7 _ m).l s es) t e) y (λD E z' w=>v6 w λt e p w=>fS w λg z' z' es z' z' w=>by
  haveI w1:=l9 w;haveI q:=l9 w1.1;haveI f:=l9 q.1;haveI l:is.length=as.length:=by rw [rc,rc] at l;exact l
  refine VR (E1 D _ w1.2) ?_ (l▸(DP f.1▸((Xg _ _).mp (l9 (l9 (l9 (l9 (l9 f.2).1).1).1).1).1).elim (λz=>by rw [beq_iff_eq.mp z];decide) λz=>by rw [beq_iff_eq.mp z];decide)) (by rw [Eh];exact l) rfl (CL rfl D.k f.1 f.2 q.2);exact Ye▸N D (.inl E) λi m=>(p5 (env:=D.env) f.1).2.2 i (List.mem_reverse.mp m)) C k2,A7⟩
theorem KH(V:n4 nm)(z:OK P n nm m)(q:OK P n nm mk):OK P n nm (.XW is m mk):=⟨a4,p7,B7,U7,n7,o7,λu c K h I=>(z.l u c _ h I).casesOn λas z' E1 C z' k1=>(rX V (z9 k1).2 C).casesOn λE A B N i l z' k2=>N1 (w:=λs=>iY λt e p=>ah (λg es=>oS s _ _ g&&zG s g es&&(u7 _ m).l s es) t e) q (λD y z' w=>v6 w λt e p w=>fS w λg z' z' es z' z' w=>
  haveI w1:=l9 w;haveI f:=l9 w1.1
  eP (E1 D _ w1.2) (A D (.inl y) _ f.1) (sV (z9 k1).1 (by decide)) (λenv=>(p5 f.1).1.trans l) (λenv=>(p5 f.1).2.1) rfl (DL rfl f.2)) i k2,A7⟩
theorem xM{e o:Expr}{x:Str}{p:Cf}{l:Mh}{env:Ub}:Nf e (some (.Attribute o x p)) l env=pure false:=by cases e<;>rfl
theorem tH{e o i:Expr}{p:Cf}{l:Mh}{env:Ub}:Nf e (some (.Subscript o i p)) l env=pure false:=by cases e<;>rfl
@[elab_as_elim] theorem HT{e:Expr}{Q:Expr->Prop}(h:IT nm s j i e=true)(k:∀p q,OZ (s.names.lookup (vn nm j))=true->(vn nm j==("__debug__"))=false->(vn nm j==("__classdict__"))=false->i<30->Q (.Attribute (.Name (vn nm j) p) (an i) q)):Q e:=
 G6 h λo x q w=>
  haveI w1:=l9 w;haveI f:=l9 w1.1
  Hh f.2▸JX f.1 λp t l g=>k p q t l g (Hh w1.2)
theorem DV{D:Mh}{as as':xh (Mh×AV)}(f:nU P τ (.inst D as))(h:∀y∈as',y.2.keeps λt=>hb τ t=true):nU P τ (.inst D as'):=⟨h,λg l e=>(by cases e;exact f.cls D _ rfl),(λz' z' z' e=>(by nomatch e))⟩
theorem aV{β:Type}{l:xh (Mh×β)}{v:β}{y:Mh×β}(h:y∈T9 l i v):y=(i,v)\/(y∈l/\(y.1≠i\/True)):=by
 induction l with
 |nil=>exact .inl (List.mem_singleton.mp h)
 |cons p l f=>
  unfold T9 at h;split at h
  ·exact(List.mem_cons.mp h).imp id λh=>⟨.tail _ h,.inr trivial⟩
  ·exact(List.mem_cons.mp h).elim (λe=> .inr ⟨e▸ .head _,.inr trivial⟩) λh=>(f h).imp id λh=>⟨.tail _ h.1,.inr trivial⟩
theorem BT(I:Inv P c.σ){D:Mh}{as:xh (Mh×AV)}(e:c.σ τ=some (.inst D as)):q4 P.W D/\∀i,i<30->De P.W.K (.ref D) (an i)=some none:=P.cls D (((I _ _ e).cls D _ rfl).imp (·.1) (·.1))
theorem PH(V:n4 nm)(H:OK P n nm m)(g:OK P n nm mk):OK P n nm (.M4 j i m mk):=⟨a4,p7,B7,U7,n7,o7,λu c K h I=>(H.e u c _ h I).casesOn λa z' E1 f z' k1=>(o9 k1).elim λy q=>(I6 q.2).elim λτ z=>z.elim λo z=>(o9 z.2.2).elim λp w=>
  have e:=z.2.1.trans (yh _ (eR w.1));haveI l:=BT f e
  (a7 (R:=λX=>X=_) (z9 w.2).2 f (DV (f _ _ e) λy m=>(aV m).elim (λq=>q▸W6 (z9 w.2).1) λq=>(f _ _ e).hold y q.1) rfl).casesOn λJ G B z' k2=>
  N1 (w:=λs=>iY λt e p=>IT _ s j i t&&(u7 _ m).e s e) g (λD z' z' w=>v6 w λt L p w=>by
   haveI w1:=l9 w;exact G▸HT w1.1 λN z' E C A x=>cH (E1 D _ w1.2) ((B0 V).trans (z.1▸q.1)) E C A e l.1 (l.2 i x) x λenv=>xM) B k2,A7⟩
variable{l:Mh}{κ:LK}
theorem MH(A:OK P n nm m1)(L:OK P n nm m2)(B:OK P n nm m3)(f:OK P n nm mk):OK P n nm (.M1 m1 m2 m3 mk):=⟨a4,p7,B7,U7,n7,o7,λu c K h I=>(A.e u c _ h I).casesOn λa c1 E1 C z' k1=>(L.e _ _ _ k1 C).casesOn λb R E J z' k2=>(B.e _ _ _ k2 J).casesOn λr z' E3 z z' k=>(AH k z).casesOn λQ O G z' H=>
  N1 (w:=λs=>iY λt e p=>b8 (λo i q=>(u7 _ _).e s o&&(u7 _ _).e s i) t&&Q6 e&&(u7 _ _).e s e) f (λD z' z' w=>v6 w λt N p w=>
   haveI w1:=l9 w;haveI g:=l9 w1.1
   z8 g.1 λo i q y=>ZI (E1 D _ w1.2) (λz'=>K9) (λz'=>K9) x9 (E D o (l9 y).1) x9 (E3 D i (l9 y).2) (O _ _) λenv=>b4 g.2) G H,A7⟩
theorem aB(A:OK P n nm m1)(G:OK P n nm m2)(f:OK P n nm mk):OK P n nm (.del m1 m2 mk):=⟨a4,p7,B7,U7,n7,o7,λu c K h I=>(A.e u c _ h I).casesOn λa c1 E1 B z' k1=>(G.e _ _ _ k1 B).casesOn λb z' E C z' k2=>(EH k2 C).casesOn λH O z z' k=>
  N1 (w:=λs=>cZ λg p=>yX (b8 λo i q=>(u7 _ _).e s o&&(u7 _ _).e s i) g) f (λD z' z' w=>yU w λg p w=>v3 w λt w=>
   z8 w λo i q y=>UD (E1 D o (l9 y).1) (λz'=>K9) x9 (E D i (l9 y).2) (O _ _)) z k,A7⟩
theorem YC(A:OK P n nm m1)(C:OK P n nm m2)(B:OK P n nm m3)(f:OK P n nm mk):OK P n nm (.ifs m1 m2 m3 mk):=⟨a4,p7,B7,U7,n7,o7,λu c K h I=>(A.t u c _ h I).casesOn λt c1 E1 z z' k1=>(fY k1).elim
  (λq=>(C.b u _ _ q.2 z).casesOn λfl z' E i k2=>seq (w:=λs=>ZD λx a b p=>(u7 _ _).t s x&&(u7 _ _).b s a&&(u7 _ _).b s b) f (λD y z' w=>nP w λx a b p w=>have w1:=l9 w;have g:=l9 w1.1;SD (E1 D x g.1) (sT q.1 (E D y a g.2))) i k2)
  λq=>(B.b u _ _ q.2 z).casesOn λfl z' E i k2=>seq (w:=λs=>ZD λx a b p=>(u7 _ _).t s x&&(u7 _ _).b s a&&(u7 _ _).b s b) f (λD y z' w=>nP w λx a b p w=>have w1:=l9 w;have g:=l9 w1.1;SD (E1 D x g.1) (tT q.1 (E D y b w1.2))) i k2,A7⟩
theorem LC(g:OK P n nm m):OK P n nm (.ret m):=⟨a4,p7,B7,U7,n7,o7,λu c K h I=>(g.e u c _ h I).casesOn λa c1 E1 i z' k1=>⟨.ret a,c1,λD z' z' w=>fR (Q:=λq=>Xs _ _ _ q _ _) w λt r x z'=>sZ x λe p w=>by
  cases e with
  |none=>exact ff w
  |some e=>exact qU (fP (E1 D e w)),i,k1⟩,A7⟩
theorem QH:OK P n nm .X0:=⟨a4,p7,B7,U7,n7,o7,λu c K h I=>⟨.ret _,c,λD z' z' w=>fR (Q:=λg=>Xs _ _ _ g _ _) w λq r x z'=>sZ x λe p w=>by
  cases e with
  |none=>exact qU WR
  |some e=>exact ff w,I,h⟩,A7⟩
theorem fB:OK P n nm .bad:=⟨a4,p7,B7,U7,n7,o7,λu c K h=>h.elim,A7⟩
theorem sN{o:d9}(h:MM τ o)(p:L6 o=false):nU P τ o:=by
 unfold MM at h;cases e:V6 _ with
 |false=>rw [e] at h;exact cW h p e
 |true=>rw [e] at h;exact(h)▸⟨(λz' z' e=>(by nomatch e)),(λz' z' e=>(by nomatch e)),λz' f z' e j v w=>by cases e;cases w⟩
theorem JH(V:n4 nm)(T:OK P n nm m)(C:OK P n nm mk):OK P n nm (.WW j i τ m mk):=⟨a4,p7,B7,U7,n7,o7,λu c K h I=>(T.o u c _ h I).casesOn λo c1 E1 A z' k1=>(o9 k1).elim λy q=>(I6 q.2).elim λf z=>z.elim λF z=>(o9 z.2.2).elim λp w=>by
  have e:=z.2.1.trans (yh _ (eR w.1));haveI J:=BT A e;obtain⟨N,H,b',Q,k2⟩:=z9 w.2;haveI G:=l9 N;haveI O:=l9 G.2;have a:=l9 O.2;haveI E:=l9 a.2;have g:=K5 a.1;haveI B:∀{t:Tg},t.U9=false->t.ti=none:=λ{t} h=>by unfold Tg.ti;rw [h]
  haveI S:(⟨c1.ρ,c1.t,b'⟩:IC).cx nm=⟨(c1.cx nm).ρ,up (up (c1.cx nm).σ τ o) f (.inst p.1 (T9 p.2 i (.g9 τ)))⟩:=by
   unfold IC.cx IC.σ;dsimp only;refine rR Q ?_;rw [c7 (B g.1),c7 (B g.2.1)]
  haveI R:Inv P (A4 c1.t b'):=by
   exact rR Q (rL (c7 (B g.1)) (rL (c7 (B g.2.1)) ((A.up (sN H (P5 E.1))).up (DV (A f _ e) λy m=>(aV m).elim (λq=>q▸(a.1)) λq=>(A f _ e).hold y q.1))))
  exact N1 (w:=λs=>iY λt e p=>IT _ s j i t&&(u7 _ m).o s e) C (c1:=⟨c1.ρ,c1.t,b'⟩) (λD z' z' w=>v6 w λt r p w=>by
   haveI w1:=l9 w;refine rL S ?_;exact HT w1.1 λN z' Z l k L=>tU (E1 D _ w1.2) ((B0 V).trans (z.1▸q.1)) Z l k (OY G.1)
    ⟨λe=>g.2.2.1 e.symm,d9.t9 (λt h=>(K5 h).2.2.1) (sN (P:=P) H (P5 E.1)).hold,λb o' z' n2 d=>d9.t9 (λt h z=>n2 (Bh ((K5 h).2.2.2.symm.trans (z▸g.2.2.2)))) (A _ _ d).hold,λx v e=>DZ O.1 (λz' h=>Q7 h) e⟩
    e J.1 (J.2 i L) L (λy m n=>((Xg _ _).mp (List.all_eq_true.mp E.2 y m)).elim (λz=>absurd (Hh z) n) λz=>Q7 z) λenv=>xM) R k2,A7⟩
theorem O7{t:Tg}(h:t.U9=false):t.ti=none:=by unfold Tg.ti;rw [h]
theorem BR:(Tg.w7 κ).U9=false:=rfl
theorem HO{t:Dh}:(Tg.ls κ t).U9=false:=by cases κ<;>rfl
theorem WG{t:Dh}:V6 (Tg.ls κ t)=false:=by cases κ<;>rfl
theorem VG{κ':LK}{t f:Dh}(h:Tg.ls κ t= .ls κ' f):t=f:=by cases h;rfl
theorem LH(V:n4 nm)(g:OK P n nm m)(N:OK P n nm mk):OK P n nm (.R3 j i l κ m mk):=⟨a4,p7,B7,U7,n7,o7,λu c K h I=>(g.o u c _ h I).casesOn λo c1 E1 A z' k1=>(o9 k1).elim λy q=>(FN q.2).elim λτ0 z=>z.elim λC z=>z.elim λas z=>z.elim λv z=>(o9 z.2.2.2).elim λy Z=>(o9 Z.2).elim λt S=>(I6 S.2).elim λτ w=>w.elim λh w=>(o9 w.2.2).elim λp g=>by
  haveI r:=BT A z.2.1;obtain⟨d,H,E,b',T,k2⟩:=z9 g.2;haveI k:=l9 d;have R:=l9 k.2;have a:=l9 R.2;have M:=l9 a.2;haveI eτ:=Hh k.1;subst eτ;have e:=w.2.1.trans (yh _ ((M0 g.1).trans (yh (λb=>d9.p9 b _) R.1)));haveI fd:=A _ _ e;have O:(⟨c1.ρ,c1.t,b'⟩:IC).cx nm=⟨(c1.cx nm).ρ,up (up (c1.cx nm).σ (.ls κ t) o) (.w7 κ) (.p9 true (f9 p.2 t (.g9 (.ls κ t))))⟩:=by
   unfold IC.cx IC.σ;dsimp only;refine rR T ?_;rw [c7 (O7 BR),c7 (O7 HO)]
  haveI B:hb (.w7 κ) (.ls κ t)=true:=by cases κ<;>rfl
  haveI f:nU P _ (.p9 true (f9 _ t (.g9 _))):=⟨H7 fd.hold (B),(λz' z' e=>(by nomatch e)),λκ' f e1 O L v q=>by
   cases e1
   cases O
   unfold f9 at q;split at q
   ·rename_i x;refine rL x ?_;exact(Bh q).symm
   ·exact fd.w7 _ _ rfl rfl L v q⟩
  have X:Inv P (A4 c1.t b'):=by
   exact rR T (rL (c7 (O7 BR)) (rL (c7 (O7 HO)) ((A.up (cW H (P5 a.1) WG)).up f)))
  exact N1 (w:=λs=>iY λt e p=>b8 (λo x q=>IT _ s j i o&&DG s _ l x) t&&Q6 e&&(u7 _ m).o s e) N (c1:=⟨c1.ρ,c1.t,b'⟩) (λD z' z' G=>v6 G λh h z' G=>by
   haveI w1:=l9 G;have F:=l9 w1.1;refine rL O ?_;refine z8 F.1 λo z' z' Q=>(HT (l9 Q).1 λd z' Y h x U=> ?_);exact JX (l9 Q).2 λg W J y=>(sU (E1 D _ w1.2) (aG (vX ((B0 V).trans (z.1▸q.1)) Y h x) z.2.1 r.1 (r.2 i U) U (w.1▸z.2.2.1) λenv=>rfl) (vX ((B0 V).trans (r8 S.1▸Z.1)) W J y) (OY M.1))
    ⟨(λe=>(by nomatch e)),d9.t9 (λt h=>(K5 h).2.2.1) H,λh o' z' n2 E=>d9.t9 (λt h z=>n2 (Bh ((K5 h).2.2.2.symm.trans (z▸rfl)))) (A _ _ E).hold,λx v e=>DZ M.2 (λz' h=>Q7 h) e⟩
    e E (λL v n E=>(fd.w7 _ _ rfl rfl L v E)▸(λe=>n (VG e):AV.keeps (·≠Tg.ls _ t) (.g9 _))) λenv=>b4 F.2) X k2,A7⟩
theorem CP{e:Expr}{p:Cf}{D:FD}(h:oD D.env.scope x p e=true){l:Mh}:Nf e (some (.Name x p)) l D.env=pure true:=j5 h λg z' s q w=>by
 haveI w1:=l9 w;haveI f:=l9 w1.1;show(pure (D.env.blockKind== .function&&D.env.kindOf x==some .local&&p.line==q.line&& !(s.names.any λ(n,k)=>n==x&&_)))=pure _;haveI b:D.env.blockKind= .function:=by unfold Env.blockKind;refine rL D.k ?_;rfl
 haveI kk:(D.env.kindOf x==some .local)=true:=f.1;refine rL b ?_;rw [kk,f.2,w1.2];rfl
theorem mS{e:Expr}{p:Cf}(h:oD s x p e=true):X7 (s.names.lookup x)=true:=j5 h λf z' z' q w=>by
 refine rL (beq_iff_eq.mp (l9 (l9 w).1).1) ?_;rfl
theorem CX.store{e:Expr}{x:Str}{p pos:Cf}{ds:xh Jh}(h:CX F U X (ds.map .a9) Y e)(t:X7 (F.env.kindOf x)=true)(q:F.env.func.isSome=true\/F.env.kindOf x=some .local)(g:Nf e (some (.Name x p)) pos.line F.env=pure true):X1 F U X (.Assign [.Name x p] e pos) .next ⟨T9 Y.ρ x (.a9 (.list ds)),Y.σ⟩:=by
 cases h with|mk _ y _ _ _ _ _ E r=>exact r▸EW E t q g
theorem CX.uH{e:Expr}{x:Str}{p pos:Cf}(h:CX F U X ws Y e)(t:¬U τ)(L:UQ Y (.list true ws) τ)(w:X7 (F.env.kindOf x)=true)(q:F.env.func.isSome=true\/F.env.kindOf x=some .local)(g:Nf e (some (.Name x p)) pos.line F.env=pure true):X1 F U X (.Assign [.Name x p] e pos) .next ⟨T9 Y.ρ x (.g9 τ),up Y.σ τ (.list true ws)⟩:=by
 cases h with|mk _ y _ _ _ _ _ E r=>exact r▸rU E t (r▸L) w q g
theorem X1.weak{s:qf}{fl:Fl}{f:Tg->Prop}(h:∀τ,f τ->U τ)(E:X1 F U X s fl Y):X1 F f X s fl Y:=Do.weak h E
theorem OH(V:n4 nm)(B:OK P n nm m)(f:OK P n nm mk):OK P n nm (.wY i m mk):=⟨a4,p7,B7,U7,n7,o7,λu c K h I=>(B.c u c _ h I).casesOn λas c1 E1 A z' k1=>(nZ k1).elim λds q=>
  N1 (c1:=c1.set i _) (w:=λs=>iY λt e p=>O6 (λx q=>decide (x=vn _ i)&&oD s x q e) t&&(u7 _ m).c s e) f (λD g z' w=>v6 w λt e p w=>
   b6 (l9 w).1 λy z' z=>(X5 V)▸Hh (l9 z).1▸X1.weak (λz'=>V5) ((q.1▸E1 D e (l9 w).2).store (mS (l9 z).2) (.inl g) (CP (l9 z).2))) A q.2,A7⟩
theorem GH(V:n4 nm)(G:OK P n nm m)(f:OK P n nm mk):OK P n nm (.vY i τ m mk):=⟨a4,p7,B7,U7,n7,o7,λu c K h I=>(G.c u c _ h I).casesOn λas z' E1 E z' k1=>
  haveI z:=z9 k1;haveI y:=l9 z.1
  (IP z.2 E).casesOn λA L g B z' k2=>
  N1 (c1:=A.set i _) (w:=λs=>iY λt e p=>O6 (λx q=>decide (x=vn _ i)&&oD s x q e) t&&(u7 _ m).c s e) f (λD C z' w=>v6 w λt e p w=>
   b6 (l9 w).1 λH z' z=>(X5 V)▸g.symm▸Hh (l9 z).1▸X1.weak (λz'=>V5) ((E1 D e (l9 w).2).uH (OY y.1) (L y.2) (mS (l9 z).2) (.inl C) (CP (l9 z).2))) B k2,A7⟩
theorem gQ{t:xh (Mh×d9)}{k:Mh}:(t.filter λp=> !decide (p.1=j)).lookup k=if k=j then none else t.lookup k:=by
 induction t with
 |nil=>exact(Zb _).symm
 |cons p t i=>
  refine rL jd ?_;by_cases q:p.1=j
  ·refine rL (Rh q) ?_;rw [Fh (by decide),i,Kg];by_cases z:k=j
   ·exact rL (Lh z) (rL (Lh z) rfl)
   ·exact rL (Fh z) (rL (Fh z) (rL (yg λe=>z (e.trans q)) rfl))
  ·refine rL (Xh q) ?_;rw [Lh (by decide),Kg,Kg,i];by_cases z:k=p.1
   ·subst z;rw [zg];exact(Fh q).symm
   ·exact rL (yg z) rfl
theorem Xs.X6{s:xh qf}{fl:Fl}(H:∀G h,ST F X G h->∃G',Gr U G G'/\ST F Y G' h){Z:Cx}(E:Xs F U Y s fl Z):Xs F U X s fl Z:=Do.X6 H E
theorem MC(V:n4 nm)(A:OK P n nm mk):OK P n nm (.rel i mk):=⟨a4,p7,B7,U7,n7,o7,λu c K h I=>(o9 h).elim λa q=>(XX q.2).elim λτ z=>z.elim λw z=>z.elim λvs z=>(o9 z.2.2).elim λj y=>y.2.elim λds B=>by
  haveI e:=(z9 B.2).1▸B.1▸z.2.1;have L:=GY y.1;subst L;have hσ:∀t,(⟨T9 c.ρ i (.a9 (.list ds)),c.t.filter λp=> !decide (p.1=j),c.b⟩:IC).σ t=if t= .W8 j then none else c.σ t:=λt=>by
   unfold IC.σ;cases q:t.ti with
   |none=>
    refine rL (T8 q) ?_;rw [T8 q,Fh λe=> ?_];rw [e] at q;cases q
   |some k=>
    refine rL (G5 q) ?_;rw [G5 q,gQ,GY q];by_cases z:k=j
    ·exact rL (Lh z) (rL (Lh (yh _ z)) rfl)
    ·exact rL (Fh z) (rL (Fh λe=>z (by cases e;rfl)) rfl)
  haveI O:Inv P (⟨T9 _ i _,c.t.filter λp=> !decide (p.1=j),c.b⟩:IC).σ:=λt o q=>by
   rw [hσ] at q;split at q
   ·cases q
   ·exact I t o q
  exact(A.b u _ K (z9 B.2).2 O).casesOn λfl C J E k2=>⟨fl,C,λD H Q w=>Xs.X6 (λG h S=>by
   obtain⟨G',g,N⟩:=S.give e (λt n=>(hσ t).trans (Fh n)) ((hσ _).trans (Lh rfl)) ((B0 V).trans (z.1▸q.1));refine⟨G',g,?_⟩;haveI:(⟨T9 c.ρ i (.a9 (.list ds)),c.t.filter λp=> !decide (p.1=j),c.b⟩:IC).cx nm=⟨T9 (A0 nm c.ρ) (vn nm i) (.a9 (.list ds)),(⟨T9 c.ρ i (.a9 (.list ds)),c.t.filter λp=> !decide (p.1=j),c.b⟩:IC).σ⟩:=by
    unfold IC.cx;rw [pO V]
   refine rL this ?_;exact N) (J D H _ w),E,k2⟩,A7⟩
variable{keep:xh Mh}{fl:Fl}
theorem xW.cut{f:Expr}(hs:Y.σ=X.σ)(t:∀y v,Y.ρ.lookup y=some v->X.ρ.lookup y=some v){Z:Cx}(E:xW F U Z f vs X):xW F U Z f vs Y:=λG s S=>Yh (E G s S) (λv z' z=>Yh z (λz' z' z=>z.casesOn λp s1 g q r=>⟨p,s1,g,q,r.casesOn λG' e S q I w A z N i h hp=>⟨G',e,S.cut hs t,q,I,w,A,z,N,i,h,hp⟩⟩) λz' z' x=>x) λz' z' x=>x
theorem X1.cut{s:qf}{Z:Cx}(hs:Y.σ=X.σ)(f:∀y v,Y.ρ.lookup y=some v->X.ρ.lookup y=some v)(E:X1 F U Y s fl Z):X1 F U X s fl Z:=Do.X6 (λG h S=>⟨G,.refl,S.cut hs f⟩) E
theorem j4(V:n4 nm)(k:xh Mh)(c:IC):∀y v,((IC.keep k c).cx nm).ρ.lookup y=some v->(c.cx nm).ρ.lookup y=some v:=λy v e=>(u2 V e).1
theorem iI(V:n4 nm)(hb:OK P n nm m){one:Kh}{K:KB}(h:lp ((A9 P n m).b u) (N5 one is) (IC.keep keep) K vs c)(I:Inv P c.σ):RB P nm (λfl X=>∀D:FD,D.env.func.isSome=true->∀t bd,QM D.env.scope nm one is t=true->(u7 nm m).b D.env.scope bd=true->Lp (D.f P n) (um u) t bd fl X vs ((IC.keep keep c).cx nm)) K:=by
 induction vs generalizing c with
 |nil=>exact⟨.next,IC.keep keep c,λD hf t bd w1 w2=>⟨rfl,rfl⟩,I,h⟩
 |cons v vs ih=>
  exact(LU V h I).casesOn λc1 A1 B1 i1 e1 k1=>(hb.b u c1 _ k1 i1).casesOn λfl c2 E2 i2 k2=>by
   cases fl with
   |next=>exact(ih k2 i2).casesOn λfl' c3 E3 i3 k3=>⟨fl',c3,λD hf t bd w1 w2=>⟨_,_,A1 D (.inl hf) t w1,.inl ⟨E2 D hf bd w2,(IC.keep keep c2).cx nm,rfl,j4 V keep c2,E3 D hf t bd w1 w2⟩⟩,i3,k3⟩
   |ret a=>exact⟨.ret a,c2,λD hf t bd w1 w2=>⟨_,_,A1 D (.inl hf) t w1,.inr ⟨E2 D hf bd w2,rfl,nofun⟩⟩,i2,k2⟩
theorem zN(V:n4 nm)(B:OK P n nm m1)(z:OK P n nm m2){one:Kh}{K:KB}(h:NF u is one (A9 P n m1) (A9 P n m2) keep c K)(I:Inv P c.σ):RB P nm (λfl X=>∀D:FD,D.env.func.isSome=true->∀s,cy nm is one (u7 nm m1) (u7 nm m2) D.env.scope s=true->X1 (D.f P n) (um u) (c.cx nm) s fl X) K:=
 (B.e u c _ h I).casesOn λa c1 E1 C z' k1=>(eN k1).elim λvs q=>(iI V z q.2.2 C).casesOn λfl G E i k2=>⟨fl,G,λD A z' w=>XT w λt iter b z' p w=>
  haveI w1:=l9 w;haveI g:=l9 w1.1;haveI y:=l9 g.1;haveI f:=l9 y.1
  (List.isEmpty_iff.mp y.2)▸LJ (xW.cut (X:=c1.cx _) (Y:=(IC.keep _ _).cx _) rfl (j4 V _ _) (Do.iter (E1 D _ g.2) (q.1 _))) (λz' h=>h) q.2.1 (E D A t _ f.1 w1.2) (λx=>PY f.2),i,k2⟩
theorem RH(V:n4 nm){z one:Kh}(A:OK P n nm m1)(t:OK P n nm m2)(p:OK P n nm mk):OK P n nm (.UZ z is one m1 m2 keep mk):=by
 cases z with
 |false=>exact⟨a4,p7,B7,U7,n7,o7,λu c K h I=>(zN V A t h I).casesOn λfl z' E i k=>seq p E i k,A7⟩
 |true=>exact⟨a4,p7,B7,U7,n7,o7,λu c K h I=>(xT h I).casesOn λτ o o' z' e z e1 N z' k1=>(zN V A t k1 N).casesOn λfl z' L B k2=>
   haveI f:=B _ _ k2.1
   (a7 k2.2 B (dW f ((z.k _).mpr f.hold) (λD as=>(z.cls D _).2) λw g=>(z.w7 w g).2) rfl).casesOn λO C H z' J=>
   seq p (λD G s w=>C.symm▸TD z e (X1.weak (λz'=>lX) (e1▸L D G _ w)) k2.1) H J,A7⟩
theorem SH(V:n4 nm)(G:OK P n nm m1)(C:OK P n nm m2)(f:OK P n nm mk):OK P n nm (.GV i m1 m2 keep mk):=⟨a4,p7,B7,U7,n7,o7,λu c K h I=>(G.l u c _ h I).casesOn λvs c1 E1 L z' k1=>
  haveI z:=z9 k1
  (iI V C z.2 L).casesOn λfl z' J H k2=>seq (w:=λs=>oP λt iter g o p=>o.isEmpty&&VM s _ i t&&U5 (λes k p=>(u7 _ _).l s es) iter&&(u7 _ _).b s g) f (λD E z' w=>XT w λt z' g z' p w=>
   haveI w1:=l9 w;haveI A:=l9 w1.1;haveI B:=l9 A.1
   E7 A.2 λes k q y=>(List.isEmpty_iff.mp B.1)▸LJ (xW.cut (X:=c1.cx _) (Y:=(IC.keep _ _).cx _) rfl (j4 V _ _) (zQ (E1 D _ y) (sV z.1 (by decide)))) F0.1 F0.2 (J D E t _ B.2 w1.2) (λx=>rfl)) H k2,A7⟩
theorem VD(V:n4 nm)(h1:OK P n nm m1)(h2:OK P n nm m2){N:Mh}{K:KB}(h:wh ((A9 P n m1).t u) ((A9 P n m2).b u) (IC.keep keep) K N c)(I:Inv P c.σ):RB P nm (λfl X=>∀D:FD,D.env.func.isSome=true->∀x bd,(u7 nm m1).t D.env.scope x=true->(u7 nm m2).b D.env.scope bd=true->Wh (D.f P n) (um u) x bd fl X N ((IC.keep keep c).cx nm)) K:=by
 induction N generalizing c with
 |zero=>exact h.elim
 |succ N ih=>
  exact(h1.t u (IC.keep keep c) _ h I).casesOn λt c1 E1 i1 r1 k1=>(fY k1).elim
   (λq=>(h2.b u c1 _ q.2 i1).casesOn λfl c2 E2 i2 k2=>by
    cases fl with
    |next=>exact(ih k2 i2).casesOn λfl' c3 E3 i3 k3=>⟨fl',c3,λD hf x bd w1 w2=> .inr ⟨_,_,q.1▸E1 D x w1,.inl ⟨E2 D hf bd w2,(IC.keep keep c2).cx nm,rfl,j4 V keep c2,E3 D hf x bd w1 w2⟩⟩,i3,k3⟩
    |ret a=>exact⟨.ret a,c2,λD hf x bd w1 w2=> .inr ⟨_,_,q.1▸E1 D x w1,.inr ⟨E2 D hf bd w2,rfl,nofun⟩⟩,i2,k2⟩)
   λq=>⟨.next,c1,λD hf x bd w1 w2=> .inl ⟨q.1▸E1 D x w1,rfl⟩,i1,q.2⟩
theorem zC(V:n4 nm)(A:OK P n nm m1)(y:OK P n nm m2)(f:OK P n nm mk):OK P n nm (.vU m1 m2 keep mk):=⟨a4,p7,B7,U7,n7,o7,λu c K h I=>h.elim λN h=>(VD V A y h I).casesOn λfl z' E i k=>
  seq (w:=λs=>hX λx g o p=>o.isEmpty&&(u7 _ _).t s x&&(u7 _ _).b s g) f (λD z z' w=>XR w λx g z' p w=>
   haveI w1:=l9 w;haveI q:=l9 w1.1
   (List.isEmpty_iff.mp q.1)▸X1.cut (Y:=(IC.keep _ c).cx _) rfl (j4 V _ c) (lL (E D z x _ q.2 w1.2))) i k,A7⟩
end
section
variable{prog:We}{w:Gc}{A:Kd}{E:Nh->Uh->Prop}{s:Uh}{h0 h h':Pf}{os:xh He}{i j t n:Mh}{o o':He}{x:Nh}{items:gf Nh}
structure Hx(h0 h:Pf)(os:xh He):Prop where
 old:∀c o,h0.get? c=some o->h.get? c=some o
 gt:∀i o,os[i]? =some o->h.get? (h0.objs.size+i)=some o
 sz:h.objs.size=h0.objs.size+os.length
theorem Hx.nil:Hx h h []:=⟨λz' z' e=>e,(λz' z' e=>(by nomatch e)),rfl⟩
theorem Hx.push(B:Hx h0 h os)(b:o.isFreed=false):Hx h0 (h.push o) (os++[o]):=
 ⟨λc o e=>Ng _ (B.old c o e),λi o' e=>(Da i _).elim (λl=>Ng _ (B.gt i _ ((se l).symm.trans e)))
  (λl=>by
   rw [Yg l] at e;cases z:i-os.length with
   |zero=>
    rw [z] at e;exact rR (Bh e) (rL (ue (Nat.le_of_sub_eq_zero z) l) (rR B.sz (Lg _ b)))
   |succ k=>rw [z] at e;cases e),
 (size_push' h o).trans ((yh _ B.sz).trans (yh (h0.objs.size+·) (Ch (bs:=[o])).symm))⟩
def sh(s:Uh)(h:Pf):Uh:={s with heap:=h}
theorem Hx.rB{Q:Nh->Uh->Prop}(B:Hx h0 h os)(a:o.isFreed=false)(k:∀h',Hx h0 h' (os++[o])->Q (.ref (h0.objs.size+os.length)) (sh s h')):Q (.ref h.objs.size) (sh s (h.push o)):=
 B.sz▸k _ (B.push a)
theorem Hx.upd{f:He->He}(B:Hx h0 h os)(e:os[i]? =some o)(a:(f o).isFreed=false):Hx h0 (h.update (h0.objs.size+i) f) (os.set i (f o)):=
 haveI n {c:Mh} {o:He} (z:h0.get? c=some o):h0.objs.size+i≠c:=we (dg (vf z) (Qh _ _))
 ⟨λc o z=>(Heap.get?_update_other _ _ (n z)).trans (B.old c o z),λj o' z=>by
  by_cases q:i=j
  ·rw [<-q,Kf (List.getElem?_eq_some_iff.mp e).1] at z;exact rR q (rR (Bh z) (Yd _ (B.gt i o e) a))
  ·rw [List.getElem?_set_ne q] at z;exact(Heap.get?_update_other _ _ λz=>q (ae z)).trans (B.gt j _ z),
 ((Ie ..).1.trans B.sz).trans (yh _ List.length_set.symm)⟩
section
variable(B:Hx h0 h os)
include B
theorem Hx.new{T:Cc}{data:Data}{Q:Nh->Uh->Prop}(k:∀h',Hx h0 h' (os++[{cls:= .type T,data}])->Q (.ref (h0.objs.size+os.length)) (sh s h'))(hd:sizeOk data)(a:Obj.isFreed {cls:= .type T,data}=false):og (Ff prog w) A (newObj (.type T) data) Q E (sh s h):=
 wpAny_newObj_type (B.rB a k) hd
theorem Hx.fld{vs:gf Nh}{Q:Nh->Uh->Prop}{k:Mh}(e:os[i]? =some o)(hd:o.data= .fields vs)(hx:vs[k]? =some x)(K:Q x (sh s h)):og (Ff prog w) A (field (.ref (h0.objs.size+i)) k) Q E (sh s h):=wpAny_field (B.gt i o e) hd hx K
theorem Hx.ML{vs:gf Nh}{Q:Ib->Uh->Prop}{k:Mh}(e:os[i]? =some o)(hd:o.data= .fields vs)(b:k<vs.size)(K:∀h',Hx h0 h' (os.set i (o.mapFields (·.setIfInBounds k x)))->Q () (sh s h'))(a:(o.mapFields (·.setIfInBounds k x)).isFreed=false:=by rfl):og (Ff prog w) A (setField (.ref (h0.objs.size+i)) k x) Q E (sh s h):=wpAny_setField (B.gt i o e) hd b (K _ (B.upd e a))
theorem Hx.tD{Q:Ah (gf Nh)->Uh->Prop}(e:os[i]? =some o)(hd:o.data= .seq items n)(K:Q (some items) (sh s h)):og (Ff prog w) A (seqItems? (.ref (h0.objs.size+i))) Q E (sh s h):=Vb (B.gt i o e) hd K
theorem Hx.sP{Q:Ib->Uh->Prop}{f:gf Nh->gf Nh}(e:os[i]? =some o)(hd:o.data= .seq items n)(hz:items.size<=Qe)(a:(f items).size<=Qe+1)(K:∀h',Hx h0 h' (os.set i (o.mapSeq f))->Q () (sh s h'))(b:(o.mapSeq f).isFreed=false:=by rfl):og (Ff prog w) A (updateSeq (h0.objs.size+i) f) Q E (sh s h):=wpAny_updateSeq (B.gt i o e) hd (K _ (B.upd e b)) hz a
end
theorem vq:1<=Qe:=by decide
theorem cF:1<=Qe+1:=by decide
theorem DA:2<=Qe:=by decide
theorem CA:2<=Qe+1:=by decide
abbrev iO(t i:Mh):He:={cls:= .type "tuple_iterator",data:= .fields #[.ref t,.int i 0]}
abbrev tO(xs:gf Nh):He:={cls:= .type "tuple",data:= .seq xs}
abbrev iE:He:={cls:= .type "tuple_iterator",data:= .fields #[.none,.int 1 0]}
theorem wi{c:Cc}(e:s.heap.get? i=some o)(q:o.cls= .type c):s.TypeIs (.ref i) c:=⟨o,e,q⟩
theorem IS{Q:Nh->Uh->Prop}(B:Hx h0 h os)(e:os[i]? =some (iO t 0))(ht:h0.get? t=some (r7 #[x] n))(k:∀h',Hx h0 h' (os.set i (iO t 1))->Q x (sh s h')):og (Ff prog w) A (Be (.ref (h0.objs.size+i))) Q E (sh s h):=by
 have ho:=wi (s:=sh s h) (B.gt i _ e) rfl;unfold Be;refine zh (Ce ho Fc (Gf Fc ho entry_tupleiter_next ?_ (args_tupleiter_next _)));exact zh (Ih (zh (B.fld e rfl rfl (zh (B.fld e rfl rfl (zh (Vb (B.old t _ ht) rfl (zh (B.ML e rfl (Oh 2) λh' B=>Ih ⟨x,rfl,Ih (k h' B)⟩)))))))))
theorem pS{α:Type}{Q:α->Uh->Prop}(hh:A.handled=none)(B:Hx h0 h os)(k:∀h' o,Hx h0 h' (os++[tO #[]]++[o])->o.cls= .type "StopIteration"->E (.ref (h0.objs.size+(os++[tO #[]]).length)) (sh s h')):og (Ff prog w) A (Builtin.SmallTypes.stopIteration:ca α) Q E (sh s h):=
 zh (zh (B.new (λh' B=>zh (Ih (B.new (λh' B=>zh (wpAny_handled (hh▸zh (Ih (wpAny_throw (k _ _ B rfl)))))) (by size_fits) rfl))) (by size_fits) rfl))
variable{r:xh He}{a b l1 l2 n':Mh}{v y:Nh}
theorem xG{Q:Nh->Uh->Prop}(hh:A.handled=none)(B:Hx h0 h os)(e:os[i]? =some (iO t 1))(ht:h0.get? t=some (r7 #[x] n))
  (k:∀h' o,Hx h0 h' (os.set i iE++[tO #[]]++[o])->o.cls= .type "StopIteration"->E (.ref (h0.objs.size+(os.set i iE++[tO #[]]).length)) (sh s h')):og (Ff prog w) A (Be (.ref (h0.objs.size+i))) Q E (sh s h):=by
 have ho:=wi (s:=sh s h) (B.gt i _ e) rfl;unfold Be;refine zh (Ce ho Fc (Gf Fc ho entry_tupleiter_next ?_ (args_tupleiter_next _)));exact zh (Ih (zh (B.fld e rfl rfl (zh (B.fld e rfl rfl (zh (Vb (B.old t _ ht) rfl (zh (Bb (zh (B.ML e rfl (je 1) λh' B=>pS hh B k)))))))))))
abbrev zO(h:Pf)(f:Nh):He:={cls:= .type "zip",data:= .fields #[f,.bool false,.bool false,.ref (h.objs.size+2),.ref (h.objs.size+3)]}
abbrev XI(h:Pf)(l1 l2 c i:Mh)(a b f:Nh)(r:xh He):xh He:=iO l1 c::iO l2 i::tO #[.ref (h.objs.size+0),.ref (h.objs.size+1)]::tO #[a,b]::zO h f::r
theorem BN{M:Model}{d β:Type}{a:d}{l:xh d}{b:β}{f:d->β->ca (ForInStep β)}{Q:β->Uh->Prop}(k:og M A (f a b) (λr s'=>og M A (ForInStep.rec (λb=>pure b) (λb=>forIn l b f) r) Q E s') E s):og M A (forIn (a::l) b f) Q E s:=by
 rw [List.forIn_cons];exact zh (Yh k (λr z' h=>by cases r<;>exact h) λz' z' z=>z)
theorem kL{Q:Ah Nh->Uh->Prop}(B:Hx h0 h (XI h0 l1 l2 0 0 .none .none .none r))(d:h0.get? l1=some (r7 #[x] n))(e:h0.get? l2=some (r7 #[y] n'))
  (k:∀h',Hx h0 h' (XI h0 l1 l2 1 1 x y (rawInt (h0.objs.size+(r.length+5):Mh)) (r++[tO #[x,y]]))->Q (some (.ref (h0.objs.size+(r.length+5)))) (sh s h')):og (Ff prog w) A (pyNext (.ref (h0.objs.size+4))) Q E (sh s h):=by
 haveI c:=wi (s:=sh s h) (B.gt 4 _ rfl) rfl;refine zh (wpAny_attempt (Ce c yb (Gf yb c F.entry_zip_next ?_ (F.args_zip_next_1 _))));refine zh (Ih (zh (B.fld rfl rfl rfl (zh (B.fld rfl rfl rfl (zh (B.tD rfl rfl (zh ?_))))))));refine zh (B.fld rfl rfl rfl (Ih (zh (Bb (zh (B.fld rfl rfl rfl (zh (B.ML rfl rfl (je 4) λz' (B)=>zh ?_))))))));refine BN (zh (wpAny_onRaise ?_));refine zh (IS B rfl d λz' (B)=>Ih (zh (B.tD rfl rfl (zh (B.sP rfl rfl DA CA λz' (B)=>zh (wpAny_letGo (Ih ?_)))))));refine BN (zh (wpAny_onRaise ?_));refine zh (IS B rfl e λz' (B)=>Ih (zh (B.tD rfl rfl (zh (B.sP rfl rfl DA CA λz' (B)=>zh (wpAny_letGo (Ih (Ih ?_))))))));exact zh (B.tD rfl rfl (zh (B.new (λz' (B)=>zh (zh (B.ML rfl rfl (je 4) λz' (B)=>B.ML rfl rfl (ke (je 3)) λz' B=>Ih ⟨_,rfl,Ih (k _ B)⟩))) DA rfl)))
theorem TI{Q:Ah Nh->Uh->Prop}(g:A.handled=none)(B:Hx h0 h (XI h0 l1 l2 1 1 x y (rawInt (h0.objs.size+(i+5):Mh)) r))(l:r[i]? =some o)(f:h0.get? l1=some (r7 #[v] n))
  (k:∀h' o' c,Hx h0 h' (iE::iO l2 1::tO #[.ref (h0.objs.size+0),.ref (h0.objs.size+1)]::tO #[x,y]::o'::(r++[tO #[]]++[c]))->Q none (sh s h')):og (Ff prog w) A (pyNext (.ref (h0.objs.size+4))) Q E (sh s h):=by
 haveI d:=wi (s:=sh s h) (B.gt 4 _ rfl) rfl;refine zh (wpAny_attempt (Ce d yb (Gf yb d F.entry_zip_next ?_ (F.args_zip_next_1 _))));refine zh (Ih (zh (B.fld rfl rfl rfl (zh (B.fld rfl rfl rfl (zh (B.tD rfl rfl (zh ?_))))))));refine zh (B.fld rfl rfl rfl (zh (kdx_alive (B.gt _ _ l) ?_)));refine zh (B.fld rfl rfl rfl (zh (B.ML rfl rfl (ke (je 3)) λz' (B)=>Ih ?_)));refine zh ?_;refine rR Sb ?_;exact BN (zh (bf (zh (xG g B rfl f λz' c B e=>zh (zd (wi (B.gt _ c (by rw [Yg (Oh _),pd];rfl)) e) isSubtype_stop (Ih (k _ _ c B)))))))
theorem Hx.Nq{Q:Nh->Uh->Prop}(B:Hx h0 h os)(e:h0.get? t=some (r7 items n))(k:∀h',Hx h0 h' (os++[iO t 0])->Q (.ref (h0.objs.size+os.length)) (sh s h')):og (Ff prog w) A (pyIter (.ref t)) Q E (sh s h):=
 iter_tuple ⟨_,B.old t _ e,rfl,_,rfl⟩ (B.rB rfl k)
theorem SI(l1 l2:Mh)(x y:Nh)(n e:Mh):Meets (Builtin.«zip.__new__» ⟨[.type "zip",.ref l1,.ref l2],[]⟩) λz' R s=>s.heap.get? l1=some (r7 #[x] n)/\s.heap.get? l2=some (r7 #[y] e)/\∀h',Hx s.heap h' (XI s.heap l1 l2 0 0 .none .none .none [])->R (.ok (.ret (.ref (s.heap.objs.size+4)))) (sh s h'):=
 .of_wp λprog w A R s h=>by
  obtain⟨d,c,k⟩:=h;refine zh ?_;show og _ _ (isSubtype (.type "zip") (.type "zip")>>=_) _ _ _;refine zh (Ih (Ih (zh (zh ?_))));refine BN (zh (bf (Hx.nil.Nq d λz' (B)=>Ih (BN (zh (bf (B.Nq c λz' (B)=>Ih (Ih (Ih ?_)))))))));refine zh (B.new (λz' (B)=>zh (B.new (λz' (B)=>zh ?_) DA rfl)) DA rfl);show og _ _ (newObj (.type "zip") (.fields #[.none,.bool false,.bool false,.ref (s.heap.objs.size+2),.ref (s.heap.objs.size+3)])) _ _ _;exact B.new (λh' B=>Ih ⟨_,rfl,k h' B⟩) (by size_fits) rfl
theorem rM{Q:Nh->Uh->Prop}(h1:s.heap.get? l1=some (r7 #[x] n))(h2:s.heap.get? l2=some (r7 #[y] n'))(k:∀h',Hx s.heap h' (XI s.heap l1 l2 0 0 .none .none .none [])->Q (.ref (s.heap.objs.size+4)) (sh s h')):og (Ff prog w) A (call (.type "zip") [.ref l1,.ref l2]) Q E s:=
 callType_new F.called_zip (by decide) (F.typeCall_zip_2 _ _) (F.newCall_zip_2 _ _) (λg9=>F.args_object_init_3 g9 _ _) F.entry_zip_new (SI l1 l2 x y n n') ⟨h1,h2,λh' B=>⟨wi (B.gt 4 _ rfl) rfl,k h' B⟩⟩
abbrev lO(xs:gf Nh)(c:Mh):He:={cls:= .type "list",data:= .seq xs c}
theorem PQ{Q:Nh->Uh->Prop}(hh:A.handled=none)(B:Hx h0 h (XI h0 l1 l2 0 0 .none .none .none []))(h1:h0.get? l1=some (r7 #[x] n))(h2:h0.get? l2=some (r7 #[y] n'))
  (k:∀h' c os',Hx h0 h' os'->os'[5]? =some (lO #[.ref (h0.objs.size+6)] c)->os'[6]? =some (tO #[x,y])->Q (.ref (h0.objs.size+5)) (sh s h')):og (Ff prog w) A (call (.type "list") [.ref (h0.objs.size+4)]) Q E (sh s h):=by
 refine callType_codes (Q₁:=λg9 s₁=>∃h1,g9= .ref (h0.objs.size+5)/\s₁=sh s h1/\Hx h0 h1 (XI h0 l1 l2 0 0 .none .none .none [lO #[] 0])) PySem.F.called_list (PySem.F.typeCall_list_1 _) PySem.F.entry_list_init (code_list_new _ (B.rB (Q:=λv s1=>∃h1,v= .ref (h0.objs.size+5)/\s1=sh s h1/\Hx h0 h1 _) rfl λh' B=>⟨h',rfl,rfl,B⟩)) λg9 s₁ h₁=> ?_;obtain⟨h,rfl,rfl,B⟩:=h₁;refine⟨wi (B.gt 5 _ rfl) rfl,PySem.F.args_list_init_2 _ _,?_⟩;refine zh (zh (B.tD rfl rfl (Ih (zh (B.sP rfl rfl (ng _) (ng _) λz' (B)=>zh (wpAny_letGo ?_))))));unfold Xd;have hT:=wi (s:=sh s _) (B.gt 4 _ rfl) rfl;refine zh (Ab hT (Zg (λz=>absurd z ?_) λz'=> ?_))
 ·have g:Aa (.ref (h0.objs.size+5)) (.ref (h0.objs.size+4))=false:=yg λq=>absurd (ae q) (by decide);rw [g]
  decide
 refine zh (wpAny_pyIter_zip (B.gt 4 _ rfl) (zh (bf ?_)));refine zh (Qd hT (show typeLookup (.type "zip") "__len__"=pure none by rw [typeLookup_type,builtinLookup_eq_fast];kernel_rfl) (zh (Qd hT (show typeLookup (.type "zip") "__length_hint__"=pure none by rw [typeLookup_type,builtinLookup_eq_fast];kernel_rfl) (Ih ?_))));refine zh (Bb (zh (zh (B.sP rfl rfl (ng _) cF λz' (B)=>B.sP rfl rfl vq (ng _) λz' (B)=>Ih ⟨Ld rf _,Qf Ue ?_⟩))));rw [Tf rf _];refine zh (kL B h1 h2 λz' (B)=>zh (B.sP rfl rfl (ng _) cF λz' (B)=>Ih ⟨Ld rf _,Qf Ue ?_⟩));rw [Tf rf _];exact zh (TI hh B rfl h1 λz' z' z' B=>Ih ⟨rfl,k _ 3 _ B rfl rfl⟩)
variable{c c1:Cx}{F:Fm}{U:Tg->Prop}{G:Gh}{d e:Jh}
theorem aO{P:Mh->Ah He}{items:gf Nh}(r:F3 P [d] items.toList):∃x,items=#[x]/\DR P d x:=by
 obtain⟨x,y,e,a,b⟩:=r;exact⟨x,Array.toList_inj.mp (e.trans (yh _ b)),a⟩
theorem hE{x y:Str}{es:xh Expr}{p j a f:Cf}(Q:LD F c x p (.type "list"))
  (N:LD F c y j (.type "zip")) (E:VT F U c es [.a9 (.tuple [d]),.a9 (.tuple [e])] c1)
  (i:(Td a (Hf es F.env)).any (·.1)=false) (n:(Td f (Hf [.Call (.Name y j) es [] a] F.env)).any (·.1)=false):
  Ev F U c (.Call (.Name x p) [.Call (.Name y j) es [] a] [] f) (.a9 (.list [.tuple [d,e]])) c1:=λG s S=>by
 refine Call_Name rfl (Q G s S _ λs1 h W=>callWith_of (by rfl) lZ (XZ (Q0:=λvs m=>∃z,vs=[.ref z]/\F.W.K.In m.heap/\og (Mk F.W) F.A (call (.type "list") [.ref z]) (RA F U c1 G s λG=>F9 G (.a9 (.list [.tuple [d,e]]))) no m) (spliced_more ?_) n λvs z' ⟨z,e,x,y⟩=>by subst e;exact⟨x,y⟩));refine Call_Name rfl (N G _ (h▸S) _ λm l L=>callWith_of (rL i rfl) lZ (H0 E (l▸h▸S) i λvs k z=> ?_));obtain⟨T,J,b,V,O⟩:=z;refine⟨b.SX,?_⟩;obtain⟨A,u,rfl,o,r⟩:=W5 V;obtain⟨l1,X,Z,rfl,M,o⟩:=o;obtain⟨l2,R,n2,rfl,j,r⟩:=r;obtain⟨A,rfl,Y⟩:=aO o;obtain⟨u,rfl,H⟩:=aO r;haveI C:=b.sr.y9 _ _ (.inl M);have t:=b.sr.y9 _ _ (.inl j);refine rM C t λh q=>Ih ⟨_,rfl,(b.keeps q.old).SX,PQ b.fr.st.mU q C t λh K z' B P I=> ?_⟩;have w:¬T.has (k.heap.objs.size+6):=b.sr.fresh (Qh _ _);haveI D:k.heap.objs.size+5≠k.heap.objs.size+6:=λz=>absurd (ae z) (by decide);have v:=MS (ob:=tO #[A,u]) D (b.sr.fresh (Qh _ 5));haveI g:=(Gr.y9 (U:=U) w).trans (.y9 v (ob:=lO #[.ref (k.heap.objs.size+6)] K));exact⟨_,J.trans g,(((b.keeps B.old).u4 w (b.fr.fresh (Qh _ _)) (B.gt 6 _ I)).u4 v (b.fr.fresh (Qh _ _)) (B.gt 5 _ P)),⟨_,_,_,rfl,Lh rfl,_,_,rfl,⟨_,_,_,rfl,(Fh D.symm).trans (Lh rfl),_,_,rfl,DR.mono g.p _ _ Y,_,_,rfl,DR.mono g.p _ _ H,rfl⟩,rfl⟩,W.trans (L.trans (O.trans (SS.heap _ _)))⟩
variable{K:Mh->Dh}{cmp:Mh->Mh->(Kh->Uh->Prop)->Uh->Prop}{p:gf Mh}
def ky(K:Mh->Dh)(p:gf Mh)(i:Mh):Dh:=K (p.getD i 0)
def PN(n:Mh)(p:gf Mh):Prop:=p.Perm (ug n).toArray
def yW(n:Mh)(K:Mh->Dh)(cmp:Mh->Mh->(Kh->Uh->Prop)->Uh->Prop)(s:Uh):Prop:=
 ∀p i j C,PN n p->i<n->j<n->i≠j->(ky K p i<ky K p j->C true s)->(ky K p j<ky K p i->C false s)->cmp (p.getD i 0) (p.getD j 0) C s
def vW(K:Mh->Dh)(p:gf Mh)(m:Mh):Prop:=∀i,i+1<m->ky K p i<ky K p (i+1)
def iL(K:Mh->Dh)(p:gf Mh)(m:Mh):Prop:=∀i,i+1<m->ky K p (i+1)<ky K p i
theorem PN.size(h:PN n p):p.size=n:=(Array.Perm.size_eq h).trans (List.size_toArray.trans Qg)
theorem YS{p q:gf Mh}{i j:Mh}(h:p[i]? =q[j]?):ky K p i=ky K q j:=by
 unfold ky;refine rL (Le) ?_;rw [Le,h]
theorem vW.snoc{m:Mh}(h:vW K p m)(g:ky K p (m-1)<ky K p m):vW K p (m+1):=λi a=>
 (Da _ m).elim (h i) λl=>haveI e:=ue (Yf a) l
  by rw [<-e] at g;exact g
theorem iL.snoc{m:Mh}(h:iL K p m)(g:ky K p m<ky K p (m-1)):iL K p (m+1):=λi a=>
 (Da _ m).elim (h i) λl=>haveI e:=ue (Yf a) l
  by rw [<-e] at g;exact g
theorem vW.lt{m i j:Mh}(h:vW K p m)(l:i<j):j<m->ky K p i<ky K p j:=by
 obtain⟨d,rfl⟩:=Yc l;induction d with
 |zero=>exact h i
 |succ d b=>exactλz=>Int.lt_trans (b (Nc (Qh i d)) (Oc z)) (h _ z)
theorem AM{Q:Mh->Uh->Prop}(A:yW n K cmp s)(hp:PN n p)(k:∀r,1<=r->r<=n->vW K p r->(r<n->ky K p r<ky K p (r-1))->Q r s)(f:Mh):∀m,1<=m->m+f=n->vW K p m->(kas_asc p f m).kasWp cmp Q s:=by
 induction f with
 |zero=>exactλm h e a=>k m h (Ph e) a λl=>absurd e (Uf l)
 |succ f i=>
  exactλm h e a=>have l:=e▸Df (Lf f);
  A p m _ _ hp l (eg (dc m 1) l) (we (Nat.sub_lt h Sa)) (λc=>k m h (lf l) a λz'=>c) λc=>i _ (vg h) ((Og m f).trans e) (a.snoc c)
theorem bJ{Q:gf Mh×Mh×Mh->Uh->Prop}(A:yW n K cmp s)(hp:PN n p)(k:∀r,1<=r->r<=n->iL K p r->Q (p,r,0) s)(f:Mh):∀m,1<=m->m+f=n->iL K p m->(kas_desc f p m 0).kasWp cmp Q s:=by
 induction f with
 |zero=>exactλm h e a=>k m h (Ph e) a
 |succ f i=>
  exactλm h e a=>have l:=e▸Df (Lf f);have l1:=eg (dc m 1) l;haveI b:=we (Nat.sub_lt h Sa);
  A p m _ _ hp l l1 b (λc=>i _ (vg h) ((Og m f).trans e) (a.snoc c))
   λc=>A p _ m _ hp l1 l b.symm (λz'=>k m h (lf l) a) λc'=>absurd c (gb c')
theorem TO{m:Mh}(hm:m<=p.size){i:Mh}(h:i<m):ky K (kas_rev p 0 m) i=ky K p (m-1-i):=
 YS ((getElem?_mirror_all hm i).trans ((Lh ⟨ng _,h⟩).trans (by rw [kf])))
theorem iL.rev{m:Mh}(hm:m<=p.size)(h:iL K p m):vW K (kas_rev p 0 m) m:=λi a=>by
 refine rL (TO hm a) (rL (TO hm (Oc a)) ?_);obtain⟨d,rfl⟩:=Yc a;rw [da,Nat.add_sub_cancel_left,Wg,Nat.add_sub_cancel_left,af 1];exact h d (ke (Nat.lt_add_of_pos_left (Lf i)))
theorem BL{Q:Mh×gf Mh->Uh->Prop}(A:yW n K cmp s)(hp:PN n p)(k:∀r q,PN n q->1<=r->r<=n->vW K q r->Q (r,q) s){m:Mh}(b:1<=m)(hm:m<=n)(h:iL K p m):(kas_tail3 m n p).kasWp cmp Q s:=by
 unfold kas_tail3;rw [mc];have a:PN n (kas_rev p 0 m):=(mirror_perm _ _ _ _).trans hp;exact AM A a (λr c d u z'=>k r _ a c d u) _ m b (xd hm) (h.rev (hp.size▸hm))
theorem RV{Q:Mh×gf Mh->Uh->Prop}(A:yW n K cmp s)(hp:PN n p)(k:∀r q,PN n q->1<=r->r<=n->vW K q r->Q (r,q) s){m:Mh}(a:1<=m)(hm:m<n)(h:iL K p (m+1)):(kas_descPart m n p).kasWp cmp Q s:=by
 unfold kas_descPart;rw [mc];exact bJ A hp (λr b c d=>BL A hp k b c d) _ _ (vg a) (xd hm) h
theorem iM{Q:Mh×gf Mh->Uh->Prop}(A:yW n K cmp s)(hp:PN n p)(hn:1<=n)(k:∀r q,PN n q->1<=r->r<=n->vW K q r->Q (r,q) s):(kas_count n p).kasWp cmp Q s:=by
 unfold kas_count;rw [mc];refine AM A hp (λr h a u e=> ?_) _ 1 (Oh _) (xd hn) λi b=>absurd (Mf b) (pc i);by_cases q:r=n
 ·exact(Lh (beq_iff_eq.mpr q))▸k r p hp h a u
 ·haveI l:=Nat.lt_of_le_of_ne a q;refine rL (Fh λz=>q (beq_iff_eq.mp z)) ?_;by_cases g:r>1
  ·exact rL (Lh g) (A p 0 (r-1) _ hp (dg h a) (eg (dc r 1) l) (Uf (Lc g)) (λz'=>k r p hp h a u) λc=>absurd c (gb (u.lt (Lc g) (Nat.sub_lt h Sa))))
  ·refine rL (Fh g) ?_;exact RV A hp k h l (iL.snoc (λi b=>by rw [(ue (me g) h)] at b;exact absurd (Mf b) (pc i)) (e l))
theorem VP{Q:Mh->Uh->Prop}(A:yW n K cmp s)(hp:PN n p){k:Mh}(t:k<n)(C:∀x,x<=k->(∀i,i+1=x->ky K p i<ky K p k)->(x<k->ky K p k<ky K p x)->Q x s)(f:Mh):∀l r,r<=l+f->l<=r->r<=k->(∀i,i+1=l->ky K p i<ky K p k)->(r<k->ky K p k<ky K p r)->(kas_place p k f l r).kasWp cmp Q s:=by
 induction f with
 |zero=>exactλl r g h d a b=>C l (vh h d) a ((ue g h:r=l)▸b)
 |succ f o=>
  intro l r g h d a b;unfold kas_place;by_cases q:l≥r
  ·exact rL (Lh q) (C l (vh h d) a (ue q h▸b))
  ·refine rL (Fh q) ?_;haveI j:=(Nat.le_div_iff_mul_le Nat.zero_lt_two).mpr (by rw [Nat.mul_two];exact Sh h l);have m2:=Nat.div_lt_of_lt_mul (by rw [Nat.two_mul];exact Nat.add_lt_add_right (Xc q) r);haveI m:=dg m2 d;exact A p k _ _ hp t (Ca m t) (we m) (λc=>o l _ (Yf (dg m2 g)) j (lf m) a λz'=>c)
    λc=>o _ r (by rw [Og];exact vh g (ef j _)) m2 d (λi e=>Nat.succ.inj e▸c) b
theorem rF{i j d:Mh}(hs:i<p.size)(h:i=j+d)(k:Mh):ky K (bubble p i d) k=if k=j then ky K p i else if j<k/\k<=i then ky K p (k-1) else ky K p k:=by
 haveI e:=getElem?_bubble hs d (h▸ib d j) k;rw [(Nat.sub_eq_of_eq_add h)] at e;by_cases a:k=j
 ·rw [Lh a] at e⊢;exact YS e
 ·rw [Fh a] at e⊢;by_cases b:j<k/\k<=i
  ·rw [Lh b] at e⊢;exact YS e
  ·rw [Fh b] at e⊢;exact YS e
theorem IE{Q:gf Mh->Uh->Prop}(A:yW n K cmp s)(C:∀q,PN n q->vW K q n->Q q s)(f:Mh):∀p k,k+f=n->PN n p->vW K p k->(kas_bin f p k).kasWp cmp Q s:=by
 induction f with
 |zero=>exactλp k e hp u=>C p hp (e▸u)
 |succ f m=>
  intro p k e hp u;have j:=e▸Df (Lf f);unfold kas_bin;rw [mc];refine VP A hp j (λl hl a b=>m _ _ ((Og k f).trans e) ((bubble_perm _ _ _).trans hp) λi o=> ?_) k 0 k (Ph (kf k).symm) (ng k) (Oh k) (λi e=>(by nomatch e)) λz=>absurd z (Nat.lt_irrefl k);haveI g:=rF (K:=K) (hp.size▸j) (xd hl).symm;rw [g,g];haveI c:=Mf o;rcases Nat.lt_trichotomy i l with z|rfl|z
  ·refine rL (Fh (Uf z)) (rL (Fh λy=>Nat.lt_asymm z y.1) ?_);by_cases y:i+1=l
   ·refine rL (Lh y) ?_;exact a i y
   ·exact rL (Fh y) (rL (Fh λx=>Nat.not_lt.mpr z x.1) (u i (dg (Nat.lt_of_le_of_ne z y) hl)))
  ·exact rL (Lh rfl) (rL (Fh (Ka i)) (rL (Lh ⟨uf i,c⟩) (b c)))
  ·refine rL (Fh (we z)) ?_;rw [Lh ⟨z,lf c⟩,Fh (we (Mc z)),Lh ⟨Mc z,c⟩];obtain⟨d,rfl⟩:=Yc z;exact u (l+d) c
theorem IL{Q:gf Mh->Uh->Prop}(A:yW n K cmp s)(hn:1<=n)(C:∀q,PN n q->vW K q n->Q q s):(kas_sort n).kasWp cmp Q s:=by
 unfold kas_sort;rw [mc];refine iM A (Array.Perm.refl _) hn λr q hq h1 h2 u=> ?_;by_cases z:r<n
 ·rw [Lh z];rw [Nat.max_eq_left h1];exact IE A C (n-r) q r (xd h2) hq u
 ·rw [Fh z];exact C q hq (ue h2 (me z)▸u)
end
section
variable{prog:We}{w:Gc}{A:Kd}{E:Nh->Uh->Prop}{s:Uh}{a b n m:Mh}{xs ys:gf Nh}{x y:Dh}{t u:Tok}
theorem FO{Q:Kh->Uh->Prop}(ha:s.heap.get? a=some (r7 xs n))(hb:s.heap.get? b=some (r7 ys m))(ex:xs[0]? =some (.int x t))(ey:ys[0]? =some (.int y u))(ne:x≠y)(h:Q (decide (x<y)) s):og (Ff prog w) A (keyLt' (tuples' true) (.ref a) (.ref b)) Q E s:=by
 refine kat_lt ha rfl hb rfl ?_;rw [<-jf] at ex ey;cases e1:xs.toList with
 |nil=>rw [e1] at ex;cases ex
 |cons p ps=>cases e2:ys.toList with
  |nil=>rw [e2] at ey;cases ey
  |cons q qs=>
   rw [e1] at ex;rw [e2] at ey;cases ex;cases ey;exact kat_cons (wpAny_eqBool_int (yg ne▸kat_no (oneLt_int h)))
variable{l:Mh}{vs:xh Nh}{K:Mh->Dh}{h0 h:Pf}
def dU(h:Pf)(vs:xh Nh)(K:Mh->Dh):Prop:=∀i,i<vs.length->∃b items m t,vs.getD i .none= .ref b/\h.get? b=some (r7 items m)/\items[0]? =some (.int (K i) t)
def fh(vs:xh Nh)(p:gf Mh):gf Nh:=Xe (p.toList.map λi=>vs.getD i Value.none)
def ph(n:Mh)(K:Mh->Dh):Prop:=∀i j,i<n->j<n->i≠j->K i≠K j
theorem dV{n:Mh}{p:gf Mh}(h:PN n p){i:Mh}(b:i<n):p.getD i 0<n/\p.toList[i]? =some (p.getD i 0):=by
 have hs:=h.size.symm▸b;haveI e:=qe hs;haveI a:p.getD i 0=p[i]:=by refine rL (Le) (rL e ?_);rfl
 exact rL a (rL (jf) (rL e (⟨List.mem_range.mp ((Array.perm_iff_toList_perm.mp h).mem_iff.mp (Array.getElem_mem_toList _)),rfl⟩)))
theorem hG{n:Mh}{p:gf Mh}(h:PN n p){i j:Mh}(a:i<n)(c:j<n)(b:i≠j):p.getD i 0≠p.getD j 0:=λe=>by
 exact b ((List.getElem?_inj (rL qg (rL h.size a)) ((Array.perm_iff_toList_perm.mp h).nodup_iff.mpr List.nodup_range)).mp (((dV h a).2).trans ((yh _ e).trans (dV h c).2.symm)))
theorem qh(B:∀b o,h0.get? b=some o->h.get? b=some o)(H:dU h0 vs K)(I:ph vs.length K):yW vs.length K (kas_cmp prog w A (tuples' true) (pairsOf vs)) (sh s h):=λp i j C hp c d e k1 k2=>by
 rw [<-kas_ask_eq];have a:=(dV hp c).1;have b:=(dV hp d).1;obtain⟨b1,r,q,v,e1,g,k⟩:=H _ a;obtain⟨b2,u,m2,t,m,f,x⟩:=H _ b;have n:=I _ _ a b (hG hp c d e);unfold kas_ask;refine rL e1 (rL m ?_);refine FO (B _ _ g) (B _ _ f) k x n ?_;by_cases z:K (p.getD i 0)<K (p.getD j 0)
 ·refine rL (Rh z) ?_;exact k1 z
 ·refine rL (Xh z) ?_;exact k2 (Int.lt_iff_le_and_ne.mpr ⟨Int.not_lt.mp z,n.symm⟩)
theorem dU.fw(H:dU h vs K):∃fs,KatTups h vs fs/\fs.length=vs.length/\∀f∈fs,∃i t,f= .int i t:=by
 induction vs generalizing K with
 |nil=>exact⟨[],trivial,rfl,λz' m=>(by nomatch m)⟩
 |cons v _ o=>
  obtain⟨b,items,m,t,e,g,x⟩:=H 0 (Lf _);obtain⟨fs,a,k,d⟩:=o λi j=>H _ (ke j);exact⟨_::fs,(e)▸KatTups.cons g rfl rfl x a,yh (·+1) k,λf m=>(List.mem_cons.mp m).elim (λe=>⟨_,_,e⟩) (d f)⟩
theorem HP(B:∀b o,h0.get? b=some o->h.get? b=some o)(H:dU h0 vs K):og (Ff prog w) A (if vs.toArray.size<2 then pure general' else keyKind' vs.toArray) (λk s'=>s'=sh s h/\(¬vs.toArray.size<2->k=(tuples' true))) E (sh s h):=by
 by_cases z:vs.toArray.size<2
 ·refine rL (Lh z) ?_;exact Ih ⟨rfl,λn=>absurd z n⟩
 ·refine rL (Fh z) ?_;obtain⟨fs,a,e,c⟩:=dU.fw (λi d=>(H i d).imp λb q=>q.imp λz' q=>q.imp λz' q=>q.imp λz' q=>⟨q.1,B _ _ q.2.1,q.2.2⟩);refine kat_kind (T:= .type "int") a (e▸dg Nat.zero_lt_two (me z)) (λv m=> ?_) (by decide) ⟨rfl,λz'=>rfl⟩;obtain⟨i,t,rfl⟩:=c v m;exact .now
theorem GL{k:SortKind}(v:A.units<cLine)(B:∀b o,h0.get? b=some o->h.get? b=some o)(H:dU h0 vs K)(I:ph vs.length K)(d:vs.length<64)(g:¬vs.toArray.size<2->k=(tuples' true)):
  og (Ff prog w) A ((if vs.toArray.size<2 then pure () else sortRuns').run (SortSt.mk' k (vs.toArray.zip vs.toArray) #[] 7 none)) (λr s'=>s'=sh s h/\∃p,PN vs.length p/\vW K p vs.length/\arrOf r.2=p.map (kas_item (pairsOf vs))/\failedOf r.2=none) E (sh s h):=by
 haveI e:=kas_range (pairsOf vs);rw [pairsOf_size] at e;by_cases z:vs.toArray.size<2
 ·exact rL (Lh z) (Ih ⟨rfl,_,Array.Perm.refl _,λi t=>absurd (dg t (Yf z)) (Nat.not_lt.mpr (Vh (ng i))),e.symm,rfl⟩)
 ·refine rL (Fh z) (rL (g z) ?_);haveI a:=kas_runs (E:=E) (n:=vs.length) (G:=λq s'=>s'=sh s h/\PN _ q/\vW K q _) (Q:=λz' c s'=>s'=sh s h/\∃p,PN _ p/\vW K p _/\arrOf c=p.map _/\failedOf c=none) (me z) d (λp' z' z' z' u m f=>⟨f.1,p',f.2.1,f.2.2,u,m⟩) (IL (qh (prog:=prog) (w:=w) (A:=A) B H I) (vh (Vg 1) (me z)) λq j up=>⟨rfl,j,up⟩);unfold kas_st at a;rw [e] at a;exact a
theorem zF{M:Model}{d β:Type}{c:Prop}[ub c]{a b:ca d}{f:d->ca β}{Q:β->Uh->Prop}(h:og M A ((if c then a else b)>>=f) Q E s):og M A (if c then a>>=f else b>>=f) Q E s:=by
 by_cases z:c
 ·rw [Lh z] at h⊢;exact h
 ·rw [Fh z] at h⊢;exact h
theorem LO{i:Mh}{a:xh He}{P:PySem.Fin->Uh->Prop}(v:A.units<cLine)(B:Hx h0 h a)(e:a[i]? =some (lO vs.toArray n))(d:vs.length<64)(H:dU h0 vs K)(I:ph vs.length K)
  (k:∀h' c p b,PN vs.length p->vW K p vs.length->Hx h0 h' b->b[i]? =some (lO (fh vs p) c)->P (.done (.ret .none)) (sh s h')):og (Ff prog w) A (Builtin.«list.sort» ⟨[.ref (h0.objs.size+i)],[]⟩) P E (sh s h):=by
 have z:vs.length<=Qe:=vh (lf d) (by decide);have l:=(List.getElem?_eq_some_iff.mp e).1;haveI m:∀{a:xh He} {o r},i<a.length->(a.set i o++r)[i]? =some o:=λ{a o r} l=>by
  rw [se (rL List.length_set l),Kf l]
 rw [list_sort_plain];refine zh (listItems_at (B.gt i _ e) rfl (zh (B.sP e rfl z (ng _) λD g=> ?_)));refine zh (seqEpoch_at (g.gt i _ (Kf l)) rfl (zh (g.new (λJ x=>zh (x.new (λF u=>bf ?_) (ng _) rfl)) z rfl)));have f:=ag ..▸u;refine zF (zh (Yh (HP f.old H) (λkd z' y=> ?_) λz' z' z=>z));refine rL y.1 ?_;refine zh (Yh (GL v f.old H I d y.2) (λr z' y=> ?_) λz' z' z=>z);obtain⟨e1,p,hp,up,C,q⟩:=y;have j:(arrOf r.2).map (·.2)=fh vs p:=by
  apply Array.toList_inj.mp;exact rL C (rL Array.map_map (rL Array.toList_map (ze λi z'=>yh _ (kas_item_eq _ i))))
 refine rL e1 ?_;refine zh (seqEpoch_at (f.gt i _ (m l)) rfl (zh (f.sP (m l) rfl (ng _) ?_ λG t=> ?_)))
 ·show((arrOf _).map _).size<=_;refine rL j ?_;show(Xe _).size<=_;refine rL Ic ?_;rw [Eh,qg,hp.size];exact vg z
 ·refine rL q ?_;refine Zg (λz=>absurd z ?_) λz'=>Ih (k _ ?_ p _ hp up t ?_)
  ·rw [bne_self_eq_false];decide
  rotate_left
  ·refine rL (Kf (by rw [Ch,List.length_set];exact dg l (Qh _ _))) ?_;exact yh (λz=>some (lO z _)) j
theorem sM{Q:Nh->Uh->Prop}(g:A.units+64<cLine)(hl:s.heap.IsList l vs.toArray)(b:vs.length<64)(H:dU s.heap vs K)(I:ph vs.length K)
  (k:∀h' c p a,PN vs.length p->vW K p vs.length->Hx s.heap h' a->a[1]? =some (lO (fh vs p) c)->Q (.ref (s.heap.objs.size+1)) (sh s h')):og (Ff prog w) A (call (.builtin "sorted") [.ref l]) Q E s:=by
 have z:vs.length<=Qe:=vh (lf b) (by decide);refine Calls.call_function_entry kind_sorted plain_sorted entry_sorted (args_sorted1 _) (zh (Ih (zh (collect_list hl ?_ z))));haveI B:=((Hx.nil (h:=s.heap)).push (o:=seqObj "list" #[] 0) rfl).upd (i:=0) (f:=Obj.mapSeq (·++vs.toArray)) rfl rfl;refine zh (B.new (λj d=> ?_) z rfl);refine zh (bf (Gf slot_list_sort (wi (d.gt 1 _ rfl) rfl) entry_list_sort (LO (eg (Sh (by decide:2<=64) _) g) d rfl b H I λh' c p a hp up B e=>⟨_,rfl,Ih ⟨_,rfl,k _ c p _ hp up B e⟩⟩) (args_list_sort _)))
end
section
variable{c:Cx}{F:Fm}{U:Tg->Prop}{a:AV}{L L1 L2:xh (xh Dh)}
theorem GK{d:Type}{f:d->Dh}{l:xh d}:(l.map f).Nodup->∀{a b},a∈l->b∈l->f a=f b->a=b:=by
 induction l with
 |nil=>exactλz' {a b} m=>(by nomatch m)
 |cons x l i=>
  intro h a b j g e;haveI h:=List.nodup_cons.mp h;exact(List.mem_cons.mp j).elim (λp=>(List.mem_cons.mp g).elim (λq=>p.trans q.symm) λq=>(h.1 (List.mem_map.mpr ⟨b,q,by refine rR p ?_;exact e.symm⟩)).elim) λp=>(List.mem_cons.mp g).elim (λq=>(h.1 (List.mem_map.mpr ⟨a,p,by refine rR q ?_;exact e⟩)).elim) λq=>i h.2 p q e
theorem GP(L:xh (xh Dh)):(U4 L).Pairwise λx y=>x.headD 0<=y.headD 0:=
 (List.pairwise_mergeSort (le:=λx y=>decide (x.headD 0<=y.headD 0)) (λa b c d h=>Rh (Vd (Hh d) (Hh h))) (λa b=>(Xg ..).mpr ((Int.le_total _ _).imp Rh Rh)) L).imp Hh
theorem SW(p:L1.Perm L2)(h:NI L2)(s:L1.Pairwise λx y=>x.headD 0<=y.headD 0):L1=U4 L2:=
 Na (λa b ha hb h1 h2=>GK h.2 (p.mem_iff.mp ha) ((qc L2 _).mem_iff.mp hb) (nb h1 h2)) s (GP L2) (p.trans (qc L2 _).symm)
theorem r9.qv{b β d:Type}{R:β->d->Prop}{f:b->β}{g:b->d}{l:xh b}:(∀i∈l,R (f i) (g i))->r9 R (l.map f) (l.map g):=by
 induction l with
 |nil=>exactλz'=> .nil
 |cons x l e=>exactλh=> .cons (h x (.head _)) (e λi m=>h i (.tail _ m))
theorem HY{b:Type}{d:b}{l:xh b}:(ug l.length).map (λi=>l.getD i d)=l:=by
 induction l with
 |nil=>rfl
 |cons x l e=>refine rL Ze (rL List.range_succ_eq_map (rL Hg (rL jg ?_)));exact yh _ e
theorem NX{b:Type}{d:b}{l:xh b}{i:Mh}(h:i<l.length):l[i]? =some (l.getD i d):=by
 refine rL (Bc) (rL (Fg h) ?_);rfl
theorem yB(hl:Ls c.σ a ((sQ L).map .a9))(hz:L.length<64)(hd:NI L):O4 F U c (λxs=>call (.builtin "sorted") xs []) [a] (.a9 (.list (sQ (U4 L)))) c:=λG s z' S r=>by
 obtain⟨x,rfl,D⟩:=X8 r;obtain⟨y,items,n,rfl,g,q⟩:=W7 S.sr hl D;have k:items.toList.length=L.length:=by rw [<-q.length,Eh,sQ,Eh]
 have u:∀i,i<L.length->F9 G _ (items.toList.getD i .none):=λi f=>by
  obtain⟨v,e,r⟩:=Ai q (a:= .a9 (.tuple (zs (L.getD i [])))) (by rw [sQ,jg,kg,NX f];rfl);exact(show items.toList.getD i .none=v from List.getD_eq_getElem?_getD.trans (yh (Option.getD · Value.none) (Array.getElem?_toList.trans e)))▸r
 refine sM (K:=λi=>(L.getD i []).headD 0) (S.room (Oh 64)) (by exact U8 g) (k▸hz) (λi f=> ?_) (λi j f o E e=>E ?_) λh' z' p z' hp up B e1=> ?_
 ·rw [k] at f;obtain⟨b,w,m,e,I,d⟩:=u i f;refine⟨b,w,m,?_⟩;cases z:L.getD i [] with
  |nil=>exact absurd z (hd.1 _ (Bf (NX f)))
  |cons x r=>
   rw [z] at d;obtain⟨y,M,H,⟨t,J⟩,_⟩:=d;exact⟨t,e,S.sr.y9 _ _ (.inl I),by refine rR (jf) (rL H (rL J ?_));show _=some (Value.int ((L.getD i []).headD 0) t);refine rL z ?_;rfl⟩
 ·rw [k] at f o;refine(List.getElem?_inj (by rw [Eh];exact f) hd.2).mp ?_;exact rL (kg) (rL (kg) (rL (NX f) (rL (NX o) (yh some e))))
 ·rw [k] at hp up;haveI es:U4 L=p.toList.map (L.getD · []):=by
   refine(SW (((Array.perm_iff_toList_perm.mp hp).map _).trans (.of_eq HY)) hd (List.pairwise_map.mpr (List.pairwise_iff_getElem.mpr λi j f o l=> ?_))).symm;rw [qg,hp.size] at f o;haveI e (i) (h) (z):p.toList[i]=p.getD i 0:=Bh ((Fg z).symm.trans (dV hp h).2);rw [e i f,e j o];exact(Ge (up.lt l o))
  refine .list S ?_ B.old (Vg _) (B.gt 1 _ e1);refine rL es ?_;rw [sQ,jg];exact .of (r9.qv λi m=>u i ((λi m=>List.mem_range.mp ((Array.perm_iff_toList_perm.mp hp).mem_iff.mp m)) i m))
end
section
variable{prog:We}{w:Gc}{A:Kd}{E:Nh->Uh->Prop}{s:Uh}{h:Pf}{os r:xh He}{a:Nh}{es:gf (Dh×Nh)}{t:Od}{ep:Mh}
abbrev sO(es:gf (Dh×Nh))(ep:Mh)(t:Od):He:={cls:= .type "set",data:= .set es ep t}
def N4(w:Gc):Kh:=w.params.followText "set-order"
theorem OQ{Q Q₁:Nh->Uh->Prop}(hnew:vc (Ff prog w) A.in1 (.call (.builtin "set.__new__") ⟨[.type "set",a],[]⟩) (wants Q₁ E) s)
  (hnext:∀g9 s₁,Q₁ g9 s₁->s₁.TypeIs g9 "set"/\og (Ff prog w) A.in1.in1 (Builtin.«set.__init__» ⟨[g9,a],[]⟩)
    (λRi s'=>match Ri with| .done f=>wants (λr s₂=>r= .none/\Q g9 s₂) E (.ok f) s'| .again c'=>c'.quiet=true/\vc (Ff prog w) A.in1 c' (wants (λr s₂=>r= .none/\Q g9 s₂) E) s')
    (λe s'=>wants (λr s₂=>r= .none/\Q g9 s₂) E (.error e) s') s₁):
  og (Ff prog w) A (call (.type "set") [a]) Q E s:=by
 obtain⟨c,tl,hmro⟩:=PySem.F.called_set.mro;haveI hmade:=PySem.F.called_set.made;haveI hsub:=PySem.F.called_set.sub;haveI hct:=PySem.F.typeCall_set_1 a;refine wpAny_call (codeAny_of_tree ?_);refine Ih ⟨Code.quiet_builtin _ (by decide+kernel),Qf PySem.F.entry_type_call ?_⟩;rw [Around.under_plain (weight_type_call_type "set" [a] []) rfl];haveI h1:=PySem.F.called_set.notType;have h2:=PySem.F.called_set.canCreate
 repeat (any_goals (first|assumption|wp_step))
 refine cc hnew λr s₁ hr=> ?_;cases r with
 |error e=>exact hr
 |ok fl=>
  cases fl with
  |ret g9=>
   obtain⟨hT,hsi⟩:=hnext _ _ hr;have hli:=PySem.F.called_set.init.lookup;have hbi:=PySem.F.called_set.init.bind g9
   repeat (any_goals (first|assumption|wp_step))
   refine cc (codeAny_call_builtin PySem.F.called_set.init.plain PySem.F.entry_set_init (check_set_init_1 hT hsi)) λr₂ s₂ hr₂=> ?_;cases r₂ with
   |error e=>exact hr₂
   |ok fl₂=>
    cases fl₂ with
    |ret r=>
     obtain⟨rfl,hq⟩:=hr₂
     repeat (any_goals (first|assumption|wp_step))
    |_=>exact hr₂.elim
  |_=>exact hr.elim
theorem NL{Q₁:Nh->Uh->Prop}(h:Q₁ (.ref s.heap.objs.size) {s with heap:=s.heap.push (sO #[] 0 (.fresh 0 0 (!N4 w)))}):
  vc (Ff prog w) A (.call (.builtin "set.__new__") ⟨[.type "set",a],[]⟩) (wants Q₁ E) s:=by
 refine codeAny_of_tree (zh (wpAny_of_eq (PySem.F.newCall_set_1 a) (Ih ⟨Ld PySem.F.plain_set_new _,Qf PySem.F.entry_set_new ?_⟩)));refine rL (Tf PySem.F.plain_set_new _) ?_;unfold Builtin.«set.__new__» Builtin.Frozenset.newClass;haveI hsub:=sub_set_self;obtain⟨hp,g,d,tk,os⟩:=s;dsimp only
 wp_walk;refine Ad (Ih ?_);dsimp only;simp only [newObj];refine zh (wpAny_alloc (Ih ?_));exact Ih h
variable{h0 h':Pf}{i l n tk:Mh}{o:He}{v:Nh}{k:Dh}
abbrev ch:=Od×gf (Dh×Nh)
def XM(v:Dh×Mh):Nh:= .int v.1 v.2
def Ni(p:ch)(v:Dh×Mh):gf (Dh×Nh)×Od×Kh×Kh:=layNew p.1 p.2 (hashInt v.1) (XM v)
def x0(t:Od)(es:gf (Dh×Nh)):gf (Dh×Nh)×Od×Kh:=cond t.tooFull (relayAll t es (SetTable.grown es.size)) (es,t,false)
def S6(p:ch)(v:Dh×Mh):ch:=((x0 (Ni p v).2.1 (Ni p v).1).2.1,(x0 (Ni p v).2.1 (Ni p v).1).1)
def fq(p:ch)(v:Dh×Mh):Kh:=p.1.fits p.2.size&&(byScan (XM v) p.2&&(p.2.toList.all (λe=> !(e.1==hashInt v.1))&&(!(Ni p v).2.2.1&&(!(Ni p v).2.2.2&&((Ni p v).2.1.plain&&(!(x0 (Ni p v).2.1 (Ni p v).1).2.2&&(qd (Ni p v).1.size 64&&qd (S6 p v).2.size 64)))))))
theorem RL{a:Kh}{Q:ScanMet->Uh->Prop}{es:xh (Dh×Nh)}(h:es.all (λe=> !(e.1==k))=true)(f:Q .absent s):∀{i},og (Ff prog w) A (setScanFrom n v k a es i) Q E s:=by
 induction es with
 |nil=>exactλ{i}=>Ih f
 |cons e _ d=>
  intro i;haveI q:=l9 h;unfold setScanFrom;exact rL (Fh (Bool.eq_false_iff.mp ((Pe _).mp q.1))) (d q.2)
def fC(s:Uh)(k:Mh):Uh:={s with toks:=k}
theorem QP{Q:Kh->Uh->Prop}{d c:gf (Dh×Nh)}{g u:Od}(B:Hx h0 h os)(e:os[i]? =some (sO es ep t))(H:t.fits es.size=true)(I:byScan (.int k tk) es=true)(G:es.toList.all (λe=> !(e.1==hashInt k))=true)(J:layNew t es (hashInt k) (.int k tk)=(d,g,false,false))(hp:g.plain=true)(m:x0 g d=(c,u,false))(hz:d.size<=Qe)(p:c.size<=Qe)
  (C:∀h' D,Hx h0 h' (os.set i (sO c D u))->Q true (sh (fC s (s.toks+1)) h')):og (Ff prog w) A (setAdd (h0.objs.size+i) (.int k tk)) Q E (sh s h):=by
 refine bf (zh (wpAny_pyHash_int ?_));haveI l:=(List.getElem?_eq_some_iff.mp e).1;refine bf (zh (de (B.gt i _ e) rfl H (Zg (λz'=>zh (zh (Bb (zh (RL G ?_))))) λz=>absurd I z)));refine rL J ?_;refine zh (Ih (Zg (λz'=>zh ?_) λz=>absurd hp z));refine rL (hashByValue_scannable 8 rfl) ?_;refine Ih (zh (wpAny_storeSet_of (B.gt i _ e) rfl (Zg (λz=> ?_) λz=> ?_) hz))
 ·have F:=B.upd (f:=Obj.putSet d g) e rfl;unfold x0 at m;rw [show g.tooFull=true from(l9 z).2] at m;have m:relayAll (if plainKind (Value.int k tk)=true then g else{g with plain:=false}) _ _=(c,u,false):=m;exact rL m (zh (Ih (zh (wpAny_storeSet_of (F.gt i _ (Kf l)) rfl (Ih (Ih (C _ _ (List.set_set ..▸F.upd (Kf l) rfl)))) p))))
 ·unfold x0 at m;have z:g.tooFull=false:=(Bool.not_eq_true _).mp z;rw [z] at m;cases m;exact Ih (Ih (C _ _ (B.upd e rfl)))
theorem gw{b β:Type}{r:b×β×Kh×Kh}(d:(!r.2.2.1)=true)(f:(!r.2.2.2)=true):r=(r.1,r.2.1,false,false):=
 yh (λz=>(r.1,r.2.1,z)) (Ac ((Pe _).mp d) ((Pe _).mp f))
theorem iw{b β:Type}{r:b×β×Kh}(d:(!r.2.2)=true):r=(r.1,r.2.1,false):=yh (λz=>(r.1,r.2.1,z)) ((Pe _).mp d)
theorem PL{Q:Kh->Uh->Prop}{v:Dh×Mh}(B:Hx h0 h os)(e:os[i]? =some (sO es ep t))(o:fq (t,es) v=true)(C:∀h' p,Hx h0 h' (os.set i (sO (S6 (t,es) v).2 p (S6 (t,es) v).1))->Q true (sh (fC s (s.toks+1)) h')):
  og (Ff prog w) A (setAdd (h0.objs.size+i) (XM v)) Q E (sh s h):=
 haveI a:=l9 o;haveI b:=l9 a.2;haveI c:=l9 b.2;haveI d:=l9 c.2;haveI f:=l9 d.2;haveI g:=l9 f.2;haveI m:=l9 g.2;haveI l:=l9 m.2
 QP B e a.1 b.1 c.1 (gw d.1 f.1) g.1 (iw m.1) (vh (Jg l.1) (by decide)) (vh (Jg l.2) (by decide)) C
variable{j:Mh}{o':He}{items:gf Nh}{vs:xh Nh}{p:ch}
def zx:ch->xh (Dh×Mh)->Kh
 |_,[]=>true
 |p,v::vs=>fq p v&&zx (S6 p v) vs
theorem Hx.same(B:Hx h0 h os)(e:i<os.length)(hs:Sf (h0.objs.size+i) h h')(b:h'.get? (h0.objs.size+i)=some o'):Hx h0 h' (os.set i o'):=
 haveI n {c:Mh} {o:He} (z:h0.get? c=some o):c≠h0.objs.size+i:=Uf (dg (vf z) (Qh _ _))
 ⟨λc o z=>hs.extBut c o (n z) (B.old c o z),λj o z=>by
  by_cases q:i=j
  ·rw [<-q,Kf e] at z;exact rR q (rR (Bh z) b)
  ·rw [List.getElem?_set_ne q] at z;exact hs.extBut _ o (λz=>q (ae z).symm) (B.gt j o z),
 (hs.1.trans B.sz).trans (yh _ List.length_set.symm)⟩
theorem tP{R:Result->Uh->Prop}(G:A.handled=none)(hl:h0.IsList l items)(vs:xh (Dh×Mh)):∀{i h ep p o k},items.toList.drop i=vs.map XM->Hx h0 h [sO p.2 ep p.1,o]->h.IsListIter (h0.objs.size+1) l i->zx p vs=true->
  (∀k h' f,(∀c o,h0.get? c=some o->h'.get? c=some o)->h'.get? (h0.objs.size+0)=some (sO (vs.foldl S6 p).2 f (vs.foldl S6 p).1)->R (.ok (.ret .none)) (sh (fC s k) h'))->
  vc (Ff prog w) A (.builtin "set.update.loop" ⟨[.ref (h0.objs.size+0),.ref (h0.objs.size+1)],[]⟩) R (sh (fC s k) h):=by
 induction vs with
 |nil=>
  intro i h ep p o k e B d _ C;refine Qf Jc ?_;exact zh (wpAny_pyNext_list_end G d (hl.at λo=>B.old l o) (rR (jf) (rR (Wa) (rL e rfl))) λh' hs=>Ih (C k _ _ (λc o z=>hs c o (Uf (dg (vf z) (Qh _ _))) (B.old c o z)) (hs _ _ (λz=>absurd (ae z) (by decide)) (B.gt 0 _ rfl))))
 |cons v _ u=>
  intro i h _ p o k e B d b C;haveI b:=l9 b;refine Qf Jc ?_;refine zh (wpAny_pyNext_list_item d (hl.at λo=>B.old l o) (rR (jf) (rR (Wa) (rL e rfl))) λH g hs=> ?_);obtain⟨F,e1,D⟩:=g;refine zh (bf (PL (B.same (uf 1) hs e1) rfl b.1 λI z' q=>Ih ⟨Ld PyProof.Rows.F.plain_set_update_loop _,u (rR List.tail_drop (rL e rfl)) q ⟨F,q.gt 1 _ rfl,D⟩ b.2 C⟩))
end
section
variable{prog:We}{w:Gc}{A:Kd}{E:Nh->Uh->Prop}{s:Uh}{h0 h h':Pf}{os:xh He}{i l n ep:Mh}{o:He}{v a:Nh}{items:gf Nh}{k:Dh}{vs:xh (Dh×Mh)}{p:ch}
theorem Ki{M:Model}{d:Type}{c:Prop}[ub c]{a b:ca d}{Q:d->Uh->Prop}(n:decide c=false)(h:og M A b Q E s):og M A (if c then a else b) Q E s:=by
 refine rL (Fh (Sc n)) ?_;exact h
theorem Hx.Xk{Q:Nh->Uh->Prop}(B:Hx h0 h os)(e:h0.IsList l items)(k:∀h',Hx h0 h' (os++[{cls:= .type "list_iterator",data:= .fields #[.ref l,.int 0 0]}])->Q (.ref (h0.objs.size+os.length)) (sh s h')):og (Ff prog w) A (pyIter (.ref l)) Q E (sh s h):=
 wpAny_pyIter_list (e.at λo=>B.old l o) (B.rB rfl k)
theorem NQ{Q:Nh->Uh->Prop}(F:A.handled=none)(hl:s.heap.IsList l items)(e:items.toList=vs.map XM)(D:zx (.fresh 0 0 (!N4 w),#[]) vs=true)
  (C:∀k h' ep,(∀c o,s.heap.get? c=some o->h'.get? c=some o)->h'.get? s.heap.objs.size=some (sO (vs.foldl S6 (.fresh 0 0 (!N4 w),#[])).2 ep (vs.foldl S6 (.fresh 0 0 (!N4 w),#[])).1)->Q (.ref s.heap.objs.size) (sh (fC s k) h')):
  og (Ff prog w) A (call (.type "set") [.ref l]) Q E s:=by
 refine OQ (Q₁:=λf d=>∃h,f= .ref _/\d=sh s h/\Hx _ h [sO #[] 0 _]) (NL (Hx.nil.rB (Q:=λv s1=>∃h,v= .ref _/\s1=sh s h/\Hx _ h _) rfl λh' B=>⟨h',rfl,rfl,B⟩)) λf z' q=> ?_;obtain⟨h,rfl,rfl,B⟩:=q;haveI u:=wi (s:=sh s h) (B.gt 0 _ rfl) rfl;refine⟨u,?_⟩;haveI b:=(hl.at λo=>B.old l o).typeIs (s:=sh s h);refine zh (Ih (zh (zh (zh (Ab u (Ki rfl (Ih (Ih (zh (Ih (zh (Ih (zh (zh (de (B.gt 0 _ rfl) rfl rfl (Ih (Ki rfl (zh ?_))))))))))))))))));exact zh (zh (zd b PySem.F.sub_list_set ((zd b PySem.F.sub_list_frozenset (Ki rfl (zh (Ab b (Ki rfl (zh (B.Xk hl λG z=>zh (wpAny_runValue (tP (A:=A.in1.in1) (p:=(.fresh 0 0 (!N4 w),#[])) (i:=0) F hl vs e z ⟨_,z.gt 1 _ rfl,rfl,rfl⟩ D λk h' ep m g=>Ih (Ih ⟨rfl,C k h' ep m g⟩)))))))))))))
end
section
variable{prog:We}{w:Gc}{A:Kd}{E:Nh->Uh->Prop}{s:Uh}{h:Pf}{i l a ep:Mh}{o:He}{es:gf (Dh×Nh)}{t:Od}
def u5(w:Gc)(a ep:Mh)(es:gf (Dh×Nh)):gf (Dh×Nh):=if N4 w=true then pickOrder (w.params.setOrder a ep) es else es
def uw(t:Od)(i:Mh):Mh:=if i=0 then 0 else t.place.getD (i-1) 0+1
def P3(w:Gc)(t:Od)(i:Mh):Mh:=if N4 w=true then 0 else uw t i
def oq(es:gf (Dh×Nh))(t:Od):Kh:=t.fits es.size&&(t.plain&&(ug (es.size+1)).all λi=>SetTable.below t.place (uw t i)==i)
structure cU w es t:Prop where
 e:oq es t=true
 l:N4 w=false->t.led=true
theorem JL{Q:Ah (Nh×Mh)->Uh->Prop}(hs:s.heap.get? a=some (sO es ep t))(o:cU w es t)(d:i<=es.size)(h:Q (((u5 w a ep es)[i]?).map λe=>(e.2,P3 w t (i+1))) s):
  og (Ff prog w) A (setNext a (P3 w t i) i ep) Q E s:=by
 haveI k:=l9 o.e;haveI k2:=l9 k.2;unfold u5 P3 at h;unfold P3;refine zh (de hs rfl k.1 (zh (zh (Ad (Ih ?_)))));by_cases b:N4 w=true
 ·rw [Lh b,Lh b] at h;rw [Lh b];refine Zg (λz'=>Zg (λz=>absurd z (by rw [bne_self_eq_false];decide)) λz'=>zh (zh (de hs rfl k.1 (zh (zh (Ad (Ih (Zg (λz'=>zh (Ad (Ih (Ih h)))) λz=>absurd b z)))))))) λz=>absurd b z
 ·rw [Fh b,Fh b] at h;rw [Fh b];refine Zg (λz=>absurd z b) λz'=>Zg (λz=>absurd z ?_) λz'=>zh (Zg (λz=>absurd z ?_) λz'=>Ih ?_)
  ·show¬((!t.plain&&decide (es.size>1))=true);refine rL k2.1 ?_;exact wg
  ·show¬((!t.led&& !es.isEmpty)=true);refine rL (o.l ((Bool.not_eq_true _).mp b)) ?_;exact wg
  ·refine rL (beq_iff_eq.mp (List.all_eq_true.mp k2.2 i (List.mem_range.mpr (Nc d)))) ?_;refine Ih ?_;rcases Da i es.size with c|c
   ·have g:=(beq_iff_eq.mp (l9 k.1).1)▸c;rw [qe c] at h⊢;rw [qe _];haveI f:uw t (i+1)=t.place[i]+1:=yh (·+1) (by rw [da,Le,qe _];rfl);rw [f] at h;exact h
   ·rw [Array.getElem?_eq_none c] at h⊢;exact h
variable{h0 h':Pf}{os:xh He}{n:Mh}
theorem t5:Slot "set_iterator" "__next__" "set_iterator.__next__":=
 .of (owner:="set_iterator") (n:="__next__") (by kernel_rfl) (by decide+kernel) (by decide+kernel) (by decide+kernel) (.inl (by decide+kernel)) (by kernel_rfl)
theorem AY:entryFor table "set_iterator.__next__"=some Builtin.«set_iterator.__next__»:=entryFor_of_tree (by kernel_rfl)
theorem vB:Manifest.owners.lookup (String.ofList ['r','o','t','a','r','e','t','i','_','t','e','s'].reverse)=some Manifest.sig_set_iterator:=by kernel_rfl
theorem sW(a:Nh):argsOk "set_iterator.__next__" ⟨[a],[]⟩:=by
 kernel_rfl
theorem YZ:entryFor table "set.__iter__"=some Builtin.«frozenset.__iter__»:=entryFor_alias (id':="frozenset.__iter__") (by kernel_rfl) rfl (by decide+kernel) (by kernel_rfl)
abbrev wx(a s i n ep:Mh):He:={cls:= .type "set_iterator",data:= .fields #[rawInt s,rawInt i,.ref a,rawInt n,rawInt ep]}
theorem LL{Q:Nh->Uh->Prop}(B:Hx h0 h os)(hs:h0.get? a=some (sO es ep t))(o:cU w es t)(k:∀h',Hx h0 h' (os++[wx a 0 0 es.size ep])->Q (.ref (h0.objs.size+os.length)) (sh s h')):og (Ff prog w) A (pyIter (.ref a)) Q E (sh s h):=by
 have hs:=B.old _ _ hs;haveI b:=wi (s:=sh s h) hs rfl;haveI q:=l9 o.e;refine wpAny_pyIter_slot b F.slot_set_iter (Gf F.slot_set_iter b YZ ?_ (F.args_set_iter_1 _));refine zh (zh (Ih (Ih (zh (zh (zh (de hs rfl q.1 (Ih (Ih ?_)))))))));refine zh (zh (de hs rfl q.1 (zh (zh (Ad (Ih (Ih (Zg (λz=>absurd z ?_) λz'=>zh (Ih ?_)))))))))
 ·show¬((!w.params.followText "set-order"&&(!t.plain&&decide (es.size>1)))=true);refine rL ((l9 q.2).1) ?_;rw [Bool.and_comm];exact wg
 ·exact zh (zh (de hs rfl q.1 (Ih (zh (B.new (λh' B=>Ih ⟨_,rfl,"set_iterator",_,wi (B.gt _ _ (by rw [Yg (Oh _),pd];rfl)) rfl,t5.lookup,k _ B⟩) (by size_fits) rfl)))))
variable{r:xh He}{o':He}{x:Nh}{c:Mh}
theorem sS{Q:Ah Nh->Uh->Prop}(m:A.handled=none)(B:Hx h0 h [o,wx a (P3 w t i) i es.size ep])(hs:h0.get? a=some (sO es ep t))(f:cU w es t)(g:i<=es.size)
  (k:∀x,(u5 w a ep es)[i]? =some x->∀h',Hx h0 h' [o,wx a (P3 w t (i+1)) (i+1) es.size ep]->Q (some x.2) (sh s h')) (k2:(u5 w a ep es)[i]? =none->∀h' o' r,Hx h0 h' ([o,o']++r)->Q none (sh s h')):og (Ff prog w) A (pyNext (.ref (h0.objs.size+1))) Q E (sh s h):=by
 haveI hs:=B.old _ _ hs;haveI d:=wi (s:=sh s h) (B.gt 1 _ rfl) rfl;refine zh (wpAny_attempt (Ce d t5 (Gf t5 d AY ?_ (sW _))));refine zh (Ih (zh (wpAny_fieldsOf (B.gt 1 _ rfl) rfl (zh (zh (de hs rfl (l9 f.e).1 (Ih (Zg (λz=>absurd z ?_) λz'=>zh ?_))))))))
 ·show¬((((es.size) !=(es.size:Dh))=true));rw [bne_self_eq_false];exact wg
 refine JL (ep:=ep) hs f g ?_;revert k k2;cases(u5 w a _ _)[i]? with
 |some x=>exactλk z'=>zh (B.ML rfl rfl (je 4) λz' (B)=>zh (B.ML rfl rfl (ke (je 3)) λh' B=>Ih ⟨x.2,rfl,Ih (k x rfl h' B)⟩))
 |none=>exactλk k2=>zh (B.ML rfl rfl (ke (ke (je 2))) λh' B=>pS m B λh' z' B e=>zh (zd (wi (B.gt 3 _ rfl) e) isSubtype_stop (Ih (k2 rfl h' _ _ B))))
theorem HN{R:Result->Uh->Prop}{res:Nh}(hh:A.handled=none)(hs:h0.get? a=some (sO es ep t))(ok:cU w es t)(hz:(u5 w a ep es).size=es.size)(h64:es.size<=64)
  (C:∀h' os c,Hx h0 h' os->os[0]? =some (lO (Xe ((u5 w a ep es).toList.map (·.2))) c)->R (.ok (.ret res)) (sh s h')) (m:Mh):∀{i h c},i+m=es.size->Hx h0 h [lO (Xe (((u5 w a ep es).toList.take i).map (·.2))) c,wx a (P3 w t i) i es.size ep]->
  vc (Ff prog w) A (.builtin "list.extend.loop" ⟨[.ref (h0.objs.size+0),.ref (h0.objs.size+1),res],[]⟩) R (sh s h):=by
 induction m with
 |zero=>
  intro i h c (e:i=es.size) B;refine Qf Ue ?_;rw [Tf rf _];refine zh (sS hh B hs ok (Ph e) (λx z=> ?_) λz' h' o' r B=>Ih (C h' _ c B ?_))
  ·rw [Array.getElem?_eq_none (Ph (hz.trans e.symm))] at z;cases z
  ·rw [List.take_of_length_le (Ph (Array.length_toList.trans (hz.trans e.symm)))];rfl
 |succ m ih=>
  intro i h c e B;have hi:=e▸Df (Lf m);refine Qf Ue ?_;rw [Tf rf _];refine zh (sS hh B hs ok (lf hi) (λx z h' B=> ?_) λz=> ?_)
  ·have l:((u5 w a ep es).toList.take i).length<=64:=vh (Nb i _) (vh (lf hi) h64);have e1:(Xe (((u5 w a ep es).toList.take i).map (·.2))).push x.2=Xe (((u5 w a ep es).toList.take (i+1)).map (·.2)):=by
    rw [List.take_add_one,jf,z,bg,List.push_toArray];rfl
   have l1:(Xe (((u5 w a ep es).toList.take i).map (·.2))).size<=64:=by rw [Ic,Eh];exact l
   refine zh (B.sP rfl rfl (vh l1 (by decide)) (by rw [Array.size_push];exact Vh (vh l1 (by decide))) λh2 B2=>Ih ⟨Ld rf _,?_⟩);have B3:Hx h0 h2 [lO ((Xe (((u5 w a ep es).toList.take i).map (·.2))).push x.2) _,_]:=B2;rw [e1] at B3;exact ih ((Og i m).trans e) B3
  ·rw [qe (hz▸hi)] at z;cases z
theorem bK{g:Type}(f:Mh->Mh)(n:Mh):∀k (l:xh g) out,l.length=n->(Fb f n k l out).toList.Perm (out.toList++l):=by
 induction n with
 |zero=>
  intro k l _ h;refine rL (List.length_eq_zero_iff.mp h) ?_;rw [Th];exact .refl _
 |succ n i=>
  intro k l out h;have b:f k%l.length<l.length:=Nat.mod_lt _ (h▸Lf n);haveI e:Fb f (n+1) k l out=Fb f n (k+1) (l.eraseIdx (f k%l.length)) (out.push l[f k%l.length]):=by
   show(match l[f k%l.length]? with|some x=>Fb f n _ _ _|none=>out)=_;exact rL (Fg _) rfl
  refine rL e ?_;refine(i _ _ _ (rL (List.length_eraseIdx_of_lt b) (rL h rfl))).trans ?_;refine rL Je ?_;rw [ag];refine List.Perm.append_left _ ?_;rw [Fa];refine(List.perm_middle (l₁:=l.take _)).symm.trans (.of_eq ?_);rw [List.getElem_cons_drop,List.take_append_drop]
theorem LY:(u5 w a ep es).toList.Perm es.toList:=by
 unfold u5;by_cases z:N4 w=true
 ·refine rL (Lh z) ?_;exact bK _ _ 0 _ #[] qg
 ·rw [Fh z]
theorem uN{Q:Kh->Uh->Prop}(d:s.TypeIs (.ref a) "set")(h:Q false s):og (Ff prog w) A (Builtin.List.listLengthHint (.ref a)) Q E s:=by
 refine zh (Qd d PySem.F.slot_set_len.lookup ?_);refine zh (zd (b:=true) d (by kernel_rfl) (Ki rfl (Zg (λz'=>zh (Ab d (Ih h))) λz=>absurd (by decide+kernel) z)))
theorem TV{Q:xh Nh->Uh->Prop}(hh:A.handled=none)(hs:s.heap.get? a=some (sO es ep t))(ok:cU w es t)(h64:es.size<=64)
  (C:∀h' os,Hx s.heap h' os->Q ((u5 w a ep es).toList.map (·.2)) (sh s h')):og (Ff prog w) A (collect (.ref a)) Q E s:=by
 have hz:(u5 w a ep es).size=es.size:=by rw [<-qg,LY.length_eq,qg]
 have B:Hx s.heap s.heap []:= .nil;refine zh (wpAny_runValue (Qf entry_proto_collect' ?_));rw [Tf PySem.F.plain_proto_collect _];refine zh (B.new (λh1 (B)=>Ih ⟨Ld PySem.F.plain_list_iadd _,Qf entry_list_iadd' ?_⟩) (ng _) rfl);rw [Tf PySem.F.plain_list_iadd _];show og _ _ (Xd (.ref (s.heap.objs.size+0)) (.ref a) _) _ _ _;have hT:=wi (s:=sh s h1) (B.old _ _ hs) rfl;unfold Xd;refine zh (Ab hT (Zg (λz=>absurd z ?_) λz'=> ?_))
 ·have g:Aa (.ref (s.heap.objs.size+0)) (.ref a)=false:=yg λq=>absurd (vf hs) (Nat.not_lt.mpr (Ph q));rw [g]
  decide
 refine zh (LL B hs ok λh2 (B)=>zh (bf (uN (wi (B.old _ _ hs) rfl) (Zg (λz'=> ?_) λz=>absurd (by decide+kernel) z))));refine zh (Bb (zh (zh (B.sP rfl rfl (ng _) cF λz' (B)=>B.sP rfl rfl vq (ng _) λh3 B=>Ih ⟨Ld rf _,?_⟩))));have e0:P3 w t 0=0:=by
  unfold P3;split
  ·rfl
  ·rfl
 refine HN hh hs ok hz h64 (λh' os c B e=> ?_) es.size (c:=2) (kf _) ?_
 ·show og _ _ (load (s.heap.objs.size+0)>>=_) _ _ _;exact zh (wpAny_load (B.gt 0 _ e) (Ih (C h' os B)))
 ·rw [e0];exact B
variable{v:Nh}{led:Kh}{tk:Dh->Mh}{ps:xh (Dh×Mh)}{ns:xh Dh}{p:ch}
def zE(led:Kh)(ps:xh (Dh×Mh)):Kh:=zx (.fresh 0 0 led,#[]) ps&&(oq (ps.foldl S6 (.fresh 0 0 led,#[])).2 (ps.foldl S6 (.fresh 0 0 led,#[])).1&&((ps.foldl S6 (.fresh 0 0 led,#[])).1.led==led&&qd (ps.foldl S6 (.fresh 0 0 led,#[])).2.size 63))
def kh(b:Kh)(x:Dh)(l:xh Dh):xh Dh:=cond b (x::l) l
def bb(f:Kh->Kh):Kh:=f true&&f false
theorem gY{f:Kh->Kh}(h:bb f=true)(b:Kh):f b=true:=by
 cases b with
 |true=>exact(l9 h).1
 |false=>exact(l9 h).2
def vC(a b c d e f:Kh):xh Dh:=kh a (-7) (kh b (-5) (kh c (-3) (kh d 2 (kh e 4 (kh f 6 [])))))
theorem nJ:(bb λled=>bb λa=>bb λb=>bb λc=>bb λd=>bb λe=>bb λf=>zE led ((vC a b c d e f).map λn=>(n,tk n)))=true:=by kernel_rfl
theorem QK(h:UT ns):∃a b c d e f,ns=vC a b c d e f:=by
 haveI s:List.Pairwise (·<·) ([-7,-5,-3,2,4,6]):=by decide
 haveI e:=Na (λa b z' z' g k=>absurd g (gb k)) h.1 (s.filter _)
  ((List.perm_ext_iff_of_nodup (h.1.imp Ud) ((s.imp Ud).filter _)).mpr λx=>⟨λm=>List.mem_filter.mpr ⟨h.2 x m,Rh m⟩,λm=>Hh (List.mem_filter.mp m).2⟩)
 exact⟨decide (-7∈ns),decide (-5∈ns),decide (-3∈ns),decide (2∈ns),decide (4∈ns),decide (6∈ns),e⟩
theorem rH(h:(ps.map (·.1)).Nodup):∃tk:Dh->Mh,ps=(ps.map (·.1)).map λn=>(n,tk n):=by
 induction ps with
 |nil=>exact⟨λz'=>0,rfl⟩
 |cons p ps i=>
  have h:=List.nodup_cons.mp h;obtain⟨tk,e⟩:=i h.2;refine⟨λn=>if n=p.1 then p.2 else tk n,?_⟩;show p::ps=(p.1,if p.1=p.1 then p.2 else tk _)::_;refine rL (Lh rfl) ?_;exact yh _ (e.trans (ze λn m=>yh _ (Fh λ(z)=>h.1 (by rw [z] at m;exact m)).symm))
theorem lh{vs:xh Nh}(h:IntsAre vs ns):∃ps:xh (Dh×Mh),vs=ps.map XM/\ps.map (·.1)=ns:=by
 induction h with
 |nil=>exact⟨[],rfl,rfl⟩
 |cons n t _ i=>exact i.elim λps q=>⟨(n,t)::ps,yh _ q.1,yh _ q.2⟩
theorem mJ(h:UT ns)(e:ps.map (·.1)=ns):zE led ps=true:=by
 obtain⟨tk,g⟩:=rH (e▸h.1.imp Ud);obtain⟨a,b,c,d,e,f,k⟩:=QK h;exact rL g (rL (‹ps.map _=ns›) (rL k (gY (gY (gY (gY (gY (gY (gY nJ _) a) b) c) d) e) f)))
theorem mN{xs:gf (Dh×Nh)}{p:Mh}{x:Dh×Nh}:(SetTable.insertAt xs p x).toList.Perm (x::xs.toList):=by
 unfold SetTable.insertAt;refine rL ud ?_;rw [Je,ag];haveI e:(xs.extract 0 p++xs.extract p _)=xs:=Array.extract_append_extract.trans (by exact Array.extract_eq_self_of_le (Nat.le_max_right ..));exact List.perm_middle.trans (List.Perm.cons _ (.of_eq (Array.toList_append.symm.trans (yh _ e))))
theorem TU{t:Od}{es:gf (Dh×Nh)}:(x0 t es).1.toList.Perm es.toList:=by
 unfold x0;cases t.tooFull with
 |false=>exact .refl _
 |true=>
  show(relayAll t _ _).1.toList.Perm _;unfold relayAll;cases t.relaid _ _ with
  |none=>exact .refl _
  |some q=>
   dsimp only;split
   ·rename_i z;refine rL Array.toList_filterMap ?_;refine((List.isPerm_iff.mp (l9 z).1).filterMap _).trans (.of_eq ?_);haveI g:∀l:xh (Dh×Nh),(ug l.length).filterMap (λi=>l[i]?)=l:=λl=>by
     induction l with
     |nil=>rfl
     |cons x l e=>refine rL Ze (rL List.range_succ_eq_map (rL (List.filterMap_cons_some (f:=λi=>(x::l)[i]?) rfl) (rL List.filterMap_map ?_)));exact yh _ e
    exact(yh (List.filterMap · _) (funext λi=>Array.getElem?_toList.symm)).trans (g _)
   ·exact .refl _
theorem vQ(v:Dh×Mh):((S6 p v).2.toList.map (·.2)).Perm (XM v::p.2.toList.map (·.2)):=by
 haveI e:(S6 p v).2.toList.Perm ((hashInt v.1,XM v)::p.2.toList):=by
  refine TU.trans ?_;show(layNew _ _ _ _).1.toList.Perm _;unfold layNew;cases p.1.freeSlot _ with
  |none=>exact(Je▸List.perm_append_singleton _ _)
  |some q=>exact mN
 exact e.map _
theorem PO:∀{p},((ps.foldl S6 p).2.toList.map (·.2)).Perm (ps.map XM++p.2.toList.map (·.2)):=by
 induction ps with
 |nil=>exactλ{p}=> .refl _
 |cons v _ i=>exactλ{p}=>(i).trans (((vQ v).append_left _).trans List.perm_middle)
end
section
variable{c:Cx}{F:Fm}{U:Tg->Prop}{a:AV}{W:Wd}{ns:xh Dh}
def dx(W:Wd)(ns:xh Dh)(o:He):Prop:=∃ps ep,ps.map (·.1)=ns/\zE (!N4 W.w) ps=true/\o=sO (ps.foldl S6 (.fresh 0 0 (!N4 W.w),#[])).2 ep (ps.foldl S6 (.fresh 0 0 (!N4 W.w),#[])).1
theorem rG(hl:Ls c.σ a ((zs ns).map .a9))(h:UT ns):O4 F U c (λxs=>call (.type "set") xs []) [a] (.raw (dx F.W ns)) c:=λG s z' S r=>by
 obtain⟨x,rfl,j⟩:=X8 r;obtain⟨y,items,n,rfl,g,q⟩:=W7 S.sr hl j;obtain⟨ps,e,b⟩:=lh (cR q.M6);haveI d:=mJ (led:= !N4 F.W.w) h b;refine NQ S.fr.st.mU (U8 g) e (l9 d).1 λk h' ep o i=> ?_;haveI f:=S.sr.fresh (Oh _);exact⟨_,.y9 f,(S.keeps o).u4 f (S.fr.fresh (Oh _)) i,⟨_,_,rfl,Lh rfl,ps,ep,b,d,rfl⟩,SS.heap _ k⟩
theorem zB(h:UT ns):O4 F U c (λxs=>call (.builtin "sorted") xs []) [.raw (dx F.W ns)] (.a9 (.list (zs ns))) c:=λG s z' S r=>by
 obtain⟨x,rfl,y,o,rfl,j,ps,ep,n,A,rfl⟩:=X8 r;haveI k:=l9 (l9 A).2;haveI k2:=l9 k.2;have l:=Jg k2.2;refine call_function_entry kind_sorted plain_sorted entry_sorted (args_sorted1 _) (zh (Ih (zh (TV S.fr.st.mU (S.sr.y9 _ _ (.inl j)) (⟨k.1,λz=>(beq_iff_eq.mp k2.1).trans (rL z rfl)⟩) (vg l) λE z' i=> ?_))));haveI f:=LY (w:=F.W.w) (a:=y) (ep:=ep) (es:=(ps.foldl S6 (.fresh 0 0 (!N4 F.W.w),#[])).2);have p:=(f.map _).trans ((PO).trans (.of_eq (Th _)));have d:((u5 F.W.w y ep (ps.foldl S6 (.fresh 0 0 (!N4 F.W.w),#[])).2).toList.map (·.2)).length<64:=by rw [Eh,f.length_eq];exact Nc l
 revert p d;generalize (u5 _ y _ (ps.foldl S6 _).2).toList.map _=cv;intro p d;haveI C:(ps.map XM).map numOf=ns:=by refine rL jg ?_;exact n
 refine zh (i.new (λD B=> ?_) (vh (lf d) (by decide)) rfl);have e:=B.gt _ _ (by rw [Yg (Oh _),pd];rfl);refine zh (bf (Gf slot_list_sort (wi e rfl) entry_list_sort (list_sort_tree e (intsAre_map cv λv m=>(List.mem_map.mp (p.mem_iff.mp m)).elim λq z=>⟨q.1,q.2,z.2.symm⟩) d λout z' g t u=>⟨_,rfl,?_⟩) (args_list_sort _)));obtain⟨m,hm⟩:=sortedHeap_at e;rw [(lks_uniq ((t.trans (p.map numOf)).trans (.of_eq C)) u (h.1.imp Ge))] at g;exact Ih ⟨_,rfl,.list S (AX g) (λb o z=>(sortedHeap_old (Uf (dg (vf z) (Qh _ _))) (vf (B.old b o z))).trans (B.old b o z)) (Qh _ _) hm⟩
end
section
variable{W:Wd}{P:w8}{n i j k l:Mh}{nm:xh Str}{c c1:IC}{u:Mo}{τ:Tg}{o o':d9}{a b r v:AV}{as:xh AV}{F:Fm}{X Y:Cx}{U U':Tg->Prop}{d e:Jh}{σ σ':Tg->Ah d9}{x:Str}{m m1 m2 mk:M}{s:Bg}{κ:LK}
theorem pB{k:Mh}{pos:Cf}(hx:Ve x=true):IJ F X (.Constant (.str x) k pos) (.a9 (.str x)):=λG s S Q k=>wpAny_mkText (k _ _ ⟨hx,_,ig _⟩)
theorem qB{k:Mh}{pos:Cf}{c:Const}(h:Mx c (.str x)=true):IJ F X (.Constant c k pos) (.a9 (.str x)):=
 haveI q:=h
 (Hh (l9 q).1)▸pB (l9 q).2
theorem NH(V:n4 nm)(r:OK P n nm m)(C:OK P n nm mk):OK P n nm (.W0 j x τ m mk):=⟨a4,p7,B7,U7,n7,o7,λu c K h I=>(r.o u c _ h I).casesOn λo c1 E1 J z' k1=>(o9 k1).elim λy q=>(I6 q.2).elim λE w=>w.elim λW w=>(o9 w.2.2).elim λf g=>by
  obtain⟨d,H,hn,b',Q,k2⟩:=z9 g.2;haveI O:=l9 d;haveI L:=l9 O.2;have a:=l9 L.2;haveI S:=l9 a.2;haveI N:=l9 S.2;have A:=K5 a.1;have e:=w.2.1.trans (yh _ (eM g.1));haveI fd:=J _ _ e;haveI T:(⟨c1.ρ,c1.t,b'⟩:IC).cx nm=⟨(c1.cx nm).ρ,up (up (c1.cx nm).σ τ o) E (.s8 (f9 f x (.g9 τ)))⟩:=by
   unfold IC.cx IC.σ;dsimp only;refine rR Q ?_;rw [c7 (O7 A.1),c7 (O7 A.2.1)]
  haveI M:Inv P (A4 c1.t b'):=by
   exact rR Q (rL (c7 (O7 A.1)) (rL (c7 (O7 A.2.1)) ((J.up (cW H (P5 S.1) (P5 N.1))).up (⟨H7 fd.hold (a.1),(λz' z' e=>(by nomatch e)),(λz' z' z' e=>(by nomatch e))⟩))))
  exact N1 (w:=λs=>iY λt e p=>b8 (λo i q=>DG s _ j o&&P6 _ i) t&&(u7 _ m).o s e) C (c1:=⟨c1.ρ,c1.t,b'⟩) (λD z' z' B=>v6 B λU h z' B=>by
   haveI w1:=l9 B;refine rL T ?_;refine z8 w1.1 λX z' z' R=>(JX (l9 R).1 λh F G Z=> ?_);exact I3 (l9 R).2 λY z' z' b=>(DW (E1 D _ w1.2) (vX ((B0 V).trans (w.1▸q.1)) F G Z) (qB b) (OY O.1))
    ⟨(λe=>A.2.2.1 e.symm),d9.t9 (λt h=>(K5 h).2.2.1) H,λk o' z' n2 l=>d9.t9 (λt h z=>n2 (Bh ((K5 h).2.2.2.symm.trans (z▸A.2.2.2)))) (J _ _ l).hold,λx v e=>DZ L.1 (λz' h=>Q7 h) e⟩
    e (Hh N.2) hn λenv=>tH) M k2,A7⟩
theorem yQ{p q:Tg->Prop}(h:a.keeps p)(f:a.keeps q):a.keeps λt=>p t/\q t:=by
 cases a with
 |g9 t=>exact⟨h,f⟩
 |_=>trivial
theorem Fn.weak{f:Nh}(h:∀τ,U' τ->U τ)(E:Fn W U n f as σ a σ'):Fn W U' n f as σ a σ':=λA G s xs p t g S r=>cc (E A G s _ p t g S r) λz' z' z=>z.casesOn λG' v z e S r q=>⟨G',v,z,e.weak h,S,r,q⟩
theorem lG{id:Mh}(h:uh τ id=true):(τ= .house/\id=0)\/(τ= .bank/\id=43):=((Xg _ _).mp h).imp (λh=>⟨Hh (l9 h).1,Zd (l9 h).2⟩) λh=>⟨Hh (l9 h).1,Zd (l9 h).2⟩
structure aq(P:w8)(τ:Tg)(id:Mh):Prop where
 d:P.cl τ=P.C\/P.cl τ=P.B
 h:(P.cl τ=P.C/\τ= .house)\/(P.cl τ=P.B/\τ= .bank)
 i:De P.W.K (.ref (P.cl τ)) "__init__"=some (some (.ref (P.fv id)))
 f:id<72
 g:nsIn P.W.K xf (Tq τ)=some (some (.ref (P.cl τ)))
 t:τ.U9=false
theorem kj{id:Mh}(h:uh τ id=true):aq P τ id:=by
 rcases lG h with⟨rfl,rfl⟩|⟨rfl,rfl⟩
 ·exact⟨.inl rfl,.inl ⟨rfl,rfl⟩,(yh _ P.lU.1.symm).trans (P.fc 0 (by decide)),by decide,P.lU.2.2.1,rfl⟩
 ·exact⟨.inr rfl,.inr ⟨rfl,rfl⟩,(yh _ P.lU.2.1.symm).trans (P.fb 43 (by decide) (by decide)),by decide,P.lU.2.2.2,rfl⟩
theorem rO{id:Mh}{K:KE}(h:lx P n id τ u as c K)(I:Inv P c.σ):aq P τ id/\RF P nm n u (.ref (P.cl τ)) as c K:=by
 obtain⟨T,rfl,R,b',E,hs,h⟩:=h;obtain⟨q,h⟩:=z9 h;haveI B:=l9 q;have L:aq P _ id:=kj B.1;haveI G:=l9 B.2;have H:=l9 G.2;haveI J:=l9 H.2;have N:=l9 J.2;have g:=E (c7 (O7 L.t)▸(YX I).up (⟨(λy m=>(by nomatch m)),(λD as e=>by cases e;exact L.h),λκ f e S=>(by nomatch S)⟩));rw [c7 (O7 L.t)] at g;haveI C:=λp (m)=>l9 (List.all_eq_true.mp N.1 p m);haveI F:=PK (U:=λt=>R.u t=true/\t≠τ) (P.z4 _ L.d).1 L.i (P.fn _ L.f).1 (λz=>z.2 rfl) (λA o n e=>hs _ o n (by
  cases z:A.ti with
  |none=>rw [T8 z] at e;exact e
  |some k=>rw [G5 z] at e;cases e)) (λa m=>Q7 (List.all_eq_true.mp N.2 a m)) (Fn.weak (λt z=>z.elim (·.1) λe=>e▸J.1) g.1)
 refine⟨L,.g9 _,⟨c.ρ,c.t,b'⟩,λD=> ?_,(UY I g.2),rfl,h⟩;haveI O:=ZJ (F:=D.f P _) (c:=c.cx nm) (FZ▸F) ⟨I.wf,g.2.wf,λτ o e=>D0 e,λx v e=>(PS e).elim λp z=>z.2.2▸AV.t9 (λt w=>w.1.imp (λy=>⟨y,w.2⟩) λz=>z) (yQ (UO (C p z.1).1) (Q7 (C p z.1).2))⟩ (show AV.keeps _ (.g9 _) from L.t);rw [show Di _ (c.cx _).σ _=A4 _ _ from QY] at O;exact O.weak λt z=>(NO H.1 z).imp (λy=>⟨y,λe=>OY G.1 (e▸z)⟩) λz=>z
theorem SC{id:Mh}(z:OK P n nm m):OK P n nm (.new τ id m):=⟨λu c K h I=>(z.l u c _ h I).casesOn λas z' E1 i r k1=>(rO k1 i).2.casesOn λa g O f A k2=>⟨a,g,λD z' q=>u6 q λx es z' w=>
  haveI w1:=l9 w;haveI L:=(rO (nm:=nm) k1 i).1
  X4 w1.1 λp y t B=>D3 (uO L.g y t) (nT (P.z4 _ L.d).2) (E1 D _ w1.2) (O D) λenv=>P8 B,f,A.trans r,k2⟩,p7,B7,U7,n7,o7,y5,A7⟩
theorem OD{ds es:xh Jh}{Q:Jh->Prop}(h:zp ds es Q):∃x y,ds=[x]/\es=[y]/\Q (.list [.tuple [x,y]]):=by
 cases ds with
 |nil=>exact h.elim
 |cons x ds=>cases ds with
  |cons _ _=>exact h.elim
  |nil=>cases es with
   |nil=>exact h.elim
   |cons y es=>cases es with
    |cons _ _=>exact h.elim
    |nil=>exact⟨x,y,rfl,rfl,h⟩
theorem UI:Hb (S "zip")=some (.type "zip")/\S "zip"≠S "__name__"/\S "zip"∈[S "len",S "sorted",S "list",S "tuple",S "zip",S "min",S "max",S "set",S "range",S "int",S "isinstance"]:=by decide+kernel
theorem yC(R:OK P n nm m1)(N:OK P n nm m2):OK P n nm (.zip m1 m2):=⟨λu c K h I=>(R.e u c _ h I).casesOn λa c1 E1 S r k1=>(N.e _ _ _ k1 S).casesOn λb H V i T k2=>(o9 k2).elim λds q=>(o9 q.2).elim λes E=>(OD E.2).elim λd z=>z.elim λe z=>⟨_,H,λD z' J=>u6 J λx z' pos w=>v3 w λy w=>haveI w1:=l9 w;X4 w1.1 λp O L Z=>by
  haveI B:=Ly .list;refine u6 w1.2 (λo z' A w z'=> ?_) (l9 Z).1;refine CS (Q:=λes=>Ev _ _ _ (.Call _ [.Call _ es [] _] [] _) _ _) w λk l w=> ?_;haveI g:=l9 w;haveI C:=l9 g.2;refine X4 g.1 λm G j f=> ?_;haveI t:=l9 f;exact hE (g7 (P.no _ B.1) B.2.1 B.2.2 O L) (g7 (P.no _ UI.2.2) UI.1 UI.2.1 G j) (i4 (z.1▸d6 q.1▸E1 D _ C.1) (i4 (z.2.1▸d6 E.1▸V D _ C.2) SY (λz' h=>h) trivial λenv=>R7 (l9 t.2).1) (λz'=>K9) trivial λenv=>R7 t.1) (P8 f) rfl,i,T.trans r,z.2.2⟩,p7,B7,U7,n7,o7,y5,A7⟩
theorem FC(G:OK P n nm m1):OK P n nm (.xH m1):=⟨λu c K h I=>(G.e u c _ h I).casesOn λa c1 E1 i r k1=>(GO k1).elim λns l=>⟨_,c1,λD z' A=>u6 A λx z' z' w=>v3 w λy w=>haveI w1:=l9 w;X4 w1.1 λp E C q=>by
  haveI B:=Ly .sorted;refine u6 w1.2 (λL z' z' w hn f=> ?_) (l9 q).1 q;refine v3 w λe w=> ?_;haveI g:=l9 w;refine X4 g.1 λJ t H z=> ?_;exact D3 (g7 (P.no _ B.1) B.2.1 B.2.2 E C) m6 (i4 (D3 (g7 (P.no _ CH.2.2) CH.1 CH.2.1 t H) lZ (i4 (E1 D e g.2) SY (λz'=>K9) x9 λenv=>R7 (l9 z).1) (rG l.1 l.2.1) λenv=>P8 z) SY (λz' h=>h) trivial λenv=>R7 hn) (zB l.2.1) λenv=>P8 f,i,r,l.2.2⟩,p7,B7,U7,n7,o7,y5,A7⟩
theorem EC(C:OK P n nm m1):OK P n nm (.VQ m1):=⟨λu c K h I=>(C.e u c _ h I).casesOn λa c1 E1 i r k1=>(z5 k1).elim λds q=>q.2.elim λL z=>⟨_,c1,λD z' g=>u6 g λx z' z' w=>v3 w λy w=>haveI w1:=l9 w;X4 w1.1 λp A t f=>
  haveI B:=Ly .sorted
  D3 (g7 (P.no _ B.1) B.2.1 B.2.2 A t) m6 (i4 (E1 D y w1.2) SY (λz'=>K9) x9 λenv=>R7 (l9 f).1) (yB (z.1▸q.1) z.2.1 z.2.2.1) λenv=>P8 f,i,r,z.2.2.2⟩,p7,B7,U7,n7,o7,y5,A7⟩
theorem ok(V:n4 nm)(m:M):OK P n nm m:=by
 induction m with
 |z k=>cases k with
  |var _=>exact AC V
  |con _=>exact bB
  |tI _=>exact ZC
  |nil=>exact QC
  |dI=>exact Ow
  |dL=>exact Kw
  |dT=>exact Hw
  |X0=>exact QH
  |bad=>exact fB
 |a k _ h=>cases k with
  |D6 _=>exact gB h
  |neg=>exact TC h
  |one=>exact OC h
  |tup=>exact CC h
  |lst=>exact VC h
  |blt _=>exact dB h
  |CF=>exact XC h
  |VQ=>exact EC h
  |xH=>exact FC h
  |fn _=>exact Fw h
  |own _=>exact NC h
  |dS=>exact Iw h
  |dN=>exact Jw h
  |fz=>exact Ew h
  |val=>exact BC h
  |not=>exact PC h
  |ret=>exact LC h
  |rel _=>exact MC V h
  |new _ _=>exact SC h
 |b k _ _ h e=>cases k with
  |sub=>exact DC h e
  |bin _=>exact eB h e
  |cmp _=>exact cB h e
  |uW=>exact VH h e
  |cons=>exact TH h e
  |zip=>exact yC h e
  |met _=>exact UC h e
  |lm _=>exact Dw h e
  |iU=>exact HC h e
  |TM=>exact JC h e
  |and=>exact iB h e
  |or=>exact Cw h e
  |ex=>exact Gw h e
  |set _=>exact KC V h e
  |g6 _=>exact HH V h e
  |VW _=>exact IH V h e
  |XW _=>exact KH V h e
  |wY _=>exact OH V h e
  |vY _ _=>exact GH V h e
  |M4 _ _=>exact PH V h e
  |WW _ _ _=>exact JH V h e
  |R3 _ _ _ _=>exact LH V h e
  |W0 _ _ _=>exact NH V h e
 |c k _ _ _ h e f=>cases k with
  |ite=>exact WC h e f
  |pr=>exact Bw h e f
  |comp _ _ _=>exact UH V h e f
  |cY _ _ _=>exact SL V h e f
  |del=>exact aB h e f
  |UZ _ _ _ _=>exact RH V h e f
  |GV _ _=>exact SH V h e f
  |vU _=>exact zC V h e f
 |d k _ _ _ _ h e f v=>cases k with
  |M1=>exact MH h e f v
  |ifs=>exact YC h e f v
end
section
variable{P:w8}{n i k:Mh}{nm:xh Str}{as:xh AV}{a v:AV}{b b':Tg->Ah d9}{m:M}{md:Md}{u:Mo}{c:IC}
def ar:Mh->xh AV->xh (Mh×AV)
 |_,[]=>[]
 |j,a::as=>(j,a)::ar (j+1) as
def m7(i:Mh)(nm:xh Str)(k:Mh)(m:M):Kh:=decide nm.Nodup&&(nm.all λs=>s.cps.all λc=>Nat.blt c 1114112)&&qd k nm.length&&decide (pg.ps i=nm.take k)&&(u7 nm m).b (pg.sc i) (pg.body i)
theorem rP(d:nm.Nodup)(h:(nm.all λs=>s.cps.all λc=>Nat.blt c 1114112)=true):n4 nm:=⟨d,λs m k e=>by
 haveI:=List.all_eq_true.mp h s m;rw [e,Array.all_eq_true] at this;exact Nat.not_succ_le_self _ (vh (Jg (this 0 Nat.zero_lt_one)) (Qh _ _))⟩
theorem Vy{j:Mh}(h:j+as.length<=nm.length):A0 nm (ar j as)=((nm.drop j).take as.length).zip as:=by
 induction as generalizing j with
 |nil=>exact List.zip_nil_right.symm
 |cons a _ i=>
  have d:=dg (Df (Lf _)) h;rw [List.drop_eq_getElem_cons _];show(vn _ j,a)::A0 _ _=(nm[j],a)::_;refine rL (i (vh (Ph (Og j _)) h)) ?_;unfold vn;exact rL (Fg _) rfl
theorem Xs.weak{F:Fm}{U d:Tg->Prop}{X Y:Cx}{s:xh qf}{fl:Fl}(h:∀τ,d τ->U τ)(E:Xs F U X s fl Y):Xs F d X s fl Y:=Do.weak h E
def Ri(a:AV)(b':Tg->Ah d9):KB:=λfl c=>fl.val=a/\c.b=b'
theorem done:Ri a c.b (.ret a) c:=⟨rfl,rfl⟩
theorem E9:Ri (.a9 .none) c.b .next c:=⟨rfl,rfl⟩
theorem a3(h:a=v):Ri v c.b (.ret a) c:=⟨h,rfl⟩
theorem rt:true=true:=rfl
theorem enter(o:m7 i nm k m=true)(hl:Nat.beq as.length k=true)(p:Nat.blt i 86=true)(h:(A9 P n m).b (md,[]) ⟨ar 0 as,[],b⟩ (Ri a b')):e7 P (n+1) md i as b a b':=λI=>by
 haveI hl:=Zd hl;haveI f:=l9 o;haveI g:=l9 f.1;have e:=l9 g.1;haveI d:=l9 e.1;obtain⟨fd,D,hs⟩:=P.df i (Jg p);have hp:=Hh g.2;have j:=Jg e.2;haveI q:(pg.ps i).length=k:=by refine rL hp (rL List.length_take ?_);exact Nat.min_eq_left j
 haveI z:A0 nm (ar 0 as)=(pg.ps i).zip as:=by refine rL (Vy (by rw [hl,kf];exact j)) (rL hp (rL hl ?_));rfl
 haveI hz:(⟨ar 0 _,[],b⟩:IC).cx _=_:=yh (λr=>(⟨r,A4 [] b⟩:Cx)) z;exact((ok (rP (Hh d.1) d.2) m).b _ _ _ h I).casesOn λfl c1 E l k1=>by
  haveI F:=DN D (hl.trans q.symm) λA L=>Xs.weak (λτ h=>Or.inl h) (hz▸E ⟨A,aa _ L _,_,D.fn⟩ rfl (pg.body i) (hs▸f.2));rw [show Ji _ (c1.cx _).σ=A4 [] _ from FZ,k1.1,k1.2] at F;exact⟨F,k1.2▸YX l⟩
theorem V8{id:Mh}{K:KE}{d:xh (Mh×AV)}{t:xh (Mh×d9)}(h:e7 P n md id as b a b')(q:(bF u md&&(d.all λp=>VO md p.2)&&sF a)=true)(k:K a ⟨d,t,b'⟩):ox P n id u as ⟨d,t,b⟩ K:=⟨md,a,b',h,q▸k⟩
theorem k9{d:Type}{x:Ah d}{a:d}{Q:d->Prop}(h:x=some a)(q:Q a):rd x Q:=h▸q
theorem MY{d:Type}{x:Ah d}{a:d}{Q:d->Prop}{R:Prop}(h:x=some a)(q:Q a):Ci x Q R:=h▸q
theorem ES{d:Type}{x:Ah d}{Q:d->Prop}{R:Prop}(h:x=none)(q:R):Ci x Q R:=h▸q
theorem D9{b:Kh}{Q R:Prop}(h:b=true)(q:Q):br b Q R:=h▸q
theorem v9{b:Kh}{Q R:Prop}(h:b=false)(q:R):br b Q R:=h▸q
theorem L8{b:Kh}{Q:Prop}(h:b=true)(q:Q):ck b Q:=h▸q
theorem j9{σ σ':Tg->Ah d9}{τ:Tg}{o:d9}{Q:(Tg->Ah d9)->Prop}(h:up σ τ o=σ')(q:Q σ'):Exists (Lq (up σ τ o) Q):=⟨σ',h,q⟩
variable{W:Wd}
theorem d4{a β:Type}{f g:a->β}{l:xh a}(h:l.map f=l.map g){x:a}(m:x∈l):f x=g x:=List.map_inj_left.mp h x m
theorem t7(h:i<n):i∈ug n:=List.mem_range.mpr h
theorem pL(xs:xh Nh):jh (λi=>xs.getD i .none) xs.length=xs:=HY
theorem tM{b:Kh}(h:(!b)=true):b=false:=(Pe _).mp h
theorem KF.def(k:KF W.K)(h:i<86):OM W (ZQ i) (MG i (Lx (Ax W.K (ZQ i)))) (pg.body i) (pg.ps i)/\keepIn W.K (.ref (ZQ i))=true:=
 haveI c1:=l9 (List.all_eq_true.mp k.c i (t7 h));haveI c:=l9 c1.2;haveI d:=l9 c.2;haveI f:=l9 d.2;haveI b:=l9 f.2;haveI a:=l9 b.2;haveI g:=l9 a.2
 ⟨⟨⟨_,_,_,d4 k.a (t7 h)⟩,c1.1,rfl,rfl,rfl,rfl,λxs e=>by
  haveI z:=congrFun (d4 k.b (t7 h)) λi=>xs.getD i .none;rw [<-e,pL] at z;exact z,λp m=>List.all_eq_true.mp c.1 p m,Hh d.1,Hh f.1,tM b.1,tM a.1,Hh g.1⟩,g.2⟩
theorem KF.cl(k:KF W.K):PA W.K 352=OA/\PA W.K 569=OA:=List.append_inj k.d rfl
theorem R2{D:Mh}(e:PA W.K D=OA)(b:Fu W.K D=true):(q4 W D/\∀i,i<30->De W.K (.ref D) (an i)=some none)/\makesIn W.K D=true/\keepIn W.K (.ref D)=true:=
 haveI b1:=l9 b;haveI b2:=l9 b1.2;haveI c:=l9 b2.2;haveI e1:=Dg e;haveI d:=Dg e1.2;haveI a:=Dg d.2
 ⟨⟨⟨e1.1,d.1,b1.1,a.1,b2.1⟩,λi h=>(d4 (a.2.trans (show List.replicate 30 _=(ug 30).map λz'=>some _ from rfl)) (t7 h))⟩,c.1,c.2⟩
theorem f0{P:Mh->Ah He}{d:Jh}{ds:xh Jh}{y:Nh}{a:xh Nh}(h:DR P d y)(g:F3 P ds a):F3 P (d::ds) (y::a):=⟨y,a,rfl,h,g⟩
theorem oK{l:xh (Mh×gf Nh)}{a:Mh}{x:gf Nh}(h:l.lookup a=some x):(a,x)∈l:=(List.lookup_eq_some_iff.mp h).elim λl1 q=>q.elim λl2 q=>q.1▸fg _ (.head _)
theorem KF.tp(k:KF W.K){a:Mh}{x:gf Nh}(h:mD.lookup a=some x):W.K.lookup a=some (r7 x 0):=d4 k.t (oK h)
variable{G:Gh}
theorem KF.d3(k:KF W.K)(c:∀a o,W.K.lookup a=some o->G.P a=some o){a tk b t:Mh}{s:Str}{x y:Dh}(hs:Ve s=true)(h:mD.lookup a=some #[.str s tk,.int x b,.int y t]):DR G.P (.tuple [.str s,.int x,.int y]) (.ref a):=⟨_,_,_,rfl,c _ _ (k.tp h),f0 ⟨hs,_,rfl⟩ (f0 ⟨_,rfl⟩ (f0 ⟨_,rfl⟩ rfl))⟩
theorem KF.d2(k:KF W.K)(c:∀a o,W.K.lookup a=some o->G.P a=some o){a b t:Mh}{x y:Dh}(h:mD.lookup a=some #[.int x b,.int y t]):DR G.P (.tuple [.int x,.int y]) (.ref a):=⟨_,_,_,rfl,c _ _ (k.tp h),f0 ⟨_,rfl⟩ (f0 ⟨_,rfl⟩ rfl)⟩
theorem KF.gd(k:KF W.K)(h:i<5):∃v,nsIn W.K xf (pg.gd i).1=some (some v)/\∀G,(∀a o,W.K.lookup a=some o->G.P a=some o)->F9 G (.a9 (pg.gd i).2) v:=by
 haveI e1:=Dg k.i;have g:=Dg e1.2;haveI e:=Dg g.2;have c:=Dg e.2;cases i with
 |zero=>exact⟨_,e1.1,λG b=>⟨_,_,_,rfl,b _ _ (k.tp rfl),f0 ⟨by kernel_rfl,_,rfl⟩ (f0 ⟨by kernel_rfl,_,rfl⟩ (f0 ⟨by kernel_rfl,_,rfl⟩ (f0 ⟨by kernel_rfl,_,rfl⟩ rfl)))⟩⟩
 |succ i=>cases i with
  |zero=>exact⟨_,g.1,λG z'=>⟨by kernel_rfl,_,rfl⟩⟩
  |succ i=>cases i with
   |zero=>exact⟨_,e.1,λG z'=>⟨_,rfl⟩⟩
   |succ i=>cases i with
    |zero=>
     refine⟨_,c.1,λG b=> ?_⟩;show DR _ BM _;unfold BM;haveI f:Ve (S "f")=true:=by kernel_rfl
     have p:Ve (S "p")=true:=by kernel_rfl
     exact⟨_,_,_,rfl,b _ _ (k.tp rfl),f0 (k.d3 b f rfl) (f0 (k.d3 b f rfl) (f0 (k.d3 b f rfl) (f0 (k.d3 b p rfl) (f0 (k.d3 b p rfl) (f0 (k.d3 b p rfl) rfl)))))⟩
    |succ i=>cases i with
     |zero=>
      refine⟨_,(Dg c.2).1,λG b=> ?_⟩;show DR _ CO _;unfold CO;haveI d:=λ{a t1 t2 x' y'} (h:mD.lookup a=some #[.int x' t1,.int y' t2])=>k.d2 b h;exact⟨_,_,_,rfl,b _ _ (k.tp rfl),f0 (d rfl) (f0 (d rfl) (f0 (d rfl) (f0 (d rfl) (f0 (d rfl) (f0 (d rfl) (f0 (d rfl) (f0 (d rfl) (f0 (d rfl) (f0 (d rfl) (f0 (d rfl) (f0 (d rfl) rfl)))))))))))⟩
     |succ i=>exact(Nat.not_lt_of_le (ib 5 i) h).elim
def lq(W:Wd)(k:KF W.K):w8 where
 W:=W
 C:=352
 B:=569
 fv:=ZQ
 cls:=λD h=>(h.elim (λe=>e▸R2 k.cl.1 (l9 (l9 k.f).2).1) λe=>e▸R2 k.cl.2 (l9 (l9 k.f).2).2).1
 z4:=λD h=>(h.elim (λe=>e▸R2 k.cl.1 (l9 (l9 k.f).2).1) λe=>e▸R2 k.cl.2 (l9 (l9 k.f).2).2).2
 fc:=λi h=>(Lh h▸d4 k.e (t7 (Ca h (by decide))):)
 fb:=λi a b=>(Fh (Nat.not_lt.mpr a)▸d4 k.e (t7 b):)
 fn:=λi h=>have q:=l9 (List.all_eq_true.mp (l9 k.f).1 i (t7 h));⟨q.1,λj c=>Sc (tM (List.all_eq_true.mp q.2 j (t7 c)))⟩
 lU:=⟨by kernel_rfl,by kernel_rfl,(Dg k.j).1,(Dg (Dg k.j).2).1⟩
 df:=λi h=>⟨_,(k.def h).1,rfl⟩
 kp:=λi h=>(k.def h).2
 gl:=λi a b=>by
  obtain⟨j,rfl⟩:=Nat.exists_eq_add_of_le' a;exact d4 k.g (t7 (Nat.lt_of_add_lt_add_right b))
 no:=λx m=>d4 k.h m
 gd:=λi h=>k.gd h
end
open M renaming cons->jC,var->jV,con->jK,D6->jA,sub->jS,cmp->jE,ifs->jI,met->jM,ex->jX,set->jT,fn->jF,blt->jB,lm->jL,bin->jO,ret->Yr,tup->jU,lst->jP,own->jW,M1->jY,WW->jQ,comp->jZ,and->jD,VW->jG,UZ->jH,tI->jJ
abbrev J0:M:= .var 0
abbrev J1:M:= .var 1
abbrev J2:M:= .var 2
abbrev J3:M:= .var 3
abbrev J4:M:= .var 4
abbrev J5:M:= .var 5
abbrev J6:M:= .var 6
abbrev J7:M:= .var 7
abbrev J8:M:= .var 8
abbrev J9:M:= .var 9
abbrev QR:M:= .var 10
abbrev Zx:M:= .var 11
abbrev Yx:M:= .var 12
abbrev Xx:M:= .var 13
abbrev Wx:M:= .var 14
abbrev Vx:M:= .var 15
abbrev jN:M:= .nil
abbrev Yi(i:Dh):M:= .con (.int i)
abbrev Ys(s:Cc):M:= .con (.str (S s))
abbrev Ya(i:Mh):M:= .D6 (.var 0) i
abbrev Y1(a:M):M:= .cons a .nil
abbrev Y2(a b:M):M:= .cons a (Y1 b)
abbrev Y3(a b c:M):M:= .cons a (Y2 b c)
abbrev Y4(a b c d:M):M:= .cons a (Y3 b c d)
abbrev Y5(a b c d e:M):M:= .cons a (Y4 b c d e)
abbrev Y6(a b c d e f:M):M:= .cons a (Y5 b c d e f)
def m0:M:= .M4 0 0 J1 (jQ 0 1 .root .dI (jQ 0 2 (.w7 .mem) .dI (jQ 0 3 (.w7 .use) .dI (jQ 0 4 .value .dI (jQ 0 5 (.w7 .Z9) .dI (jQ 0 6 (.w7 .C9) .dI (jQ 0 7 .up .dI (jQ 0 8 .table .dT (jQ 0 9 .sides .dI (jQ 0 10 .told .dI (jQ 0 11 .news (jP jN) (jQ 0 12 .queue (jP jN) (.M4 0 13 (jK .none) (.M4 0 14 (Yi 0) (jQ 0 15 .trail (jP jN) (jQ 0 16 .marks (jP jN) jN))))))))))))))))
def n0:xh Str:=[S "self",S "bank"]
def m3:M:=Yr (jE .eq (jS (Ya 1) J1) (jS (Ya 1) J2))
def n3:xh Str:=[S "self",S "a",S "b"]
def m5:M:=jG [3,4] (Y2 (jS (Ya 1) J1) (jS (Ya 1) J2)) (jI (jE .eq J3 J4) (Yr (jK .none)) jN (jI (jD (jE .ne (jS (Ya 4) J3) (Yi 0)) (jE .ne (jS (Ya 4) J4) (Yi 0))) (Yr (jU (Y3 (jS (Ya 4) J3) (jS (Ya 4) J4) (Yi 0)))) jN (Yr (jM J0 27 (Y2 J3 J4)))))
def n5:xh Str:=[S "self",S "a",S "b",S "one",S "other"]
def m8:M:=Yr (.ite (jE .isv (Ya 13) (jK .none)) (jK .none) (jB .list (Y1 (Ya 13))))
def n8:xh Str:=[S "self"]
def m9:M:=jI (jE .eq (jM (Ya 0) 56 (Y1 J1)) (Ys "app")) (Yr (jM (Ya 0) 57 (Y1 J1))) jN (Yr (jU jN))
def n9:xh Str:=[S "self",S "t"]
def yl:M:=jT 2 (jW (.W8 0) (jP (Y1 J1))) (.vU (jE .gt (jB .len (Y1 J2)) (Yi 0)) (jT 3 (jS J2 (.neg (Yi 1))) (jT 4 (jP jN) (jI (jE .notin J3 (Ya 1)) (.wY 4 (jZ J5 [5] true (jM J0 9 (Y1 J3)) (jE .notin J5 (Ya 1)) [0]) jN) jN (jI (jE .gt (jB .len (Y1 J4)) (Yi 0)) (jX (jL J2 .extend (Y1 J4)) jN) (jX (jL J2 .pop jN) (jI (jE .notin J3 (Ya 1)) (jX (jM J0 11 (Y1 J3)) jN) jN jN)) jN)))) [0,1,2] (jX (jM J0 15 jN) jN))
def Nn:xh Str:=[S "self",S "t",S "stack",S "here",S "missing",S "part"]
def xl:M:=jY J1 (Ya 1) J1 (.R3 0 2 1 .mem (jP (Y1 J1)) (.R3 0 3 1 .use (jP jN) (.R3 0 5 1 .Z9 (jP jN) (.R3 0 6 1 .C9 (jP jN) (jY (.ite (jE .isin (jM (Ya 0) 56 (Y1 J1)) (jJ 0)) J1 (Yi 0)) (Ya 4) J1 (.wY 2 (jZ (jS (Ya 1) J3) [3] true (jM J0 9 (Y1 J1)) jN [0]) (jH false [4] true J2 (jX (jL (jS (Ya 3) J4) .append (Y1 J1)) jN) [0,1,2] (jX (jL (Ya 15) .append (Y1 (jU (Y3 (Ys "enter") J1 J2)))) (jI (jE .gt (jB .len (Y1 J2)) (Yi 0)) (jX (jM J0 13 (Y1 J1)) jN) jN jN)))))))))
def Mn:xh Str:=[S "self",S "t",S "homes",S "part",S "home"]
def vl:M:=Yr (jO .add (jU (Y1 (jM (Ya 0) 59 (Y1 J1)))) (jB .tuple (Y1 (jZ (jS (Ya 1) J2) [2] true (jM (Ya 0) 57 (Y1 J1)) jN [0]))))
def Ln:xh Str:=[S "self",S "t",S "part"]
def ul:M:=jT 2 (jM J0 12 (Y1 J1)) (jT 3 (jL (Ya 8) .get (Y1 J2)) (jI (jE .isv J3 (jK .none)) (jX (jL (Ya 15) .append (Y1 (jU (Y3 (Ys "table") J2 (jK .none))))) (jY J1 (Ya 8) J2 jN)) (jI (jE .ne (jS (Ya 1) J3) (jS (Ya 1) J1)) (jX (jL (Ya 12) .append (Y1 (jU (Y3 J1 J3 (jJ 1))))) jN) jN jN) jN))
def Jn:xh Str:=[S "self",S "t",S "mark",S "other"]
def ol:M:=jX (jM J0 10 (Y1 J1)) (jX (jM J0 10 (Y1 J2)) (jX (jL (Ya 12) .append (Y1 (jU (Y3 J1 J2 J3)))) (jX (jM J0 15 jN) jN)))
def Hn:xh Str:=[S "self",S "a",S "b",S "reason"]
def jl:M:=jT 1 (Yi 0) (.vU (jD (jE .lt J1 (jB .len (Y1 (Ya 12)))) (jE .isv (Ya 13) (jK .none))) (.g6 [2,3,4] (jS (Ya 12) J1) (jT 1 (jO .add J1 (Yi 1)) (jI (jE .ne (jS (Ya 1) J2) (jS (Ya 1) J3)) (jX (jM J0 16 (Y3 J2 J3 J4)) jN) jN jN))) [0,1] (jQ 0 12 .queue (jP jN) jN))
def Gn:xh Str:=[S "self",S "spot",S "left",S "right",S "why"]
def il:M:=jI (jE .gt (jB .len (Y1 (jS (Ya 2) (jS (Ya 1) J1)))) (jB .len (Y1 (jS (Ya 2) (jS (Ya 1) J2))))) (jG [1,2] (Y2 J2 J1) jN) jN (jG [4,5] (Y2 (jS (Ya 1) J1) (jS (Ya 1) J2)) (jX (jM J0 22 (Y3 J1 J2 J3)) (jT 6 (jB .list (Y1 (jS (Ya 3) J4))) (jH false [7] true J6 (jX (jM J0 19 (Y1 J7)) jN) [0,1,2,3,4,5,6] (jX (jL (Ya 15) .append (Y1 (jU (Y5 (Ys "join") J4 J5 (jM J0 18 (Y1 J5)) (jS (Ya 4) J5))))) (jH true [7] true (jS (Ya 2) J4) (jY J5 (Ya 1) J7 jN) [0,1,2,3,4,5,6] (jX (jL (jS (Ya 2) J5) .extend (Y1 (jS (Ya 2) J4))) (jX (jL (jS (Ya 3) J5) .extend (Y1 (jS (Ya 3) J4))) (jX (jL (jS (Ya 5) J5) .extend (Y1 (jS (Ya 5) J4))) (jX (jL (jS (Ya 6) J5) .extend (Y1 (jS (Ya 6) J4))) (jG [8,9] (Y2 (jS (Ya 4) J4) (jS (Ya 4) J5)) (jI (jE .eq J9 (Yi 0)) (jY J8 (Ya 4) J5 jN) jN (jH false [7] true J6 (jX (jM J0 13 (Y1 J7)) jN) [0,1,2,3,4,5,6,8,9] (jT 10 (.ite (jD (jE .ne J8 (Yi 0)) (jE .ne J9 (Yi 0))) (jM J0 25 (Y2 J8 J9)) (jM J0 20 (Y1 J4))) (jI (jE .isv QR (jK .none)) (jX (jM J0 33 (Y1 J5)) jN) (jX (jM J0 17 (Y1 QR)) jN) jN)))))))))))))))
def En:xh Str:=[S "self",S "left",S "right",S "why",S "small",S "large",S "moved",S "t",S "first",S "second",S "reasons"]
def al:M:= .M4 0 13 J1 (.M4 0 14 (jB .len (Y1 (Ya 16))) jN)
def Cn:xh Str:=[S "self",S "reasons"]
def Zm:M:=Yr (jU (Y4 (jB .len (Y1 (jS (Ya 2) J1))) (jB .len (Y1 (jS (Ya 3) J1))) (jB .len (Y1 (jS (Ya 5) J1))) (jB .len (Y1 (jS (Ya 6) J1)))))
def Bn:xh Str:=[S "self",S "home"]
def Ym:M:=jT 2 (jM J0 12 (Y1 J1)) (jI (jE .eq (jL (Ya 8) .get (Y1 J2)) J1) (jX (jL (Ya 15) .append (Y1 (jU (Y3 (Ys "table") J2 J1)))) (.del (Ya 8) J2 jN)) jN jN)
def An:xh Str:=[S "self",S "t",S "mark"]
def Xm:M:=jH true [2,3,4] false (jS (Ya 5) J1) (jI (jE .eq (jS (Ya 1) J2) (jS (Ya 1) J3)) (Yr (jM J0 21 (Y2 (jM J0 25 (Y2 J2 J3)) J4))) jN jN) [0,1] (Yr (jK .none))
def zn:xh Str:=[S "self",S "small",S "left",S "right",S "reason"]
def Wm:M:=jI (.or (jE .eq J2 (Yi 0)) (jE .isin J2 J1)) (Yr J1) jN (Yr (jB .sorted (Y1 (jO .add J1 (jP (Y1 J2))))))
def yn:xh Str:=[S "self",S "reasons",S "reason"]
def Vm:M:=jT 4 (jM J0 23 (Y1 J1)) (jY (jU (Y2 J2 J3)) (Ya 7) J1 (jX (jL (Ya 15) .append (Y1 (jU (Y3 (Ys "edge") J1 J4)))) jN))
def xn:xh Str:=[S "self",S "left",S "right",S "why",S "top"]
def Um:M:=jG [2,3] (Y2 (jW (.W8 0) (jP jN)) J1) (.vU (jE .isin J3 (Ya 7)) (jT 4 (jS (Ya 7) J3) (jX (jL J2 .append (Y1 (jU (Y2 J3 J4)))) (jT 3 (jS J4 (Yi 0)) jN))) [0,1,2,3] (.rel 2 (jH false [5,4] false J2 (.del (Ya 7) J5 jN) [0,1,2,3] (jH false [5,4] false J2 (jY (jU (Y2 J5 (jS J4 (Yi 1)))) (Ya 7) (jS J4 (Yi 0)) jN) [0,1,2,3] (Yr J3)))))
def wn:xh Str:=[S "self",S "t",S "chain",S "here",S "edge",S "child"]
def Tm:M:=jG [3,4,5] (Y3 (jW (.W8 0) (jP (Y1 J1))) (jW (.W8 1) (.dN (.pr J1 (Yi 0) jN))) J1) (.vU (jE .isin J5 (Ya 7)) (jT 5 (jS (jS (Ya 7) J5) (Yi 0)) (jY (jB .len (Y1 J3)) J4 J5 (jX (jL J3 .append (Y1 J5)) jN))) [0,1,2,3,4,5] (jG [6,5] (Y2 (jW (.W8 2) (jP jN)) J2) (.vU (jE .notin J5 J4) (jX (jL J6 .append (Y1 J5)) (jT 5 (jS (jS (Ya 7) J5) (Yi 0)) jN)) [0,1,2,3,4,5,6] (Yr (jO .add (.iU J3 (jS J4 J5)) J6)))))
def tn:xh Str:=[S "self",S "a",S "b",S "line",S "spots",S "here",S "back"]
def Rm:M:=jI (jE .ne (jS (Ya 1) J1) (jS (Ya 1) J2)) .bad jN (jG [3,4,5] (Y3 (jW (.W8 0) (jP (Y1 (jU (Y2 J1 J2))))) (jW (.W8 1) .dI) (jW (.W8 2) .dL)) (.vU (jE .gt (jB .len (Y1 J3)) (Yi 0)) (.g6 [6,7] (jL J3 .pop jN) (jH false [8] true (jM J0 24 (Y2 J6 J7)) (jI (jE .notin J8 J4) (jY (jK (.bool true)) J4 J8 (.g6 [9,10] (jS (Ya 7) J8) (jI (jE .eq QR (jJ 1)) (jX (jL J3 .extend (Y1 (.zip (jM (Ya 0) 57 (Y1 J8)) (jM (Ya 0) 57 (Y1 J9))))) jN) (jI (jE .ne QR (Yi 0)) (jY (jK (.bool true)) J5 QR jN) jN jN) jN))) jN jN) [0,1,2,3,4,5,6,7] jN)) [0,1,2,3,4,5] (Yr (jB .sorted (Y1 (jB .list (Y1 J5)))))))
def rn:xh Str:=[S "self",S "a",S "b",S "work",S "seen",S "found",S "one",S "other",S "child",S "after",S "why"]
def Qm:M:=jX (jM J0 10 (Y1 J1)) (jX (jM J0 10 (Y1 J2)) (jI (jE .isnot (Ya 13) (jK .none)) .X0 jN (jG [4,5] (Y2 (jS (Ya 1) J1) (jS (Ya 1) J2)) (jI (jE .eq J4 J5) (jX (jM J0 17 (Y1 (jM J0 21 (Y2 (jM J0 25 (Y2 J1 J2)) J3)))) .X0) jN (jX (jL (jS (Ya 5) J4) .append (Y1 (jU (Y3 J1 J2 J3)))) (jX (jL (jS (Ya 5) J5) .append (Y1 (jU (Y3 J1 J2 J3)))) (jX (jL (Ya 15) .append (Y1 (jU (Y3 (Ys "apart") J4 J5)))) (jX (jM J0 33 (Y1 J4)) jN))))))))
def qn:xh Str:=[S "self",S "a",S "b",S "reason",S "one",S "other"]
def Pm:M:=jH true [3,4,5] false (jS (Ya 5) J1) (jI (jD (jE .eq (jS (Ya 1) J3) J1) (jE .eq (jS (Ya 1) J4) J2)) (Yr (jU (Y3 J3 J4 J5))) jN (jI (jD (jE .eq (jS (Ya 1) J3) J2) (jE .eq (jS (Ya 1) J4) J1)) (Yr (jU (Y3 J4 J3 J5))) jN jN)) [0,1,2] (Yr (jK .none))
def pn:xh Str:=[S "self",S "one",S "other",S "left",S "right",S "reason"]
def Om:M:= .g6 [4,5,6] J3 (Yr (jM J0 21 (Y2 (jM J0 30 (Y2 (jM J0 25 (Y2 J1 J4)) (jM J0 25 (Y2 J2 J5)))) J6)))
def on:xh Str:=[S "self",S "a",S "b",S "cause",S "left",S "right",S "reason"]
def Nm:M:=Yr (jB .sorted (Y1 (jO .add J1 (jZ J3 [3] true J2 (jE .notin J3 J1) [1]))))
def gn:xh Str:=[S "self",S "some",S "more",S "reason"]
def Mm:M:=jI (jE .isin J1 (Ya 9)) .X0 jN (jG [2,3] (Y2 J1 (jM (Ya 0) 67 jN)) (jI (jE .eq (jM (Ya 0) 56 (Y1 J1)) (Ys "=")) (.g6 [2,3] (jM (Ya 0) 57 (Y1 J1)) jN) jN (jX (jM J0 10 (Y1 J2)) (jX (jM J0 10 (Y1 J3)) (jX (jM J0 32 (Y3 J1 J2 J3)) jN)))))
def cn:xh Str:=[S "self",S "t",S "left",S "right"]
def Lm:M:=jG [4,5] (Y2 (jS (Ya 1) J2) (jS (Ya 1) J3)) (jY (jU (Y2 J2 J3)) (Ya 9) J1 (jX (jL (jS (Ya 6) J4) .append (Y1 J1)) (jI (jE .ne J4 J5) (jX (jL (jS (Ya 6) J5) .append (Y1 J1)) jN) jN (jX (jL (Ya 15) .append (Y1 (jU (Y4 (Ys "watch") J1 J4 J5)))) (jX (jM J0 34 (Y1 J1)) jN)))))
def bn:xh Str:=[S "self",S "t",S "left",S "right",S "one",S "other"]
def Km:M:=jH true [2] true (jS (Ya 6) J1) (jX (jM J0 34 (Y1 J2)) jN) [0,1] jN
def Zo:xh Str:=[S "self",S "home",S "t"]
def Jm:M:=jI (jE .isin J1 (Ya 10)) .X0 jN (.g6 [2,3] (jS (Ya 9) J1) (jI (.val (jM J0 3 (Y2 J2 J3))) (jY (jU (Y2 (Yi 1) (jK .none))) (Ya 10) J1 jN) (jT 4 (jM J0 5 (Y2 J2 J3)) (jI (jE .isv J4 (jK .none)) .X0 jN (jY (jU (Y2 (.neg (Yi 1)) J4)) (Ya 10) J1 jN))) (jX (jL (Ya 11) .append (Y1 J1)) (jX (jL (Ya 15) .append (Y1 (jU (Y2 (Ys "told") J1)))) jN))))
def Yo:xh Str:=[S "self",S "t",S "left",S "right",S "cause"]
def Im:M:=jG [1,2] (Y2 (jW (.W8 0) (jP jN)) (jW (.W8 1) .dI)) (jH true [3] true (Ya 11) (jI (jD (jE .isin J3 (Ya 10)) (jE .notin J3 J2)) (jY (jK (.bool true)) J2 J3 (jX (jL J1 .append (Y1 (jU (Y2 J3 (jS (jS (Ya 10) J3) (Yi 0)))))) jN)) jN jN) [0,1,2] (.rel 1 (jQ 0 11 .news (jP jN) (Yr J1))))
def Xo:xh Str:=[S "self",S "found",S "seen",S "t"]
def Em:M:= .g6 [2,3] (jS (Ya 9) J1) (.g6 [4,5] (jS (Ya 10) J1) (jI (jE .eq J4 (Yi 1)) (Yr (jM J0 25 (Y2 J2 J3))) jN (Yr (jM J0 29 (Y3 J2 J3 J5)))))
def Wo:xh Str:=[S "self",S "t",S "left",S "right",S "truth",S "cause"]
def Dm:M:=jX (jL (Ya 16) .append (Y1 (jB .len (Y1 (Ya 15))))) jN
def Vo:xh Str:=[S "self"]
def Bm:M:=jI (jE .le J1 (Yi 0)) .X0 jN (jT 2 (jS (Ya 16) (jO .sub (jB .len (Y1 (Ya 16))) J1)) (jQ 0 16 .marks (.iU (Ya 16) (jO .sub (jB .len (Y1 (Ya 16))) J1)) (jG [3,4] (Y2 (jW (.byr 0) (jP jN)) (jW (.byr 1) (jP jN))) (.vU (jE .gt (jB .len (Y1 (Ya 15))) J2) (jX (jM J0 39 (Y3 (jL (Ya 15) .pop jN) J3 J4)) jN) [0,1,2,3,4] (jQ 0 12 .queue (jP jN) (jI (jD (jE .isnot (Ya 13) (jK .none)) (jE .lt (jB .len (Y1 (Ya 16))) (Ya 14))) (.M4 0 13 (jK .none) jN) jN (jQ 0 11 .news (.fz (jZ J5 [5] true (Ya 11) (jE .isin J5 (Ya 10)) [0])) (jH false [5] true (.TM J3 (.neg (Yi 1))) (jX (jM J0 11 (Y1 J5)) jN) [0,1,2,3,4] (jX (jM J0 15 jN) (jH false [5,6,7] false (.TM J4 (.neg (Yi 1))) (jX (jM J0 32 (Y3 J5 J6 J7)) jN) [0,1,2,3,4] jN))))))))))
def Uo:xh Str:=[S "self",S "n",S "spot",S "entered",S "watched",S "t",S "left",S "right"]
def Am:M:=jT 4 (jS J1 (Yi 0)) (jI (jE .eq J4 (Ys "enter")) (jX (jM J0 40 (Y2 (jS J1 (Yi 1)) (jS J1 (Yi 2)))) (jX (jL J2 .append (Y1 (jS J1 (Yi 1)))) jN)) (jI (jE .eq J4 (Ys "table")) (jI (jE .isv (jS J1 (Yi 2)) (jK .none)) (.del (Ya 8) (jS J1 (Yi 1)) jN) (jY (jS J1 (Yi 2)) (Ya 8) (jS J1 (Yi 1)) jN) jN) (jI (jE .eq J4 (Ys "join")) (jX (jM J0 41 (Y4 (jS J1 (Yi 1)) (jS J1 (Yi 2)) (jS J1 (Yi 3)) (jS J1 (Yi 4)))) jN) (jI (jE .eq J4 (Ys "edge")) (.del (Ya 7) (jS J1 (Yi 1)) (jX (jM J0 23 (Y1 (jS J1 (Yi 2)))) jN)) (jI (jE .eq J4 (Ys "apart")) (jX (jL (jS (Ya 5) (jS J1 (Yi 1))) .pop jN) (jX (jL (jS (Ya 5) (jS J1 (Yi 2))) .pop jN) jN)) (jI (jE .eq J4 (Ys "watch")) (.g6 [5,6] (jS (Ya 9) (jS J1 (Yi 1))) (jX (jL J3 .append (Y1 (jU (Y3 (jS J1 (Yi 1)) J5 J6)))) (jX (jM J0 42 (Y3 (jS J1 (Yi 1)) (jS J1 (Yi 2)) (jS J1 (Yi 3)))) jN))) (.del (Ya 10) (jS J1 (Yi 1)) jN) jN) jN) jN) jN) jN) jN)
def To:xh Str:=[S "self",S "entry",S "entered",S "watched",S "kind",S "left",S "right"]
def zm:M:=jH false [3] true J2 (jX (jL (jS (Ya 3) J3) .pop jN) jN) [0,1,2] (.GV 4 (Y6 (Ya 1) (Ya 2) (Ya 3) (Ya 4) (Ya 5) (Ya 6)) (.del J4 J1 jN) [0,1,2] jN)
def So:xh Str:=[S "self",S "t",S "homes",S "home",S "held"]
def ym:M:= .R3 0 2 2 .mem (.iU (jS (Ya 2) J2) (jS J3 (Yi 0))) (.R3 0 3 2 .use (.iU (jS (Ya 3) J2) (jS J3 (Yi 1))) (.R3 0 5 2 .Z9 (.iU (jS (Ya 5) J2) (jS J3 (Yi 2))) (.R3 0 6 2 .C9 (.iU (jS (Ya 6) J2) (jS J3 (Yi 3))) (jY J4 (Ya 4) J2 (jH true [5] true (jS (Ya 2) J1) (jY J1 (Ya 1) J5 jN) [0,1,2,3,4] jN)))))
def Ro:xh Str:=[S "self",S "small",S "large",S "lengths",S "value",S "t"]
def xm:M:=jX (jL (jS (Ya 6) J2) .pop jN) (jI (jE .ne J2 J3) (jX (jL (jS (Ya 6) J3) .pop jN) jN) jN (.del (Ya 9) J1 jN))
def Qo:xh Str:=[S "self",S "t",S "one",S "other"]
def wm:M:=jQ 0 17 (.bk 0) (jP (Y3 (Ys "Bool") (Ys "Int") (Ys "Real"))) (jQ 0 18 (.bk 1) (jP (Y3 (Yi 0) (Yi 0) (Yi 0))) (jQ 0 19 (.bk 2) (jP jN) (jQ 0 20 (.bk 3) (jP jN) (jQ 0 21 (.bk 4) (jP jN) (.M4 0 22 (Yi 0) (jQ 0 23 (.bk 5) (jP (Y1 (Ys ""))) (jQ 0 24 (.bk 6) (jP (Y1 (jU jN))) (jQ 0 25 (.bk 7) (jP (Y1 (jJ 2))) (jQ 0 26 (.bk 8) (jP (Y1 (Yi 0))) (jQ 0 27 (.bk 9) .dT (.M4 0 28 (jM J0 62 (Y4 (Ys "true") (jU jN) (jJ 2) (Yi 0))) (.M4 0 29 (jM J0 62 (Y4 (Ys "false") (jU jN) (jJ 2) (Yi 0))) jN))))))))))))
def Po:xh Str:=[S "self"]
def vm:M:=jX (jL (Ya 17) .append (Y1 J1)) (jX (jL (Ya 18) .append (Y1 (Yi 0))) (Yr (jO .sub (jB .len (Y1 (Ya 17))) (Yi 1))))
def Oo:xh Str:=[S "self",S "name"]
def tm:M:=jX (jL (Ya 19) .append (Y1 J1)) (jX (jL (Ya 20) .append (Y1 (jB .tuple (Y1 J2)))) (jX (jL (Ya 21) .append (Y1 J3)) (Yr (jO .sub (jB .len (Y1 (Ya 19))) (Yi 1)))))
def No:xh Str:=[S "self",S "name",S "arg_sorts",S "result"]
def qm:M:=Yr (jM J0 62 (Y4 (Ys "app") (jU jN) J2 (jM J0 49 (Y3 J1 (jU jN) J2))))
def Lo:xh Str:=[S "self",S "name",S "s"]
def pm:M:=Yr (jS (Ya 23) J1)
def Ko:xh Str:=[S "self",S "t"]
def om:M:=Yr (jS (Ya 24) J1)
def Io:xh Str:=[S "self",S "t"]
def jm:M:=Yr (jS (Ya 26) J1)
def Ho:xh Str:=[S "self",S "t"]
def sq:M:=jT 5 (jU (Y4 J1 J2 J3 J4)) (jT 6 (jL (Ya 27) .get (Y2 J5 (Yi 0))) (jI (jE .eq J6 (Yi 0)) (jT 6 (jB .len (Y1 (Ya 23))) (jX (jL (Ya 23) .append (Y1 J1)) (jX (jL (Ya 24) .append (Y1 J2)) (jX (jL (Ya 25) .append (Y1 J3)) (jX (jL (Ya 26) .append (Y1 J4)) (jY J6 (Ya 27) J5 jN)))))) jN (Yr J6)))
def Go:xh Str:=[S "self",S "op",S "args",S "sort",S "data",S "key",S "found"]
def im:M:=Yr (Ya 28)
def Co:xh Str:=[S "self"]
def em:M:=Yr (Ya 29)
def Bo:xh Str:=[S "self"]
def dm:M:=jT 2 (jS J0 (Ys "spot")) (jY (jO .add J2 (Yi 1)) J0 (Ys "spot") (jI (jE .lt J2 (jB .len (Y1 (jS J0 (Ys "cells"))))) (Yr (jO .mod (jB .int (Y1 (jS (jS J0 (Ys "cells")) J2))) J1)) jN (Yr (jO .mod (jO .mod (jO .add (jO .add (jO .add (jO .mul (jO .mul (Yi 7) J2) J2) (jO .mul (Yi 3) J2)) (jO .mul (Yi 5) (jB .len (Y1 (jS J0 (Ys "cells")))))) (Yi 2)) (Yi 97)) J1))))
def yo:xh Str:=[S "feed",S "wide",S "spot"]
def bm:M:=jT 1 (jM J0 45 (Y1 (Ys "U"))) (jG [2,3] (Y2 (jM J0 49 (Y3 (Ys "f") (jU (Y1 J1)) J1)) (jM J0 49 (Y3 (Ys "p") (jU (Y1 J1)) (jJ 2)))) (.vY 4 (.W8 0) (jZ (jM J0 51 (Y2 J5 J1)) [5] true (jU (Y3 (Ys "a") (Ys "b") (Ys "c"))) jN [0,1]) (jH false [5,6,7] false (jJ 3) (jI (jE .eq J5 (Ys "f")) (jX (jL J4 .append (Y1 (jM J0 62 (Y4 (Ys "app") (jU (Y1 (jS J4 J6))) J1 J2)))) jN) (jX (jL J4 .append (Y1 (jM J0 62 (Y4 (Ys "app") (jU (Y1 (jS J4 J6))) (jJ 2) J3)))) jN) jN) [0,1,2,3,4] (Yr (jO .add J4 (jP (Y2 (jM J0 67 jN) (jM J0 68 jN))))))))
def xo:xh Str:=[S "bank",S "thing",S "call",S "claim",S "found",S "name",S "inner",S "place"]
def am:M:=jG [1,2] (Y2 (jB .list (Y1 (jB .range (Y1 (Yi 11))))) (jK (.bool true))) (.vU (.val J2) (jT 2 (jK (.bool false)) (.vY 3 (.W8 0) (jZ (jU (Y2 (jS J4 (Yi 1)) (jS J4 (Yi 2)))) [4] true J0 (jE .eq (jS J4 (Yi 0)) (Ys "tie")) []) (jH false [5,6,7] false (jJ 3) (jH false [8,9,10] false (jJ 3) (jI (jD (jE .eq J5 J8) (jD (jE .lt J7 QR) (jE .eq (jS J1 J6) (jS J1 J9)))) (jX (jL J3 .append (Y1 (jU (Y2 J7 QR)))) jN) jN jN) [0,1,2,3,5,6,7] jN) [0,1,2,3] (jH true [11,12] false J3 (.XW [13,14] (Y2 (jB .min (Y2 (jS J1 Zx) (jS J1 Yx))) (jB .max (Y2 (jS J1 Zx) (jS J1 Yx)))) (jI (jE .ne Xx Wx) (jG [1,2] (Y2 (jZ (.ite (jE .eq Vx Wx) Xx Vx) [15] true J1 jN [13,14]) (jK (.bool true))) jN) jN jN)) [0,1,2,3] jN)))) [0,1,2] (Yr J1))
def wo:xh Str:=[S "facts",S "home",S "is_moving",S "wanted",S "fact",S "name",S "inner",S "place",S "other",S "within",S "spot",S "u",S "v",S "low",S "high",S "one"]
def Zn:M:=jT 4 (jB .sorted (Y1 (jP (Y2 (jS J0 J2) (jS J0 J3))))) (jI (jE .eq J4 (jB .sorted (Y1 (jP (Y2 (jS J0 (Yi 9)) (jS J0 (Yi 10))))))) (Yr (jK (.bool true))) jN (Yr (jE .ne (jZ J5 [5] true J1 (jD (jE .eq (jS J5 (Yi 0)) (Ys "part")) (jE .eq (jB .sorted (Y1 (jP (Y2 (jS J0 (jS J5 (Yi 1))) (jS J0 (jS J5 (Yi 2))))))) J4)) [0,4]) (jP jN))))
def vo:xh Str:=[S "home",S "facts",S "u",S "v",S "both",S "fact"]
def Yn:M:=jI (jE .eq (jS J0 J2) (jS J0 J3)) (Yr (Yi 1)) jN (Yr (.ite (.val (jF 75 (Y4 J0 J1 J2 J3))) (.neg (Yi 1)) (Yi 0)))
def uo:xh Str:=[S "home",S "facts",S "u",S "v"]
def Xn:M:=jT 1 (jF 74 (Y1 J0)) (jI (jE .eq (jS J1 (Yi 9)) (jS J1 (Yi 10))) (Yr (jK (.bool true))) jN (Yr (jE .ne (jZ J2 [2] true J0 (jD (jE .eq (jS J2 (Yi 0)) (Ys "part")) (jE .eq (jS J1 (jS J2 (Yi 1))) (jS J1 (jS J2 (Yi 2))))) [1]) (jP jN))))
def so:xh Str:=[S "facts",S "home",S "fact"]
def Wn:M:=jT 1 (jP jN) (jH true [2] true (jS J0 (Ys "levels")) (jT 1 (jO .add J1 J2) jN) [0,1] (Yr J1))
def ro:xh Str:=[S "state",S "found",S "level"]
def Vn:M:=jT 2 (jF 78 (Y1 J0)) (jT 3 (jZ (jS J4 (Yi 3)) [4] true J2 jN []) (jI (.or (.not (.val (.CF J1))) (jE .ne J1 (.xH J1))) (Yr (jK .none)) jN (jI (jE .ne (jZ J5 [5] true J1 (jE .notin J5 J3) [3]) (jP jN)) (Yr (jK .none)) jN (Yr (jZ J4 [4] true J2 (jE .isin (jS J4 (Yi 3)) J1) [1])))))
def qo:xh Str:=[S "state",S "reasons",S "facts",S "marks",S "fact",S "one"]
def Tn:M:=jT 3 (jF 79 (Y2 J0 (jM J1 36 (Y1 J2)))) (.g6 [4,5] (jS (jS J0 (Ys "watched")) J2) (Yr (.uW (jE .isnot J3 (jK .none)) (.one (jE .eq (jF 76 (Y4 (jF 74 (Y1 J3)) J3 J4 J5)) (jS (jS (jS J0 (Ys "told")) J2) (Yi 0)))))))
def po:xh Str:=[S "state",S "house",S "t",S "facts",S "u",S "v"]
def Sn:M:=jT 1 (jF 78 (Y1 J0)) (jT 2 (jF 74 (Y1 J1)) (jH true [3] true (jS J0 (Ys "watched")) (.g6 [4,5] (jS (jS J0 (Ys "watched")) J3) (jT 6 (jF 76 (Y4 J2 J1 J4 J5)) (jI (jD (jE .ne J6 (Yi 0)) (jE .notin J3 (jS J0 (Ys "told")))) (jY (jU (Y2 J6 (jB .len (Y1 (jS J0 (Ys "levels")))))) (jS J0 (Ys "told")) J3 (jX (jL (jS J0 (Ys "fresh")) .append (Y1 J3)) jN)) jN jN))) [0,1,2] jN))
def oo:xh Str:=[S "state",S "facts",S "home",S "t",S "u",S "v",S "truth"]
def Rn:M:=jX (jM J1 38 (Y1 J2)) (.W0 0 (S "levels") .levels (.iU (jS J0 (Ys "levels")) (jO .sub (jB .len (Y1 (jS J0 (Ys "levels")))) J2)) (jT 3 (.fz (jZ J4 [4] true (jS J0 (Ys "told")) (jE .le (jS (jS (jS J0 (Ys "told")) J4) (Yi 1)) (jB .len (Y1 (jS J0 (Ys "levels"))))) [0])) (.W0 0 (S "told") .ltold (.cY J4 (jS (jS J0 (Ys "told")) J4) [4] true J3 [0]) (.W0 0 (S "fresh") .fresh (.fz (jZ J4 [4] true (jS J0 (Ys "fresh")) (jE .isin J4 J3) [3])) jN))))
def ko:xh Str:=[S "state",S "house",S "many",S "kept",S "t"]
def Qn:M:=jT 2 (.VQ (.fz (jZ (jU (Y2 J3 (jS (jS (jS J0 (Ys "told")) J3) (Yi 0)))) [3] true (jS J0 (Ys "fresh")) jN [0]))) (jI (.or (jE .ne (.VQ (jM J1 35 jN)) J2) (jE .ne (jM J1 35 jN) (jP jN))) (Yr (jK (.bool false))) jN (.W0 0 (S "fresh") .fresh (jP jN) (Yr (jE .eq (jZ J3 [3,4] false J2 (.not (.val (jF 80 (Y3 J0 J1 J3)))) [0,1]) (jP jN)))))
def jo:xh Str:=[S "state",S "house",S "due",S "t",S "truth"]
def Pn(i:Mh):M:=jG [5,6] (Y2 (jS J1 (Ys "terms")) (jF 72 (Y2 J0 (Yi 8)))) (jI (jE .isin J6 (jU (Y2 (Yi 3) (Yi 4)))) (.g6 [7,8] (jS (jJ 4) (jF 72 (Y2 J0 (Yi 12)))) (jT 9 (.ite (jE .eq J8 (Yi 9)) (jS J5 J7) (jM J3 62 (Y4 (Ys "=") (jU (Y2 (jB .min (Y2 (jS J5 J7) (jS J5 J8))) (jB .max (Y2 (jS J5 J7) (jS J5 J8))))) (jJ 2) (Yi 0)))) (jY (jU (Y2 J7 J8)) (jS J1 (Ys "watched")) J9 (jX (jM J2 31 (Y1 J9)) jN)))) (jI (jE .eq J6 (Yi 5)) (jX (jL (jS J1 (Ys "levels")) .append (Y1 (jW (.lvl i) (jP jN)))) (jX (jM J2 37 jN) jN)) (jI (jD (jE .eq J6 (Yi 6)) (jE .gt (jB .len (Y1 (jS J1 (Ys "levels")))) (Yi 1))) (jX (jF 82 (Y3 J1 J2 (jO .add (Yi 1) (jF 72 (Y2 J0 (jO .sub (jB .len (Y1 (jS J1 (Ys "levels")))) (Yi 1))))))) jN) (jI (jE .ne J6 (Yi 6)) (jT 7 (jF 72 (Y2 J0 (Yi 9))) (jT 8 (.ite (jE .lt J7 (Yi 6)) (jF 72 (Y2 J0 (Yi 6))) (jO .add (Yi 6) (jF 72 (Y2 J0 (.ite (jE .eq J6 (Yi 2)) (Yi 3) (Yi 5)))))) (jX (jL (jS (jS J1 (Ys "levels")) (.neg (Yi 1))) .append (Y1 (jU (Y4 (.ite (jE .eq J6 (Yi 2)) (Ys "part") (Ys "tie")) J7 J8 J4)))) (jI (jE .eq J6 (Yi 2)) (jX (jM J2 26 (Y3 (jS J5 J7) (jS J5 J8) J4)) jN) (jX (jM J2 14 (Y3 (jS J5 J7) (jS J5 J8) J4)) jN) jN)))) jN jN) jN) jN) jN)
def io:xh Str:=[S "feed",S "state",S "house",S "bank",S "mark",S "some",S "deed",S "u",S "v",S "t"]
def rq:M:=jG [1,2] (Y2 (jW .feed (.dS (.pr (Ys "cells") (jB .list (Y1 (.iU J0 (Yi 48)))) (.pr (Ys "spot") (Yi 0) jN)))) (.new .bank 43 jN)) (jT 3 (.new .house 0 (Y1 J2)) (jT 4 (jW .state (.dS (.pr (Ys "terms") (jF 73 (Y1 J2)) (.pr (Ys "levels") (jW .levels (jP (Y1 (jW (.lvl 0) (jP jN))))) (.pr (Ys "watched") (jW .lwat .dL) (.pr (Ys "told") (jW .ltold .dL) (.pr (Ys "fresh") (jW .fresh (jP jN)) jN))))))) (jH false [5] true (jB .range (Y1 (jO .add (Yi 3) (jF 72 (Y2 J1 (Yi 4)))))) (jX (jF 84 (Y5 J1 J4 J3 J2 (jO .mul (jO .add J5 (Yi 2)) (.ite (jE .eq (jO .mod J5 (Yi 2)) (Yi 0)) (Yi 1) (.neg (Yi 1)))))) (jT 6 (jM J3 8 jN) (jI (jE .ne (jE .isnot J6 (jK .none)) (jF 77 (Y1 (jF 78 (Y1 J4))))) (Yr (jK (.bool false))) jN (jI (jE .isnot J6 (jK .none)) (jT 7 (jF 79 (Y2 J4 J6)) (jI (.or (jE .isv J7 (jK .none)) (.not (.val (jF 77 (Y1 J7))))) (Yr (jK (.bool false))) jN (jI (jE .eq (jB .len (Y1 (jS J4 (Ys "levels")))) (Yi 1)) (Yr (jE .isnot (jM J3 35 jN) (jK .none))) jN (jX (jF 82 (Y3 J4 J3 (Yi 1))) jN)))) jN (jX (jF 81 (Y1 J4)) (jI (jD (jE .eq (jF 72 (Y2 J1 (Yi 2))) (Yi 1)) (.not (.val (jF 83 (Y2 J4 J3))))) (Yr (jK (.bool false))) jN jN)))))) [0,1,2,3,4] (Yr (.uW (jF 83 (Y2 J4 J3)) (.one (jE .eq (.fz (jZ J8 [8] true (jS J4 (Ys "told")) (.not (.val (jF 80 (Y3 J4 J3 J8)))) [3,4])) (jP jN))))))))
def pq:xh Str:=[S "script",S "feed",S "bank",S "house",S "state",S "lap",S "clash",S "facts",S "t"]
theorem c0:m7 0 n0 2 m0=true:=by kernel_rfl
theorem c3:m7 3 n3 3 m3=true:=by kernel_rfl
theorem c5:m7 5 n5 3 m5=true:=by kernel_rfl
theorem c8:m7 8 n8 1 m8=true:=by kernel_rfl
theorem c9:m7 9 n9 2 m9=true:=by kernel_rfl
theorem ei:m7 10 Nn 2 yl=true:=by kernel_rfl
theorem di:m7 11 Mn 2 xl=true:=by kernel_rfl
theorem ci:m7 12 Ln 2 vl=true:=by kernel_rfl
theorem Er:m7 13 Jn 2 ul=true:=by kernel_rfl
theorem bi:m7 14 Hn 4 ol=true:=by kernel_rfl
theorem ai:m7 15 Gn 1 jl=true:=by kernel_rfl
theorem Zj:m7 16 En 4 il=true:=by kernel_rfl
theorem Yj:m7 17 Cn 2 al=true:=by kernel_rfl
theorem Xj:m7 18 Bn 2 Zm=true:=by kernel_rfl
theorem Dr:m7 19 An 2 Ym=true:=by kernel_rfl
theorem cp:m7 20 zn 2 Xm=true:=by kernel_rfl
theorem Wj:m7 21 yn 3 Wm=true:=by kernel_rfl
theorem Vj:m7 22 xn 4 Vm=true:=by kernel_rfl
theorem Uj:m7 23 wn 2 Um=true:=by kernel_rfl
theorem Tj:m7 24 tn 3 Tm=true:=by kernel_rfl
theorem Sj:m7 25 rn 3 Rm=true:=by kernel_rfl
theorem bp:m7 26 qn 4 Qm=true:=by kernel_rfl
theorem Rj:m7 27 pn 3 Pm=true:=by kernel_rfl
theorem Qj:m7 29 on 4 Om=true:=by kernel_rfl
theorem Pj:m7 30 gn 3 Nm=true:=by kernel_rfl
theorem Cr:m7 31 cn 2 Mm=true:=by kernel_rfl
theorem Oj:m7 32 bn 4 Lm=true:=by kernel_rfl
theorem Nj:m7 33 Zo 2 Km=true:=by kernel_rfl
theorem Ox:m7 34 Yo 2 Jm=true:=by kernel_rfl
theorem Mj:m7 35 Xo 1 Im=true:=by kernel_rfl
theorem ap:m7 36 Wo 2 Em=true:=by kernel_rfl
theorem Lj:m7 37 Vo 1 Dm=true:=by kernel_rfl
theorem Kj:m7 38 Uo 2 Bm=true:=by kernel_rfl
theorem EI:m7 39 To 4 Am=true:=by kernel_rfl
theorem Zq:m7 40 So 3 zm=true:=by kernel_rfl
theorem Jj:m7 41 Ro 5 ym=true:=by kernel_rfl
theorem Ij:m7 42 Qo 4 xm=true:=by kernel_rfl
theorem Hj:m7 43 Po 1 wm=true:=by kernel_rfl
theorem Gj:m7 45 Oo 2 vm=true:=by kernel_rfl
theorem Fj:m7 49 No 4 tm=true:=by kernel_rfl
theorem Ej:m7 51 Lo 3 qm=true:=by kernel_rfl
theorem Dj:m7 56 Ko 2 pm=true:=by kernel_rfl
theorem Cj:m7 57 Io 2 om=true:=by kernel_rfl
theorem Bj:m7 59 Ho 2 jm=true:=by kernel_rfl
theorem Yq:m7 62 Go 5 sq=true:=by kernel_rfl
theorem Xq:m7 67 Co 1 im=true:=by kernel_rfl
theorem Aj:m7 68 Bo 1 em=true:=by kernel_rfl
theorem zj:m7 72 yo 2 dm=true:=by kernel_rfl
theorem xj:m7 73 xo 1 bm=true:=by kernel_rfl
theorem wj:m7 74 wo 1 am=true:=by kernel_rfl
theorem vj:m7 75 vo 4 Zn=true:=by kernel_rfl
theorem uj:m7 76 uo 4 Yn=true:=by kernel_rfl
theorem tj:m7 77 so 1 Xn=true:=by kernel_rfl
theorem sj:m7 78 ro 1 Wn=true:=by kernel_rfl
theorem rj:m7 79 qo 2 Vn=true:=by kernel_rfl
theorem pj:m7 80 po 3 Tn=true:=by kernel_rfl
theorem oj:m7 81 oo 1 Sn=true:=by kernel_rfl
theorem nj:m7 82 ko 3 Rn=true:=by kernel_rfl
theorem mj:m7 83 jo 2 Qn=true:=by kernel_rfl
theorem lj(i:Mh):m7 84 io 5 (Pn i)=true:=by kernel_rfl
theorem Wq:m7 85 pq 1 rq=true:=by kernel_rfl
inductive F5 where
 |mk (m:Dh)
 |args
abbrev o8:=Dh×Dh×Dh
inductive Ent where
 |enter (t:Dh) (homes:xh Dh)
 |table (m:xh Dh) (t:Ah Dh)
 |join (small large:Dh) (ln:LK->Mh) (v:Dh)
 |edge (left a:Dh)
 |apart (one o:Dh)
 |watch (t one o:Dh)
 |told (t:Dh)
structure Cor where
 root:Dh->Ah Dh
 val:Dh->Ah Dh
 ls:LK×Dh->Ah (xh Jh)
 up:Dh->Ah (Dh×F5)
 tab:xh Dh->Ah Dh
 P9:Dh->Ah (Dh×Dh)
 d8:Dh->Ah (Ah o8)
structure G9 extends Cor where
 queue:xh (Dh×Dh×F5)
 news:xh Dh
 clash:Ah (xh Dh)
 g0:Dh
 trail:xh Ent
 marks:xh Dh
structure O8 where
 sn:xh Jh
 sw:xh Jh
 ops:xh Str
 args:xh (xh Dh)
 sorts:xh Dh
 t6:xh Jh
 eT:xh Jh
 yD:xh Jh
 vD:xh Jh
 num:xh KI->Ah AV
 tY:Dh
 WF:Dh
noncomputable instance LK.dec:xg LK:=λa b=>if h:a.code=b.code then .isTrue (by cases a<;>cases b<;>first|rfl|exact absurd h (by decide)) else .isFalse λe=>h (yh _ e)
def iv(i:Dh):AV:= .a9 (.int i)
def rZ:F5->Jh
 | .mk m=> .int m
 | .args=> .str (S "arguments")
def eo(o:Ah Dh):Jh:=(o.map Uc).getD .none
def t4(c:o8):Jh:= .tuple [.int c.1,.int c.2.1,.int c.2.2]
def qY(w:Dh×Dh):Jh:= .tuple [.int w.1,.int w.2]
def nD(o:Ah o8):Jh:=(o.map λc=>PyData.tuple [.int (-1),t4 c]).getD (.tuple [.int 1,.none])
def Dx(ln:LK->Mh):Jh:= .tuple [.int (ln .mem),.int (ln .use),.int (ln .Z9),.int (ln .C9)]
def BY:Ent->Jh
 | .enter t hs=> .tuple [.str (S "enter"),.int t,.list (zs hs)]
 | .table m t=> .tuple [.str (S "table"),.tuple (zs m),eo t]
 | .join s l ln v=> .tuple [.str (S "join"),.int s,.int l,Dx ln,.int v]
 | .edge a b=> .tuple [.str (S "edge"),.int a,.int b]
 | .apart a b=> .tuple [.str (S "apart"),.int a,.int b]
 | .watch t a b=> .tuple [.str (S "watch"),.int t,.int a,.int b]
 | .told t=> .tuple [.str (S "told"),.int t]
def Hy(o:Ah (xh Dh)):Jh:=(o.map λl=>PyData.list (zs l)).getD .none
def qD(q:Dh×Dh×F5):Jh:= .tuple [.int q.1,.int q.2.1,rZ q.2.2]
def bC(p:Dh×F5):AV:= .a9 (.tuple [.int p.1,rZ p.2])
def A5(c:Ah (xh Dh))(lv:Dh):xh (Mh×AV):=[(0,.g9 .bank),(1,.g9 .root),(2,.g9 (.w7 .mem)),(3,.g9 (.w7 .use)),(4,.g9 .value),(5,.g9 (.w7 .Z9)),(6,.g9 (.w7 .C9)),(7,.g9 .up),(8,.g9 .table),(9,.g9 .sides),(10,.g9 .told),(11,.g9 .news),(12,.g9 .queue),(13,.a9 (Hy c)),(14,iv lv),(15,.g9 .trail),(16,.g9 .marks)]
def hY(K:O8):xh (Mh×AV):=[(17,.g9 (.bk 0)),(18,.g9 (.bk 1)),(19,.g9 (.bk 2)),(20,.g9 (.bk 3)),(21,.g9 (.bk 4)),(22,iv 0),(23,.g9 (.bk 5)),(24,.g9 (.bk 6)),(25,.g9 (.bk 7)),(26,.g9 (.bk 8)),(27,.g9 (.bk 9)),(28,iv K.tY),(29,iv K.WF)]
def ls(l:xh Jh):Ah d9:=some (.list true (l.map .a9))
def SX(x:KI)(k:Dh->Ah (xh Dh)):Ah (xh Dh):=KI.casesOn x k (λz'=>none) λz'=>none
def nI(l:xh KI):Ah (xh Dh):=List.casesOn l none λx m=>SX x λa=>List.casesOn m none λy r=>SX y λb=>List.casesOn r (some [a,b]) λz' z'=>none
def QW(f:xh Dh->Ah Dh)(k:xh KI):Ah AV:=(nI k).bind λl=>(f l).map iv
def O0(K:O8):Mh->Ah d9
 |0=>ls K.sn
 |1=>ls K.sw
 |2=>ls K.eT
 |3=>ls K.yD
 |4=>ls K.vD
 |5=>ls (K.ops.map .str)
 |6=>ls (K.args.map λl=> .tuple (zs l))
 |7=>ls (zs K.sorts)
 |8=>ls K.t6
 |9=>some (.W9 K.num)
 |_=>none
structure q9 where
 ls:LK->Dh->Ah d9
 z:LK->Dh->Kh
 b:Mh->Ah d9
 r:Tg->Ah d9
def dD{a:Type}(h:a->AV)(f:Dh->Ah a):d9:= .p9 true λt=>(f t).map h
def gr(k:LK)(f:LK×Dh->Ah (xh Jh)):d9:= .p9 true λt=>(f (k,t)).map λz'=> .g9 (.ls k t)
def lT(z:Kh)(g:Ah d9)(o:Ah (xh Jh)):Ah d9:=match o with
 |some l=>some (.list (!z) (l.map .a9))
 |none=>g
def fj(C B:Mh)(g:q9)(K:O8)(E:G9):Tg->Ah d9
 | .house=>some (.inst C (A5 E.clash E.g0))
 | .root=>some (dD iv E.root)
 | .value=>some (dD iv E.val)
 | .up=>some (dD bC E.up)
 | .table=>some (.W9 (QW E.tab))
 | .sides=>some (dD (λp=> .a9 (qY p)) E.P9)
 | .told=>some (dD (λp=> .a9 (nD p)) E.d8)
 | .queue=>ls (E.queue.map qD)
 | .news=>ls (zs E.news)
 | .trail=>ls (E.trail.map BY)
 | .marks=>ls (zs E.marks)
 | .w7 k=>some (gr k E.ls)
 | .ls k t=>lT (g.z k t) (g.ls k t) (E.ls (k,t))
 | .bank=>some (.inst B (hY K))
 | .bk k=>O0 K k
 | .W8 _=>none
 | .byr k=>g.b k
 |τ=>g.r τ
theorem B9{σ σ':Tg->Ah d9}{τ:Tg}{o:d9}(h:∀t,t≠τ->σ t=σ' t)(q:σ' τ=some o):up σ τ o=σ':=funext λt=>by
 by_cases e:t=τ
 ·rw [e,q7,q]
 ·rw [u8 e,h t e]
theorem e7.up{P:w8}{n m:Mh}{md:Md}{i:Mh}{as:xh AV}{b b':Tg->Ah d9}{a:AV}(h:e7 P n md i as b a b')(l:n<=m):e7 P m md i as b a b':=λI=>⟨λA G s xs h1 h2 h3=>(h I).1 A G s xs h1 (eg (Sh (Zf 2 l) _) h2) (eg (Sh (Zf 20 l) _) h3),(h I).2⟩
section
variable{P:w8}{n m:Mh}{g:q9}{K:O8}{E:G9}{t x d:Dh}{md:Md}{u:Mo}{κ:LK}{l:xh Jh}
def hp(P:w8)(g:q9)(K:O8)(E:G9):Tg->Ah d9:=fj P.C P.B g K E
def TT:xh Dh:=[1,2,3,4,5,6,7,8,9,10,11]
def t8:xh (Dh×Dh):=[(6,3),(7,4),(8,6),(9,3),(10,4),(11,6)]
def VV:xh Dh:=[1,2]
def Ap(t x:Dh):Prop:=(t,x)∈t8
def sy(t:Dh):Dh:=cond (decide (t<9)) 0 1
def gH(t:Dh):Str:=cond (decide (t=1)) (S "true") (S "false")
structure AW(K:O8)(t:Dh)(o:Str)(as:xh Dh)(d:Jh):Prop where
 o:H8 t (K.ops.map λo=>AV.a9 (.str o))=some (.a9 (.str o))
 a:H8 t (K.args.map λl=>AV.a9 (.tuple (zs l)))=some (.a9 (.tuple (zs as)))
 d:H8 t (K.t6.map AV.a9)=some (.a9 d)
structure BK(K:O8):Prop where
 l:K.ops.length<=1000000/\K.args.length<=1000000/\K.t6.length<=1000000
 a:∀t x,Ap t x->AW K t (S "app") [x] (.int (sy t))
 v:∀t∈VV,∃d,AW K t (gH t) [] d
 c:∀t∈[3,4,5],∃d,AW K t (S "app") [] d
 tr:K.tY=1
def Mg(zk:LK->Kh)(n id:Mh)(md:Md)(as:xh AV)(E:G9)(a:AV)(E':G9):Prop:=∀(P:w8) (g:q9) (K:O8),BK K->(∀κ t,zk κ=false->g.z κ t=false)->e7 P n md id (.g9 .house::as) (hp P g K E) a (hp P g K E')
abbrev Mz:=Mg λz'=>true
def wa:LK->Kh
 | .C9=>true
 |_=>false
abbrev Mw:=Mg wa
abbrev Me:=Mg λz'=>false
theorem Mg.mono{z c:LK->Kh}{n id:Mh}{m:Md}{as:xh AV}{E E':G9}{a:AV}(l:∀κ,z κ=false->c κ=false)(h:Mg z n id m as E a E'):Mg c n id m as E a E':=λP g K hB hz=>h P g K hB λκ t q=>hz _ t (l _ q)
theorem Mg.lift{z:LK->Kh}{n id:Mh}{m:Md}{as:xh AV}{E E':G9}{a:AV}(h:Mz n id m as E a E'):Mg z n id m as E a E':=Mg.mono (λz' q=>Bool.noConfusion q) h
theorem p8{id:Mh}{as:xh AV}{b b':Tg->Ah d9}{a:AV}{K:KE}{ρ:xh (Mh×AV)}{tt:xh (Mh×d9)}(h:e7 P m md id as b a b')(l:qd m n=true)(q:(bF u md&&(ρ.all λp=>VO md p.2)&&sF a)=true)(k:K a ⟨ρ,tt,b'⟩):ox P n id u as ⟨ρ,tt,b⟩ K:=V8 (h.up (Jg l)) q k
theorem i9{K a:Type}[xg K]{f:K->Ah a}{k:K}{u:a}:f9 f k u k=some u:=Lh rfl
theorem e9{K a:Type}[xg K]{f:K->Ah a}{k x:K}{u:a}(h:x≠k):f9 f k u x=f x:=Fh h
theorem Z8{K a:Type}[xg K]{f:K->Ah a}{k:K}:H9 f k k=none:=Lh rfl
theorem a8{K a:Type}[xg K]{f:K->Ah a}{k x:K}(h:x≠k):H9 f k x=f x:=Fh h
theorem l6{a β K:Type}[xg K]{f:K->Ah a}{h:a->β}{k:K}:H9 (λt=>(f t).map h) k=λt=>(H9 f k t).map h:=funext λt=>by
 unfold H9;split<;>rfl
theorem x8{a β K:Type}[xg K]{f:K->Ah a}{h:a->β}{k:K}{x:a}:f9 (λt=>(f t).map h) k (h x)=λt=>(f9 f k x t).map h:=funext λt=>by
 unfold f9;split<;>rfl
theorem s7{a:Type}{f:a->Jh}{l:xh a}{x:a}:(l.map f).map AV.a9++[.a9 (f x)]=((l++[x]).map f).map .a9:=by refine rL bg (rL bg ?_);rfl
theorem X9{l:xh Dh}{x:Dh}:(zs l).map AV.a9++[iv x]=(zs (l++[x])).map AV.a9:=s7
theorem wV{R:xh KI->Ah (xh Dh)->Prop}(h:∀k,R k none)(e:∀a b,R [.int a,.int b] (some [a,b]))(k:xh KI):R k (nI k):=by
 cases k with
 |nil=>exact h _
 |cons x m=>cases x with
  |str _=>exact h _
  |tup _=>exact h _
  |int a=>cases m with
   |nil=>exact h _
   |cons y r=>cases y with
    |str _=>exact h _
    |tup _=>exact h _
    |int b=>cases r with
     |nil=>exact e a b
     |cons _ _=>exact h _
theorem AP{f g:xh Dh->Ah Dh}{a b:Dh}(h:∀x,x≠[a,b]->f x=g x){k:xh KI}(e:k≠[.int a,.int b]):QW f k=QW g k:=wV (R:=λk o=>k≠[.int a,.int b]->(o.bind λl=>(f l).map _)=o.bind λl=>(g l).map _) (λz' z'=>rfl) (λc d e=>yh (Ag _) (h _ λz=>e (by cases z;rfl))) k e
theorem lS{f:xh Dh->Ah Dh}{a b:Dh}:H9 (QW f) [.int a,.int b]=QW (H9 f [a,b]):=funext λk=>by
 by_cases e:k=[.int a,.int b]
 ·refine rL e ?_;exact(Lh rfl).trans (yh (Ag _) (Lh rfl:H9 f [a,b] [a,b]=none)).symm
 ·exact(Fh e).trans (AP (λx n=>(Fh n).symm) e)
theorem kS{f:xh Dh->Ah Dh}{a b x:Dh}:f9 (QW f) [.int a,.int b] (iv x)=QW (f9 f [a,b] x):=funext λk=>by
 by_cases e:k=[.int a,.int b]
 ·refine rL e ?_;exact(Lh rfl).trans (yh (Ag _) (Lh rfl:f9 f [a,b] x [a,b]=some x)).symm
 ·exact(Fh e).trans (AP (λy n=>(Fh n).symm) e)
theorem qR{l:xh Ent}{d:xh AV}(h:d=(l.map BY).map .a9):up (hp P g K E) .trail (.list true d)=hp P g K {E with trail:=l}:=h▸B9 (λτ n=>by cases τ<;>first|rfl|exact(n rfl).elim) rfl
theorem tR{l:xh (Dh×Dh×F5)}{d:xh AV}(h:d=(l.map qD).map .a9):up (hp P g K E) .queue (.list true d)=hp P g K {E with queue:=l}:=h▸B9 (λτ n=>by cases τ<;>first|rfl|exact(n rfl).elim) rfl
theorem VN{l:xh Dh}{d:xh AV}(h:d=(zs l).map .a9):up (hp P g K E) .news (.list true d)=hp P g K {E with news:=l}:=h▸B9 (λτ n=>by cases τ<;>first|rfl|exact(n rfl).elim) rfl
theorem wR{l:xh Dh}{d:xh AV}(h:d=(zs l).map .a9):up (hp P g K E) .marks (.list true d)=hp P g K {E with marks:=l}:=h▸B9 (λτ n=>by cases τ<;>first|rfl|exact(n rfl).elim) rfl
theorem fW{v:Dh->Ah Dh}{f:Dh->Ah AV}(h:f=λt=>(v t).map iv):up (hp P g K E) .root (.p9 true f)=hp P g K {E with root:=v}:=h▸B9 (λτ n=>by cases τ<;>first|rfl|exact(n rfl).elim) rfl
theorem WK{v:Dh->Ah (Dh×F5)}{f:Dh->Ah AV}(h:f=λt=>(v t).map bC):up (hp P g K E) .up (.p9 true f)=hp P g K {E with up:=v}:=h▸B9 (λτ n=>by cases τ<;>first|rfl|exact(n rfl).elim) rfl
theorem LV{v:Dh->Ah Dh}{f:Dh->Ah AV}(h:f=λt=>(v t).map iv):up (hp P g K E) .value (.p9 true f)=hp P g K {E with val:=v}:=h▸B9 (λτ n=>by cases τ<;>first|rfl|exact(n rfl).elim) rfl
theorem TN{v:Dh->Ah (Dh×Dh)}{f:Dh->Ah AV}(h:f=λt=>(v t).map λp=> .a9 (qY p)):up (hp P g K E) .sides (.p9 true f)=hp P g K {E with P9:=v}:=h▸B9 (λτ n=>by cases τ<;>first|rfl|exact(n rfl).elim) rfl
theorem SN{v:Dh->Ah (Ah o8)}{f:Dh->Ah AV}(h:f=λt=>(v t).map λp=> .a9 (nD p)):up (hp P g K E) .told (.p9 true f)=hp P g K {E with d8:=v}:=h▸B9 (λτ n=>by cases τ<;>first|rfl|exact(n rfl).elim) rfl
theorem sR{v:xh Dh->Ah Dh}{f:xh KI->Ah AV}(h:f=QW v):up (hp P g K E) .table (.W9 f)=hp P g K {E with tab:=v}:=h▸B9 (λτ n=>by cases τ<;>first|rfl|exact(n rfl).elim) rfl
theorem H4{c:Ah (xh Dh)}{v:Dh}{f:xh (Mh×AV)}(h:f=A5 c v):up (hp P g K E) .house (.inst P.C f)=hp P g K {E with clash:=c,g0:=v}:=h▸B9 (λτ n=>by cases τ<;>first|rfl|exact(n rfl).elim) rfl
theorem TS{s:Dh}{κ':LK}(h:Tg.ls κ' s≠ .ls κ t):(κ',s)≠(κ,t):=λe=>h (by cases e;rfl)
theorem M2(hz:g.z κ t=false)(k:(E.ls (κ,t)).isSome=true){d:xh AV}(h:d=l.map .a9):up (hp P g K E) (.ls κ t) (.list true d)=hp P g K {E with ls:=f9 E.ls (κ,t) l}:=h▸B9 (λτ n=>by
 cases τ with
 |ls κ' s=>exact yh (lT (g.z κ' s) (g.ls κ' s)) (e9 (TS n)).symm
 |w7 κ'=>exact yh (λf=>some (d9.p9 true f)) (funext λs=>by
   by_cases e:(κ',s)=(κ,t)
   ·cases e
    exact(Option.isSome_iff_exists.mp k).elim λa e=>(yh (Ag _) e).trans (yh (Ag λz'=>AV.g9 (.ls κ t)) (i9 (u:=l))).symm
   ·exact(yh (Ag _) (e9 e)).symm)
 |_=>rfl) ((yh (lT (g.z κ t) (g.ls κ t)) i9).trans (by rw [hz];rfl))
structure WT(P:w8)(K:O8)(b:Tg->Ah d9):Prop where
 i:b .bank=some (.inst P.B (hY K))
 k:∀j,b (.bk j)=O0 K j
theorem f5:WT P K (hp P g K E):=⟨rfl,λz'=>rfl⟩
theorem b9{a β:Type}{l:xh a}{f:a->β}{k:Mh}(h:l.length<=k):(l.map f).length<=k:=vh (Ph (Eh _)) h
variable{b:Tg->Ah d9}{o:Str}{as:xh Dh}{dd:Jh}
theorem Ty(T:AW K t o as dd)(hB:K.ops.length<=1000000)(B:WT P K b):e7 P 1 .all 56 [.g9 .bank,iv t] b (.a9 (.str o)) b:=by
 exact enter Dj rt rt (k9 B.i (k9 (x:=b (.bk 5)) (B.k 5) (k9 ((yh (H8 t) (jg ..)).trans T.o) ⟨b9 (b9 hB),done⟩)))
theorem Sy(T:AW K t o as dd)(hB:K.args.length<=1000000)(B:WT P K b):e7 P 1 .all 57 [.g9 .bank,iv t] b (.a9 (.tuple (zs as))) b:=by
 exact enter Cj rt rt (k9 B.i (k9 (x:=b (.bk 6)) (B.k 6) (k9 ((yh (H8 t) (jg ..)).trans T.a) ⟨b9 (b9 hB),done⟩)))
theorem Jl(T:AW K t o as dd)(hB:K.t6.length<=1000000):e7 P 1 .all 59 [.g9 .bank,iv t] (hp P g K E) (.a9 dd) (hp P g K E):=enter Bj rt rt (k9 T.d ⟨b9 hB,done⟩)
theorem Cq(hB:BK K):e7 P 1 .all 67 [.g9 .bank] (hp P g K E) (iv 1) (hp P g K E):=enter Xq rt rt (a3 (yh _ hB.tr))
end
section
abbrev Up:=Dh->Ah (Dh×F5)
abbrev N9:=Dh×Dh×F5
inductive w9(up:Up):Dh->xh N9->Dh->Prop
 |nil (t:Dh):w9 up t [] t
 |cons {t n z:Dh} {y:F5} {l:xh N9}:up t=some (n,y)->w9 up n l z->w9 up t ((t,n,y)::l) z
section
variable{up:Up}{a b c z m:Dh}{l l1 l2:xh N9}
theorem w9.app(p:w9 up a l1 b)(q:w9 up b l2 c):w9 up a (l1++l2) c:=by
 induction p with
 |nil=>exact q
 |cons h _ i=>exact .cons h (i q)
theorem w9.split(p:w9 up a (l1++l2) c):∃b,w9 up a l1 b/\w9 up b l2 c:=by
 induction l1 generalizing a with
 |nil=>exact⟨a,.nil a,p⟩
 |cons e _ i=>
  cases p with
  |cons h q=>exact(i q).imp λb z=>⟨.cons h z.1,z.2⟩
theorem w9.cmp(p:w9 up a l1 b)(q:w9 up a l2 c):(∃l,l2=l1++l/\w9 up b l c)\/(∃l,l1=l2++l/\w9 up c l b):=by
 induction p generalizing l2 with
 |nil=>exact .inl ⟨l2,rfl,q⟩
 |cons h p ih=>
  cases q with
  |nil=>exact .inr ⟨_,rfl,.cons h p⟩
  |cons h' q=>
   cases Bh (h.symm.trans h')
   exact(ih q).imp (λz=>z.imp λl z=>⟨yh (_::·) z.1,z.2⟩) λz=>z.imp λl z=>⟨yh (_::·) z.1,z.2⟩
theorem w9.stop(p:w9 up a l b)(h:up a=none):l=[]/\b=a:=by
 cases p with
 |nil=>exact⟨rfl,rfl⟩
 |cons g _=>rw [h] at g;cases g
theorem w9.ends(p:w9 up a l1 b)(q:w9 up a l2 c)(h:up b=none)(d:up c=none):l1=l2/\b=c:=by
 rcases p.cmp q with⟨l,e,r⟩|⟨l,e,r⟩
 ·obtain⟨rfl,rfl⟩:=r.stop h;exact⟨by rw [e,Th],rfl⟩
 ·obtain⟨rfl,rfl⟩:=r.stop d;exact⟨by rw [e,Th],rfl⟩
theorem w9.edge(p:w9 up a l b){e:N9}(h:e∈l):up e.1=some e.2:=by
 induction p with
 |nil=>cases h
 |cons g _ i=>
  rcases List.mem_cons.mp h with rfl|h
  ·exact g
  ·exact i h
def v7(up:Up):Prop:=∀t,∃l z,w9 up t l z/\up z=none
theorem v7.loop(T:v7 up)(p:w9 up a l a):l=[]:=by
 obtain⟨L,z,q,hz⟩:=T a;haveI h:=yh Hd ((p.app q).ends q hz hz).1;rw [Ch] at h;exact ic (Nat.add_right_cancel (h.trans (kf _).symm))
theorem w9.at_(p:w9 up a l b){e:N9}(h:e∈l):∃l1 l2,l=l1++e::l2/\w9 up a l1 e.1/\w9 up e.1 (e::l2) b/\w9 up e.2.1 l2 b:=by
 obtain⟨l1,l2,rfl⟩:=List.append_of_mem h;obtain⟨x,d,f⟩:=p.split;cases f with
 |cons g q=>exact⟨l1,l2,rfl,d,.cons g q,q⟩
theorem w9.nodup(T:v7 up)(p:w9 up a l b):(l.map (·.1)).Nodup/\b∉l.map (·.1):=by
 induction p with
 |nil=>exact⟨Ig,by simp⟩
 | @cons t n z y l h q ih=>
  refine⟨?_,?_⟩
  ·rw [Hg,Bd];refine⟨λz=> ?_,ih.1⟩;obtain⟨e,he,ee⟩:=List.mem_map.mp z;obtain⟨l1,l2,_,p1,_,_⟩:=q.at_ he
   have:=T.loop (w9.cons h (ee▸p1));cases this
  ·rw [Hg,yd,not_or];refine⟨λe=> ?_,ih.2⟩;subst e;have:=T.loop (w9.cons h q);cases this
theorem w9.ups(p:w9 up a l b):a::l.map (·.2.1)=l.map (·.1)++[b]:=by
 induction p with
 |nil=>rfl
 |cons h q i=>exact yh _ i
theorem b7{d:Type}{l:xh d}{x:d}(h:l.Nodup)(g:x∉l):(l++[x]).Nodup:=
 List.nodup_append.mpr ⟨h,List.nodup_cons.mpr ⟨List.not_mem_nil,Ig⟩,λa i b f e=>g (List.mem_singleton.mp f▸e▸i)⟩
theorem w9.IX(T:v7 up)(p:w9 up a l b):(a::l.map (·.2.1)).Nodup:=by
 exact p.ups▸b7 (p.nodup T).1 (p.nodup T).2
end
theorem S8{α:Type}[xg α]{l T:xh α}(h:l.Nodup)(g:∀x∈l,x∈T):l.length<=T.length:=h.length_le_of_subset g
def dX(es:xh N9)(c n:Dh)(y:F5):Prop:=(c,n,y)∈es\/(n,c,y)∈es
theorem dX.symm{es:xh N9}{c n:Dh}{y:F5}(h:dX es c n y):dX es n c y:=Or.symm h
theorem dX.mono{es d:xh N9}(k:∀e∈es,e∈d){c n:Dh}{y:F5}(h:dX es c n y):dX d c n y:=h.imp (k _) (k _)
inductive M5(es:xh N9):Dh->Dh->Prop
 |refl a:M5 es a a
 |step {a n b:Dh} {y:F5}:dX es a n y->M5 es n b->M5 es a b
section
variable{es es':xh N9}{a b c:Dh}
theorem M5.trans(p:M5 es a b)(q:M5 es b c):M5 es a c:=by
 induction p with
 |refl=>exact q
 |step h _ i=>exact .step h (i q)
theorem M5.one{y:F5}(h:dX es a b y):M5 es a b:= .step h (.refl _)
theorem M5.symm(p:M5 es a b):M5 es b a:=by
 induction p with
 |refl=>exact .refl _
 |step h _ i=>exact i.trans (.one h.symm)
theorem M5.mono(k:∀e∈es,e∈es')(p:M5 es a b):M5 es' a b:=by
 induction p with
 |refl=>exact .refl _
 |step h _ i=>exact .step (h.mono k) i
theorem M5.keep{R:Dh->Dh->Prop}(h0:∀x,R x x)(hs:∀x y,R x y->R y x)(ht:∀x y z,R x y->R y z->R x z)(he:∀x n y,(x,n,y)∈es->R x n)(p:M5 es a b):R a b:=by
 induction p with
 |refl=>exact h0 _
 |step h _ ih=>
  rcases h with h|h
  ·exact ht _ _ _ (he _ _ _ h) ih
  ·exact ht _ _ _ (hs _ _ (he _ _ _ h)) ih
end
structure K8(up:Up) es:Prop where
 a:∀c n y,up c=some (n,y)->dX es c n y
 b:∀x n y,(x,n,y)∈es->up x=some (n,y)\/up n=some (x,y)
 top:v7 up
section
variable{up:Up}{es p:xh N9}{a b c z m:Dh}{l l1 l2:xh N9}
theorem K8.mM(F:K8 up es)(q:w9 up a l b):M5 es a b:=by
 induction q with
 |nil=>exact .refl _
 |cons h _ i=>exact .step (F.a _ _ _ h) i
theorem K8.meet(F:K8 up es)(k:∀e∈p,e∈es)(q:M5 p a b):∃z la lb,w9 up a la z/\w9 up b lb z/\(∀e∈la,dX p e.1 e.2.1 e.2.2)/\∀e∈lb,dX p e.1 e.2.1 e.2.2:=by
 refine q.keep (R:=λa b=>∃z la lb,w9 up a la z/\w9 up b lb z/\(∀e∈la,dX p e.1 e.2.1 e.2.2)/\∀e∈lb,dX p e.1 e.2.1 e.2.2) ?_ ?_ ?_ ?_
 ·exactλx=>⟨x,[],[],.nil x,.nil x,(λz' h=>by cases h),λz' h=>by cases h⟩
 ·exactλx y ⟨z,la,lb,h1,h2,h3,h4⟩=>⟨z,lb,la,h2,h1,h4,h3⟩
 ·rintro x y w ⟨z,la,lb,h1,h2,h3,h4⟩ ⟨z',la',lb',h1',h2',h3',h4'⟩;rcases h2.cmp h1' with⟨l,e,r⟩|⟨l,e,r⟩
  ·refine⟨z',la++l,lb',h1.app r,h2',λf hf=> ?_,h4'⟩;rcases List.mem_append.mp hf with hf|hf
   ·exact h3 f hf
   ·exact h3' f (e▸fg _ hf)
  ·refine⟨z,la,lb'++l,h1,h2'.app r,h3,λf hf=> ?_⟩;rcases List.mem_append.mp hf with hf|hf
   ·exact h4' f hf
   ·exact h4 f (e▸fg _ hf)
 ·intro x n y h;rcases F.b _ _ _ (k _ h) with g|g
  ·exact⟨n,[(x,n,y)],[],.cons g (.nil _),.nil _,(λe he=>by rw [zf] at he;subst he;exact .inl h),λz' h=>by cases h⟩
  ·exact⟨x,[],[(n,x,y)],.nil _,.cons g (.nil _),(λz' h=>by cases h),λe he=>by rw [zf] at he;subst he;exact .inr h⟩
theorem K8.within(F:K8 up es)(k:∀e∈p,e∈es)(q:M5 p a b){L1 L2:xh N9}(h1:w9 up a L1 m)(h2:w9 up b L2 m)(hn:∀e∈L2,∀l,¬w9 up a l e.1):
  ∀e,e∈L1\/e∈L2->dX p e.1 e.2.1 e.2.2:=by
 obtain⟨z,la,lb,pa,pb,ea,eb⟩:=F.meet k q;have q2:∃l,lb=L2++l/\w9 up m l z:=by
  rcases pb.cmp h2 with⟨l,e,r⟩|⟨l,e,r⟩
  ·cases r with
   |nil=>exact⟨[],by rw [e,Th,Th],.nil _⟩
   |cons g r=>exact absurd pa (hn _ (by rw [e];exact fg _ (.head _)) _)
  ·exact⟨l,e,r⟩
 obtain⟨l,rfl,r⟩:=q2;have q1:∃l',la=L1++l':=by
  rcases pa.cmp h1 with⟨l',e,r'⟩|⟨l',e,r'⟩
  ·have:=F.top.loop (r'.app r);obtain⟨rfl,rfl⟩:=List.append_eq_nil_iff.mp this;exact⟨[],by rw [e,Th,Th]⟩
  ·exact⟨l',e⟩
 obtain⟨l',rfl⟩:=q1;rintro e (h|h)
 ·exact ea e (Zh _ h)
 ·exact eb e (Zh _ h)
end
structure bP(up:Up)(T:xh Dh):Prop where
 key:∀c n y,up c=some (n,y)->c∈T/\n∈T
section
variable{up:Up}{es p:xh N9}{T:xh Dh}{a b c z m:Dh}{l l1 l2:xh N9}{k:Mh}
theorem w9.short(p:w9 up a l b)(h:v7 up)(u:bP up T):l.length<=T.length:=by
 haveI:=S8 (p.nodup h).1 λx hx=>by
  obtain⟨e,d,rfl⟩:=List.mem_map.mp hx;exact(u.key _ _ _ (p.edge d)).1
 simpa using this
end
theorem AQ{m:Dh}{C A:xh Dh}(h:m∉A):(A++m::C).idxOf? m=some A.length:=by
 induction A with
 |nil=>rw [Ta,ed,Lh (zg m)];rfl
 |cons x A i=>
  refine rL Wc ?_;rw [ed,yg λ(e:x=m)=>h (e▸List.mem_cons_self),i λz=>h (.tail _ z)];rfl
end
section
variable{P:w8}{n:Mh}{g:q9}{K:O8}{E:G9}{t x top:Dh}{md:Md}{l:xh N9}{b:Tg->Ah d9}
def ID(e:N9):Jh:= .tuple [.int e.1,.tuple [.int e.2.1,rZ e.2.2]]
theorem T5{T:IC->KT->Prop}{B:IC->KB->Prop}{a:IC->IC}{k:KB}{N:Mh}{c c':IC}(q:wh T B a k N c')(h:a c=a c'):wh T B a k N c:=by
 cases N with
 |zero=>exact q
 |succ N=>exact(yh (λx=>T x λb c1=>br b (B c1 _) (k .next c1)) h).mpr q
theorem lH{t0:Dh}(p:w9 E.up t l top)(h:E.up top=none):∀{acc:xh AV},acc.length+l.length<=1000000->∀{k:KB},k .next ⟨[(0,.g9 .house),(1,iv t0),(2,.g9 (.W8 0)),(3,iv top)],[(0,.list true (acc++(l.map ID).map .a9))],hp P g K E⟩->
  wh ((A9 P n (.cmp .isin (.var 3) (.D6 (.var 0) 7))).t (md,[])) ((A9 P n (.set 4 (.sub (.D6 (.var 0) 7) (.var 3)) (.ex (.lm (.var 2) .append (.cons (.tup (.cons (.var 3) (.cons (.var 4) (.nil)))) (.nil))) (.set 3 (.sub (.var 4) (.con (.int 0))) (.nil))))).b (md,[])) (IC.keep [0,1,2,3]) k (l.length+1) ⟨[(0,.g9 .house),(1,iv t0),(2,.g9 (.W8 0)),(3,iv t)],[(0,.list true acc)],hp P g K E⟩:=by
 induction p with
 |nil t=>
  intro acc _ k hk;exact v9 (yh (λo=>(Ag bC o).isSome) h) ((Th acc)▸hk)
 | @cons t n' z y l e _ ih=>
  intro acc hl k hk;have hl:=hl;refine D9 (yh (λo=>(Ag bC o).isSome) e) (k9 (yh (Ag bC) e) ?_);refine⟨vh (Qh _ _) (cf hl),?_⟩;exact T5 (ih h (by rw [Ch];exact vh (Ph (by rw [Gg];rfl)) hl) ((ag acc [.a9 (ID (t,n',y))] ((l.map ID).map .a9)).symm▸hk)) rfl
theorem x6{τ:Tg}{w:Kh}:w6 τ (.list w []):=λz' m=>(by nomatch m)
def QV(l:xh N9)(v:Up):Up:=l.foldl (λf e=>H9 f e.1) v
def OW(l:xh N9)(v:Up):Up:=l.foldl (λf e=>f9 f e.2.1 (e.1,e.2.2)) v
theorem k8{B:IC->KB->Prop}{A:AV->IC->(IC->Prop)->Prop}{a:IC->IC}{k:KB}{vs:xh AV}{c c':IC}(q:lp B A a k vs c')(h:a c=a c'):lp B A a k vs c:=by
 cases vs with
 |nil=>exact(yh _ h).mpr q
 |cons v _=>exact(yh (λx=>A v x λc1=>B c1 _) h).mpr q
theorem nH{a b c:AV}:∀{E},(l.map (·.1)).Nodup->(∀e∈l,(E.up e.1).isSome=true)->∀{k},k .next ⟨[(0,.g9 .house),(1,a),(2,b),(3,c)],[],hp P g K {E with up:=QV l E.up}⟩->
  lp ((A9 P n (.del (.D6 (.var 0) 7) (.var 5) (.nil))).b (md,[])) (N5 false [5,4]) (IC.keep [0,1,2,3]) k ((l.map ID).map .a9) ⟨[(0,.g9 .house),(1,a),(2,b),(3,c)],[],hp P g K E⟩:=by
 induction l with
 |nil=>exactλz' z' k i=>i
 |cons e l o=>
  intro E h hs k i;have h:=List.nodup_cons.mp h;refine⟨(yh _ (rfl)).trans ((Eg ..).trans (hs e (.head _))),j9 (WK l6) ?_⟩;exact k8 (o h.2 (λf m=>(yh _ (a8 λ(q)=>h.1 (List.mem_map.mpr ⟨f,m,q⟩))).trans (hs f (.tail _ m))) i) rfl
theorem mH{a b c:AV}(j:∀e∈l,f7 e.2.1=true):∀{E k},k .next ⟨[(0,.g9 .house),(1,a),(2,b),(3,c)],[],hp P g K {E with up:=OW l E.up}⟩->
  lp ((A9 P n (.M1 (.tup (.cons (.var 5) (.cons (.sub (.var 4) (.con (.int 1))) (.nil)))) (.D6 (.var 0) 7) (.sub (.var 4) (.con (.int 0))) (.nil))).b (md,[])) (N5 false [5,4]) (IC.keep [0,1,2,3]) k ((l.map ID).map .a9) ⟨[(0,.g9 .house),(1,a),(2,b),(3,c)],[],hp P g K E⟩:=by
 induction l with
 |nil=>exactλh=>h
 |cons e l o=>
  intro E k h;exact⟨j e (.head _),j9 (WK (x8 (x:=(e.1,e.2.2)))) (k8 (o (λf m=>j f (.tail _ m)) h) rfl)⟩
theorem Vl(hn:(l.map (·.1)).Nodup)(hs:∀e∈l,(E.up e.1).isSome=true)(c:∀e∈l,f7 e.2.1=true)(p:w9 E.up t l top)(h:E.up top=none)(hl:l.length<=1000000):Mz 1 23 .st [iv t] E (iv top) {E with up:=OW l (QV l E.up)}:=λP g K z' z'=>by
 refine enter Uj rt rt (⟨x6,?_⟩);refine⟨l.length+1,lH p h (by rw [Va,kf];exact hl) ?_⟩;exact⟨l.map ID,rfl,(nH hn hs (mH c done))⟩
variable{r lv:Dh}{as:xh Dh}{dd:Jh}{cl:Ah (xh Dh)}
theorem kF:(lay (.str (S "app"))&&lay (.str (S "app")))=true:=by kernel_rfl
theorem ny:Y0 (.str (S "app")) (.str (S "app"))=true:=by kernel_rfl
theorem YT{Q:Dh->Prop}(h:t∈VV)(a:Q 1)(c:Q 2):Q t:=(List.mem_cons.mp h).elim (λe=>e▸a) λh=>List.mem_singleton.mp h▸c
theorem fF(h:t∈VV):(lay (.str (gH t))&&lay (.str (S "app")))=true:=YT (Q:=λt=>(lay (.str _)&&lay _)=true) h (by kernel_rfl) (by kernel_rfl)
theorem my(h:t∈VV):Y0 (.str (gH t)) (.str (S "app"))=false:=YT (Q:=λt=>Y0 (.str _) _=false) h (by kernel_rfl) (by kernel_rfl)
theorem Px(T:AW K t (S "app") as dd)(hB:BK K)(B:WT P K b)(H:b .house=some (.inst P.C (A5 cl lv))):e7 P 2 .all 9 [.g9 .house,iv t] b (.a9 (.tuple (zs as))) b:=by
 exact enter c9 rt rt (k9 H (k9 (x:=b .bank) B.i (V8 (Ty T hB.l.1 B) rt (L8 kF (D9 ny (k9 H (k9 (x:=b .bank) B.i (V8 (Sy T hB.l.2.1 B) rt done))))))))
theorem ip(h:t∈VV)(T:AW K t (gH t) as dd)(hB:BK K)(B:WT P K b)(H:b .house=some (.inst P.C (A5 cl lv))):e7 P 2 .all 9 [.g9 .house,iv t] b (.a9 (.tuple [])) b:=enter c9 rt rt (k9 H (k9 (x:=b .bank) B.i (V8 (Ty T hB.l.1 B) rt (L8 (fF h) (v9 (my h) done)))))
theorem BD(a:Ap t x)(c:E.root x=some r):Mz 2 12 .all [iv t] E (.a9 (.tuple [.int (sy t),.int r])) E:=λP g K hB z'=>by
 refine enter ci rt rt (V8 (Jl (hB.a t x a) hB.l.2.2) rt ?_);refine V8 (Sy (hB.a t x a) hB.l.2.1 f5) rt (⟨(by decide:1<=1000000),?_⟩);exact k9 (yh (Ag iv) c) (⟨(by decide:1<=1000000),(⟨⟨(λh=>(by nomatch h)),(λh=>(by nomatch h))⟩,(by decide:2<=1000),done⟩)⟩)
variable{E':G9}{d r' r'' o':Dh}
theorem bV(h:f7 t=true):t∈Mi 500:=by
 haveI h:=l9 h;obtain⟨k,rfl⟩:=Int.eq_ofNat_of_zero_le (Hh h.1);exact List.mem_map.mpr ⟨k,List.mem_range.mpr (Int.ofNat_lt.mp (Hh h.2)),rfl⟩
theorem PJ(a:f7 d=true)(h:f7 r=true):[KI.int d,KI.int r]∈TK:=Zh _ (List.mem_flatMap.mpr ⟨d,bV a,List.mem_map.mpr ⟨r,bV h,rfl⟩⟩)
theorem BP:f7 (sy t)=true:=by
 unfold sy;cases decide (t<9)<;>decide
theorem y8(x:Ent){a:AV}(h:a= .a9 (BY x)):up (hp P g K E) .trail (.list true ((E.trail.map BY).map .a9++[a]))=hp P g K {E with trail:=E.trail++[x]}:=qR (h▸s7)
theorem MV(x:Dh×Dh×F5){a:AV}(h:a= .a9 (qD x)):up (hp P g K E) .queue (.list true ((E.queue.map qD).map .a9++[a]))=hp P g K {E with queue:=E.queue++[x]}:=tR (h▸s7)
theorem Q9{f:Dh->Ah Dh}(h:f t=some r):(f t).map iv=some (iv r):=yh _ h
theorem N8{i j:Dh}(h:i=j):Y0 (.int i) (.int j)=true:=Rh h
theorem E8{i j:Dh}(h:i≠j):Y0 (.int i) (.int j)=false:=Xh h
theorem j6{i j:Dh}(h:i=j):(!Y0 (.int i) (.int j))=false:=yh _ (N8 h)
theorem B6{i j:Dh}(h:i≠j):(!Y0 (.int i) (.int j))=true:=yh _ (E8 h)
theorem su(a:Ap t x)(i:E.root x=some r)(h:E.tab [sy t,r]=some t)(hl:E.trail.length<=1000000):Mz 3 19 .st [iv t] E (.a9 .none) {E with trail:=E.trail++[.table [sy t,r] (some t)],tab:=H9 E.tab [sy t,r]}:=λP g K hB hz=>by
 refine enter Dr rt rt (V8 (BD a i P g K hB hz) rt ?_);refine MY (Q9 (f:=λz'=>E.tab _) (t:=0) h) (D9 (Rh rfl) ?_);refine⟨b9 (b9 hl),?_⟩;exact j9 (y8 (.table [sy t,r] (some t)) rfl) (⟨yh (λo=>(Ag iv o).isSome) h,(j9 (sR lS) E9)⟩)
theorem uu(a:Ap t x)(b:E.root x=some r)(h:E.tab [sy t,r]=some o')(hn:o'≠t):Mz 3 19 .st [iv t] E (.a9 .none) E:=λP g K hB hz=>by
 exact enter Dr rt rt (V8 (BD a b P g K hB hz) rt (MY (Q9 (f:=λz'=>E.tab _) (t:=0) h) (v9 (Xh hn) E9)))
theorem tu(a:Ap t x)(b:E.root x=some r)(h:E.tab [sy t,r]=none):Mz 3 19 .st [iv t] E (.a9 .none) E:=λP g K hB hz=>by
 exact enter Dr rt rt (V8 (BD a b P g K hB hz) rt (ES (yh (Ag iv) h) (E9)))
theorem yu(a:Ap t x)(c:E.root x=some r)(h:E.tab [sy t,r]=none)(i:f7 r=true)(hl:E.trail.length<=1000000):Mz 3 13 .st [iv t] E (.a9 .none) {E with trail:=E.trail++[.table [sy t,r] none],tab:=f9 E.tab [sy t,r] t}:=λP g K hB hz=>by
 refine enter Er rt rt (V8 (BD a c P g K hB hz) rt ?_);refine ES (yh (Ag _) h) (⟨b9 (b9 hl),?_⟩);exact j9 (y8 (.table [sy t,r] none) rfl) (⟨PJ BP i,(j9 (sR kS) E9)⟩)
theorem xu(a:Ap t x)(b:E.root x=some r)(h:E.tab [sy t,r]=some o')(e:E.root o'=some r')(c:E.root t=some r'')(hn:r'≠r'')(hl:E.queue.length<=1000000):Mz 3 13 .st [iv t] E (.a9 .none) {E with queue:=E.queue++[(t,o',.args)]}:=λP g K hB hz=>by
 refine enter Er rt rt (V8 (BD a b P g K hB hz) rt ?_);refine MY (Q9 (f:=λz'=>E.tab _) (t:=0) h) (k9 (Q9 e) (k9 (Q9 c) ?_));refine D9 (B6 hn) (⟨b9 (b9 hl),?_⟩);exact j9 (MV _ rfl) E9
theorem wu(a:Ap t x)(c:E.root x=some r)(h:E.tab [sy t,r]=some o')(e:E.root o'=some r')(b:E.root t=some r'):Mz 3 13 .st [iv t] E (.a9 .none) E:=λP g K hB hz=>by
 refine enter Er rt rt (V8 (BD a c P g K hB hz) rt ?_);exact MY (Q9 (f:=λz'=>E.tab _) (t:=0) h) (k9 (Q9 e) (k9 (Q9 b) (v9 (j6 rfl) E9)))
theorem Wl{left right:Dh}{w:F5}(h:Mz 1 23 .st [iv left] E (iv top) E')(hr:f7 left=true)(hl:E'.trail.length<=1000000):Mz 2 22 .st [iv left,iv right,.a9 (rZ w)] E (.a9 .none) {E' with up:=f9 E'.up left (right,w),trail:=E'.trail++[.edge left top]}:=λP g K hB hz=>by
 refine enter Vj rt rt (V8 (h P g K hB hz) rt ?_);refine⟨hr,?_⟩;refine j9 (WK (x8 (x:=(right,w)))) (⟨b9 (b9 hl),?_⟩);exact j9 (y8 (.edge left top) rfl) E9
end
section
variable{P:w8}{n:Mh}{g:q9}{K:O8}{E:G9}{t x a b h m top:Dh}{o:Str}{l L2:xh N9}{k:KB}{line:xh Dh}
def sp(L:xh Dh):Dh->Ah AV:=λx=>(L.idxOf? x).map λ(i:Mh)=>iv (i:Dh)
theorem yH:f9 (λz'=>none) a (iv 0)=sp [a]:=funext λx=>by
 unfold f9 sp;refine rL (ed) ?_;by_cases e:x=a
 ·refine rL (Lh e) ?_;rw [e,zg];rfl
 ·refine rL (Fh e) (rL (yg (vd e)) ?_);rfl
theorem rN{L:xh Dh}{y:Dh}(q:y∉L):(L++[y]).idxOf? x=if x=y then some L.length else L.idxOf? x:=by
 induction L with
 |nil=>
  rw [Ta,ed];by_cases e:x=y
  ·refine rL (Lh e) ?_;rw [e,zg];rfl
  ·refine rL (Fh e) (rL (yg (vd e)) ?_);rfl
 |cons z L i=>
  have q:=not_or.mp λw=>q (List.mem_cons.mpr w);refine rL Wc ?_;rw [ed,i q.2,ed];by_cases e:(z==x)=true
  ·refine rL (Lh e) ?_;rw [Lh e,Fh λw=>q.1 (w.symm.trans (eq_of_beq e).symm)]
  ·refine rL (Fh e) (rL (Fh e) ?_);by_cases w:x=y
   ·refine rL (Lh w) (rL (Lh w) ?_);rfl
   ·exact rL (Fh w) (rL (Fh w) rfl)
theorem HL{L:xh Dh}{y:Dh}(q:y∉L){v:AV}(h:v=iv L.length):f9 (sp L) y v=sp (L++[y]):=funext λx=>by
 unfold f9 sp;refine rL (rN q) (rL h ?_);split<;>rfl
theorem UJ{L:xh Dh}:(sp L x).isSome=decide (x∈L):=by
 unfold sp;exact rL Eg (Bool.eq_iff_iff.mpr (List.isSome_idxOf?.trans (tf).symm))
theorem D7{L:xh Dh}{k:Mh}(h:L.length<=k):((zs L).map AV.a9).length<=k:=b9 (b9 h)
theorem DY{L:xh Dh}:((zs L).map AV.a9).length=L.length:=(Eh _).trans (Eh _)
theorem Py(p:w9 E.up h l top)(j:E.up top=none)(q:∀e∈l,f7 e.2.1=true):∀{L:xh Dh},(L++l.map (·.2.1)).Nodup->L.length+l.length<=1000000->∀{k:KB},
  k .next ⟨[(0,.g9 .house),(1,iv a),(2,iv b),(3,.g9 (.W8 0)),(4,.g9 (.W8 1)),(5,iv top)],[(0,.list true ((zs (L++l.map (·.2.1))).map .a9)),(1,.p9 true (sp (L++l.map (·.2.1))))],hp P g K E⟩->
  wh ((A9 P n (.cmp .isin (.var 5) (.D6 (.var 0) 7))).t (.all,[])) ((A9 P n (.set 5 (.sub (.sub (.D6 (.var 0) 7) (.var 5)) (.con (.int 0))) (.M1 (.blt .len (.cons (.var 3) (.nil))) (.var 4) (.var 5) (.ex (.lm (.var 3) .append (.cons (.var 5) (.nil))) (.nil))))).b (.all,[])) (IC.keep [0,1,2,3,4,5]) k (l.length+1) ⟨[(0,.g9 .house),(1,iv a),(2,iv b),(3,.g9 (.W8 0)),(4,.g9 (.W8 1)),(5,iv h)],[(0,.list true ((zs L).map .a9)),(1,.p9 true (sp L))],hp P g K E⟩:=by
 induction p with
 |nil t=>
  intro L _ _ k i;exact v9 (yh (λo=>(Ag _ o).isSome) j) ((Th L)▸i)
 | @cons t c z y l e _ A=>
  intro L hn hl k i;haveI s:=vh (Qh _ _) (cf hl);refine D9 (yh (λo=>(Ag _ o).isSome) e) (k9 (yh (Ag _) e) ?_);refine⟨D7 s,?_⟩;refine⟨q _ (.head _),?_⟩;refine⟨D7 s,?_⟩;haveI s1:f9 _ _ (.a9 (.int (((zs L).map _).length)))=sp _:=HL (λm=>(List.nodup_append.mp hn).2.2 c m c (.head _) rfl) (rL DY rfl);haveI B:(zs L).map _++[iv c]=(zs _).map AV.a9:=X9;haveI v:L++(c::l.map (·.2.1))=(L++[c])++l.map (·.2.1):=by rw [ag];rfl
  refine T5 (A j (λf m=>q f (.tail _ m)) (v▸hn) (by refine rL Ch ?_;exact vh (Ph (by rw [Gg];rfl)) hl) (v▸i)) ?_;exact rR s1 (rR B rfl)
theorem Oy(p:w9 E.up h L2 m)(hm:m∈line)(hn:∀e∈L2,e.1∉line){o:d9}:∀{B:xh Dh},B.length+L2.length<=1000000->∀{k:KB},
  k .next ⟨[(0,.g9 .house),(1,iv a),(2,iv b),(3,.g9 (.W8 0)),(4,.g9 (.W8 1)),(5,iv m),(6,.g9 (.W8 2))],[(0,o),(1,.p9 true (sp line)),(2,.list true ((zs (B++L2.map (·.1))).map .a9))],hp P g K E⟩->
  wh ((A9 P n (.cmp .notin (.var 5) (.var 4))).t (.all,[])) ((A9 P n (.ex (.lm (.var 6) .append (.cons (.var 5) (.nil))) (.set 5 (.sub (.sub (.D6 (.var 0) 7) (.var 5)) (.con (.int 0))) (.nil)))).b (.all,[])) (IC.keep [0,1,2,3,4,5,6]) k (L2.length+1) ⟨[(0,.g9 .house),(1,iv a),(2,iv b),(3,.g9 (.W8 0)),(4,.g9 (.W8 1)),(5,iv h),(6,.g9 (.W8 2))],[(0,o),(1,.p9 true (sp line)),(2,.list true ((zs B).map .a9))],hp P g K E⟩:=by
 induction p with
 |nil t=>
  intro B _ k c;exact v9 (yh _ (UJ.trans (Rh hm))) ((Th B)▸c)
 | @cons t _ z y l e _ j=>
  intro B hl k c;refine D9 (yh _ (UJ.trans (Xh (hn _ (.head _))))) (⟨D7 (vh (Qh _ _) (cf hl)),?_⟩);refine k9 (yh (Ag _) e) ?_;haveI s:(zs B).map _++[iv t]=(zs _).map AV.a9:=X9;haveI q:B++(t::l.map (·.1))=(B++[t])++l.map (·.1):=by rw [ag];rfl
  refine T5 (j hm (λf m=>hn f (.tail _ m)) (by refine rL Ch ?_;exact vh (Ph (by rw [Gg];rfl)) hl) (q▸c)) ?_;exact rR s rfl
theorem F7{c:Type}{j:Mh}{vs:xh c}:u3 none (some j) none vs=some (vs.take j):=by rfl
theorem Ul{j:Mh}(p:w9 E.up a l top)(w:E.up top=none)(q:w9 E.up b L2 m)(A:∀e∈l,f7 e.2.1=true)(C:f7 a=true)(hn:(a::l.map (·.2.1)).Nodup)(c:(a::l.map (·.2.1)).idxOf? m=some j)(hm:∀e∈L2,e.1∉a::l.map (·.2.1))(s:l.length<=1000)(h:L2.length<=1000):
  Mz 1 24 .all [iv a,iv b] E (.a9 (.list (zs ((a::l.map (·.2.1)).take j++L2.map (·.1))))) E:=λP g K z' z'=>by
 refine enter Tj rt rt (⟨λy z=>(List.mem_singleton.mp z)▸trivial,?_⟩);refine⟨(gg _ _).mpr ⟨C,rfl⟩,?_⟩;refine⟨H7 (λz' z' e=>(by nomatch e)) trivial,?_⟩;refine⟨l.length+1,?_⟩;refine T5 (Py (L:=[a]) p w A hn (vh (Sh s 1) (by decide)) ?_) (yh (λf=>(⟨_,[(0,_),(1,d9.p9 _ f)],_⟩:IC)) yH);refine⟨x6,?_⟩;refine⟨L2.length+1,Oy (B:=[]) q (List.isSome_idxOf?.mp (c▸rfl)) hm (vh (Sh h 0) (by decide)) ?_⟩;haveI hl:(a::l.map (·.2.1)).length<=1001:=Vh (b9 s);refine k9 (yh (Ag λ(i:Mh)=>iv _) c) (⟨zs _,rfl,?_⟩);refine k9 (F7.trans (yh _ (Pc ..).symm)) (⟨b9 (vh hl (by decide)),?_⟩);refine⟨zs _,rfl,?_⟩;refine⟨?_,a3 (yh (λl=>AV.a9 _) (bg ..).symm)⟩;exact Ch▸vh (Cg (b9 (vh (List.length_take_le' ..) hl)) (b9 (b9 h))) (by decide)
end
section
variable{P:w8}{n:Mh}{g:q9}{K:O8}{E:G9}{t x d r r' a b:Dh}{u:Mo}{κ:LK}{l:xh Jh}{k:KB}{rs more:xh Dh}{c:o8}
theorem YV(h:E.ls (κ,t)=some l):lT (g.z κ t) (g.ls κ t) (E.ls (κ,t))=some (.list (!g.z κ t) (l.map .a9)):=yh _ h
theorem yM(h:E.ls (κ,t)=some l)(hz:g.z κ t=false):lT (g.z κ t) (g.ls κ t) (E.ls (κ,t))=some (.list true (l.map .a9)):=(YV h).trans (rL hz rfl)
theorem Y9{Q:AV->Prop}(h:E.ls (κ,t)=some l)(q:Q (.g9 (.ls κ t))):rd ((E.ls (κ,t)).map λz'=>AV.g9 (.ls κ t)) Q:=k9 (yh (Ag _) h) q
theorem GS{Q:d9->Prop}(h:E.ls (κ,t)=some l)(q:Q (.list (!g.z κ t) (l.map .a9))):rd (lT (g.z κ t) (g.ls κ t) (E.ls (κ,t))) Q:=k9 (YV h) q
theorem R9{Q:d9->Prop}(h:E.ls (κ,t)=some l)(hz:g.z κ t=false)(q:Q (.list true (l.map .a9))):rd (lT (g.z κ t) (g.ls κ t) (E.ls (κ,t))) Q:=k9 (yM h hz) q
theorem JY{τ:Tg}{o:d9}{e:xh (Mh×AV)}{t:xh (Mh×d9)}{b:Tg->Ah d9}{k:IC->Prop}(q:τ.ti=none):put ⟨e,t,b⟩ τ o k=∃b',up b τ o=b'/\k ⟨e,t,b'⟩:=by unfold put;rw [q]
def q9.rest(g:q9)(κ:LK)(t:Dh):q9:={g with z:=λκ' s=>if(κ',s)=(κ,t) then true else g.z κ' s}
theorem uX:(g.rest κ t).z κ t=true:=Lh rfl
theorem ZH(h:E.ls (κ,t)=some l):up (hp P g K E) (.ls κ t) (.list false (l.map .a9))=hp P (g.rest κ t) K E:=B9 (λτ n=>by
 cases τ with
 |ls _ s=>exact yh (lT · _ _) (Fh (TS n)).symm
 |_=>rfl) ((YV h).trans (rL uX rfl))
theorem YH(h:E.ls (κ,t)=some l)(hz:g.z κ t=false):up (hp P (g.rest κ t) K E) (.ls κ t) (.list true (l.map .a9))=hp P g K E:=B9 (λτ n=>by
 cases τ with
 |ls _ s=>exact yh (lT · _ _) (Fh (TS n))
 |_=>rfl) (yM h hz)
theorem hS:(Tg.ls κ t).ti=none:=by cases κ<;>rfl
theorem XY{e:xh (Mh×AV)}{K':Mo->IC->(IC->(IC->Prop)->Prop)->Prop}(h:E.ls (κ,t)=some l)(hz:g.z κ t=false)(q:K' (u.1,.ls κ t::u.2) ⟨e,[],hp P (g.rest κ t) K E⟩ λc k=>c.σ (.ls κ t)=some (.list false (l.map .a9))/\put c (.ls κ t) (.list true (l.map .a9)) k):O5 u ⟨e,[],hp P g K E⟩ K':=
 ⟨.ls _ t,_,_,(T8 hS).trans (yM h hz),C5,(JY hS).mpr ⟨_,ZH h,q⟩⟩
theorem t3{e:xh (Mh×AV)}{k:IC->Prop}(h:E.ls (κ,t)=some l)(hz:g.z κ t=false)(q:k ⟨e,[],hp P g K E⟩):(⟨e,[],hp P (g.rest κ t) K E⟩:IC).σ (.ls κ t)=some (.list false (l.map .a9))/\put ⟨e,[],hp P (g.rest κ t) K E⟩ (.ls κ t) (.list true (l.map .a9)) k:=
 ⟨(T8 hS).trans ((YV h).trans (rL uX rfl)),(JY hS).mpr ⟨_,YH h hz,q⟩⟩
theorem G8{U:Tg->Prop}{h:Type}{f:h->Jh}{l:xh h}:∀v∈(l.map f).map AV.a9,v.keeps U:=λz' m=>(List.mem_map.mp m).elim λz' e=>e.2▸trivial
theorem l3(e:E.root a=some r)(h:E.root b=some r'):Mz 1 3 .all [iv a,iv b] E (.a9 (.bool (decide (r=r')))) E:=λP g K z' z'=>by
 exact enter c3 rt rt (k9 (Q9 e) (k9 (Q9 h) done))
theorem l8(hl:∀l,E.clash=some l->l.length<=1000000):Mz 1 8 .all [] E (.a9 (Hy E.clash)) E:=λP g K z' z'=>by
 refine enter c8 rt rt ?_;cases h:E.clash with
 |none=>
  exact(yh (λz=>(A9 P 0 m8).b (.all,[]) ⟨ar 0 [.g9 .house],[],z⟩ (Ri (.a9 (Hy none)) z)) ((yh (hp P g K) (by cases E;cases h;rfl)):hp P g K E=hp P g K {E with clash:=none})).mpr done
 |some l=>
  refine(yh (λz=>(A9 P 0 _).b _ _ _) (?_:hp P g K E=hp P g K {E with clash:=some l})).mpr ?_
  ·exact yh _ (by cases E;cases h;rfl)
  ·exact⟨b9 (hl l h),done⟩
theorem Kx(hm:E.marks.length<=1000000):Mz 1 17 .st [.a9 (.list (zs h))] E (.a9 .none) {E with clash:=some h,g0:=E.marks.length}:=λP g K z' z'=>by
 refine enter Yj rt rt (j9 (H4 (c:=some _) rfl) ?_);refine⟨D7 hm,?_⟩;exact j9 (H4 (yh (λi=>A5 (some _) _) DY)) E9
theorem Xl{L:LK->xh Jh}(h:∀κ,E.ls (κ,t)=some (L κ))(hl:∀κ,(L κ).length<=1000000):Mz 1 18 .all [iv t] E (.a9 (Dx λκ=>(L κ).length)) E:=λP g K z' z'=>by
 refine enter Xj rt rt (Y9 (h .mem) (GS (h .mem) ⟨b9 (hl _),?_⟩));refine Y9 (h .use) (GS (h .use) ⟨b9 (hl _),?_⟩);refine Y9 (h .Z9) (GS (h .Z9) ⟨b9 (hl _),?_⟩);exact Y9 (h .C9) (GS (h .C9) ⟨b9 (hl _),(a3 (by rw [Eh,Eh,Eh,Eh];rfl))⟩)
theorem Pl(e:E.marks.length<=1000000)(h:E.trail.length<=1000000):Mz 1 37 .st [] E (.a9 .none) {E with marks:=E.marks++[(E.trail.length:Dh)]}:=λP g K z' z'=>by
 refine enter Lj rt rt (⟨b9 (b9 h),?_⟩);refine⟨D7 e,?_⟩;exact j9 (wR (rR X9 (yh (λi=>(zs _).map _++[iv _]) ((Eh _).trans (Eh _))))) E9
theorem m4:tW (zs rs) (.int x)=decide (x∈rs):=by
 unfold tW zs;refine rL List.any_map ?_;induction rs with
 |nil=>rfl
 |cons y l i=>
  refine rL fe (rL i ?_);show(yf _ _||decide (x∈l))=_;refine rL (show yf _ _=decide (y=x) by rfl) ?_;rw [Bool.eq_iff_iff,Xg,tf,tf,tf,yd];exact or_congr_left eq_comm
theorem K6:lay (.list (zs rs))=true:=by
 haveI h:re (zs rs)=true:=by
  induction rs with
  |nil=>rfl
  |cons x l i=>exact(gg _ _).mpr ⟨rfl,i⟩
 haveI e:ec (zs rs)<=0:=by
  clear h;induction rs with
  |nil=>exact Oh _
  |cons x l i=>exact Nat.max_le.mpr ⟨Oh _,i⟩
 exact(gg _ _).mpr ⟨h,Rh (vh (Vh e) (by decide))⟩
theorem QO:(lay (.list (zs rs))&&lay (.int x))=true:=(gg _ _).mpr ⟨K6,rfl⟩
def P7(rs:xh Dh)(m:Dh):xh Dh:=if m=0\/m∈rs then rs else Ja (rs++[m])
theorem j1{a b:xh Dh}:zs a++zs b=zs (a++b):=(bg ..).symm
theorem ou(h:rs.length<=30):Mz 1 21 .all [.a9 (.list (zs rs)),iv x] E (.a9 (.list (zs (P7 rs x)))) E:=λP g K z' z'=>by
 refine enter Wj rt rt ?_;unfold P7;by_cases e:x=0
 ·exact rL (Lh (.inl e)) (D9 (N8 e) done)
 ·refine v9 (E8 e) (L8 QO ?_);by_cases m:x∈rs
  ·exact rL (Lh (.inr m)) (D9 (m4.trans (Rh m)) done)
  ·refine rL (Fh (not_or.mpr ⟨e,m⟩)) ?_;refine v9 (m4.trans (Xh m)) ?_;haveI hl:(rs++[x]).length<=31:=Ch▸Vh h;exact⟨(j1 (b:=[x]))▸b9 (vh hl (by decide)),rs++[x],j1 (b:=[x]),eg hl (by decide),done⟩
theorem d5{α:Type}{l:xh α}{h:α->AV}{T:IC->KT->Prop}{Ee:IC->KE->Prop}{ρ:xh (Mh×AV)}{y:Mh}{tt:xh (Mh×d9)}{b:Tg->Ah d9}(f:α->Kh)(e:α->Jh)
  (ht:∀x∈l,∀K:KT,K (f x) ⟨T9 ρ y (h x),tt,b⟩->T ⟨T9 ρ y (h x),tt,b⟩ K) (he:∀x∈l,f x=true->∀K:KE,K (.a9 (e x)) ⟨T9 ρ y (h x),tt,b⟩->Ee ⟨T9 ρ y (h x),tt,b⟩ K):∀{ρ0:xh (Mh×AV)} {K:KL},(∀ρ',K (((l.filter f).map e).map .a9) ⟨ρ',tt,b⟩)->fJ T Ee ρ true [y] (l.map h) ⟨ρ0,tt,b⟩ K:=by
 induction l with
 |nil=>exactλk=>k _
 |cons x l ih=>
  intro ρ0 K k;have ih:= @ih (λx m=>ht x (.tail _ m)) (λx m=>he x (.tail _ m));refine ht x (.head _) _ ?_;cases q:f x with
  |true=>exact he x (.head _) q _ (ih λρ'=>by have:=k ρ';rw [Vf q] at this;exact this)
  |false=>exact show fJ T Ee ρ true [y] (l.map h) _ K from ih λρ'=>by have:=k ρ';rw [Xf (by rw [q];exact wg)] at this;exact this
theorem D5{ds:xh Jh}{Q:xh Jh->Prop}(h:Q ds):SV (ds.map .a9) Q:=by
 induction ds generalizing Q with
 |nil=>exact h
 |cons d _ i=>exact i h
theorem Z7:(zs rs).map AV.a9=rs.map iv:=jg ..
def Fi(rs more:xh Dh):xh Dh:=Ja (rs++more.filter λx=> !decide (x∈rs))
theorem Rl(f:rs.length<=15)(h:more.length<=15):Mz 1 30 .all [.a9 (.list (zs rs)),.a9 (.list (zs more))] E (.a9 (.list (zs (Fi rs more)))) E:=λP g K z' z'=>by
 refine enter Pj rt rt (⟨D7 (vh h (by decide)),?_⟩);refine rL Z7 ?_;refine d5 (λx=> !decide (x∈rs)) Uc (λx m K k=>(L8 QO (m4▸k))) (λx m z' K k=>k) λρ'=>D5 ?_
 ·have hl:(rs++more.filter λx=> !decide (x∈rs)).length<=30:=by refine rL Ch ?_;exact Cg f (vh (Rg ..) h)
  haveI e:zs rs++(more.filter λx=> !decide (x∈rs)).map _=zs _:=j1;exact⟨e▸b9 (vh hl (by decide)),rs++more.filter λx=> !decide (x∈rs),e,eg hl (by decide),done⟩
theorem Sl{x1 x2:xh Dh}(e1:Mz 2 25 .all [iv a,iv c.1] E (.a9 (.list (zs x1))) E)(e2:Mz 2 25 .all [iv b,iv c.2.1] E (.a9 (.list (zs x2))) E)(h1:x1.length<=15)(h2:x2.length<=15)(hj:(Fi x1 x2).length<=30):Mz 3 29 .all [iv a,iv b,.a9 (t4 c)] E (.a9 (.list (zs (P7 (Fi x1 x2) c.2.2)))) E:=λP g K hB hz=>by
 exact enter Qj rt rt (V8 (e1 P g K hB hz) rt (V8 (e2 P g K hB hz) rt (p8 (Rl h1 h2 P g K hB hz) rt rt (p8 (ou hj P g K hB hz) rt rt done))))
variable{E' E1:G9}{ra rb va vb s:Dh}{ts ts':xh o8}{vs:xh AV}
theorem ZY{Q:d9->Prop}{l:xh Jh}(h:E.ls (κ,t)=some l)(q:Q (.list false (l.map .a9))):rd (lT ((g.rest κ t).z κ t) (g.ls κ t) (E.ls (κ,t))) Q:=k9 ((YV h).trans (by rw [uX];rfl)) q
def sA:M:=jI (jE .eq (jS (Ya 1) J2) (jS (Ya 1) J3)) (Yr (jM J0 21 (Y2 (jM J0 25 (Y2 J2 J3)) J4))) jN jN
theorem yP{L:xh AV}(o:L=(ts.map t4).map .a9++vs)(hn:∀c∈ts,∃r s,E.root c.1=some r/\E.root c.2.1=some s/\r≠s)(q:lp ((A9 P 2 sA).b (.all,[.ls .Z9 t])) (N5 false [2,3,4]) (IC.keep [0,1]) k vs ⟨[(0,.g9 .house),(1,iv t)],[],hp P g K E⟩):
  lp ((A9 P 2 sA).b (.all,[.ls .Z9 t])) (N5 false [2,3,4]) (IC.keep [0,1]) k L ⟨[(0,.g9 .house),(1,iv t)],[],hp P g K E⟩:=by
 subst o;induction ts with
 |nil=>exact q
 |cons c _ j=>
  obtain⟨r,s,h,i,f⟩:=hn c (.head _);exact k9 (Q9 h) (k9 (Q9 i) (v9 (E8 f) (k8 (j λc m=>hn c (.tail _ m)) rfl)))
theorem VI(hz:∀κ t,wa κ=false->g.z κ t=false):g.z .Z9 t=false:=hz _ _ rfl
theorem ru(h:E.ls (.Z9,t)=some (ts.map t4))(hn:∀c∈ts,∃r s,E.root c.1=some r/\E.root c.2.1=some s/\r≠s):Mw 3 20 .all [iv t] E (.a9 .none) E:=λP g K z' hz=>by
 refine enter cp rt rt (XY h (VI hz) ?_);refine Y9 h (ZY h ⟨G8,?_⟩);exact k8 (yP (Th _).symm hn (t3 h (VI hz) done)) rfl
theorem pu(h:E.ls (.Z9,t)=some ((ts++c::ts').map t4))(hn:∀c∈ts,∃r s,E.root c.1=some r/\E.root c.2.1=some s/\r≠s)(f:E.root c.1=some r)(e:E.root c.2.1=some r)(M:Mz 2 25 .all [iv c.1,iv c.2.1] E (.a9 (.list (zs rs))) E)(hl:rs.length<=30):Mw 3 20 .all [iv t] E (.a9 (.list (zs (P7 rs c.2.2)))) E:=λP g K hB hz=>by
 refine enter cp rt rt (XY h (VI hz) ?_);refine Y9 h (ZY h ⟨G8,?_⟩);refine k8 (yP (by rw [bg,bg]) hn ?_) rfl;refine k9 (Q9 f) (k9 (Q9 e) (D9 (N8 rfl) ?_));refine V8 (M P _ K hB λz' z' q=>Bool.noConfusion q) rt (p8 (ou hl P _ K hB λz' z' q=>Bool.noConfusion q) rt rt ?_);exact t3 h (VI hz) done
def nq(o:Ah o8):Jh:=(o.map t4).getD .none
def VU(ρ:Dh->Ah Dh)(a b:Dh)(c:o8):Ah o8:=if ρ c.1=some a/\ρ c.2.1=some b then some c else if ρ c.1=some b/\ρ c.2.1=some a then some (c.2.1,c.1,c.2.2) else none
def UM(e:Dh->Ah Dh)(a b:Dh)(t:xh o8):Ah o8:=t.findSome? (VU e a b)
def rA:M:=jI (jD (jE .eq (jS (Ya 1) J3) J2) (jE .eq (jS (Ya 1) J4) J1)) (Yr (jU (Y3 J4 J3 J5))) jN jN
def Cv:M:=jI (jD (jE .eq (jS (Ya 1) J3) J1) (jE .eq (jS (Ya 1) J4) J2)) (Yr (jU (Y3 J3 J4 J5))) jN rA
theorem WJ{x y m:Dh}{K':KB}(h:E.root x=some r)(f:E.root y=some s)(i:r=b/\s=a->∀ρ',K' (.ret (.a9 (t4 (y,x,m)))) ⟨ρ',[],hp P g K E⟩)(q:¬(r=b/\s=a)->K' .next ⟨[(0,.g9 .house),(1,iv a),(2,iv b),(3,iv x),(4,iv y),(5,iv m)],[],hp P g K E⟩):(A9 P n rA).b u ⟨[(0,.g9 .house),(1,iv a),(2,iv b),(3,iv x),(4,iv y),(5,iv m)],[],hp P g K E⟩ K':=by
 refine k9 (Q9 h) ?_;by_cases e1:r=b
 ·refine D9 (N8 e1) (k9 (Q9 f) ?_);by_cases e:s=a
  ·exact D9 (N8 e) (i ⟨e1,e⟩ _)
  ·exact v9 (E8 e) (q λz=>e z.2)
 ·exact v9 (E8 e1) (q λz=>e1 z.1)
theorem sB(hn:∀c∈m,∃r s,E.root c.1=some r/\E.root c.2.1=some s)(q:∀ρ',(UM E.root a b m).elim (k .next ⟨[(0,.g9 .house),(1,iv a),(2,iv b)],[],hp P g K E⟩) λc=>k (.ret (.a9 (t4 c))) ⟨ρ',[],hp P g K E⟩):
  lp ((A9 P n Cv).b u) (N5 false [3,4,5]) (IC.keep [0,1,2]) k ((m.map t4).map .a9) ⟨[(0,.g9 .house),(1,iv a),(2,iv b)],[],hp P g K E⟩:=by
 induction m with
 |nil=>exact q []
 |cons c m i=>
  obtain⟨r,s,h,f⟩:=hn c (.head _);have e:UM E.root a b (c::m)=(VU E.root a b c).or (UM E.root a b m):=by
   unfold UM;refine rL (List.findSome?_cons) ?_;cases VU _ a b c<;>rfl
  rw [e] at q;unfold VU at q;rw [h,f] at q;haveI i:=i (λc m=>hn c (.tail _ m));refine k9 (Q9 h) ?_;by_cases e1:r=a
  ·refine D9 (N8 e1) (k9 (Q9 f) ?_);by_cases j:s=b
   ·rw [Lh ⟨yh _ e1,yh _ j⟩] at q;exact D9 (N8 j) (q _)
   ·rw [Fh λz=>j (Bh z.2)] at q;refine v9 (E8 j) (WJ h f (λy z'=> ?_) λy=> ?_)
    ·rw [Lh ⟨yh _ y.1,yh _ y.2⟩] at q;exact q _
    ·rw [Fh λz=>y ⟨Bh z.1,Bh z.2⟩] at q;exact k8 (i q) rfl
  ·rw [Fh λz=>e1 (Bh z.1)] at q;refine v9 (E8 e1) (WJ h f (λy z'=> ?_) λy=> ?_)
   ·rw [Lh ⟨yh _ y.1,yh _ y.2⟩] at q;exact q _
   ·rw [Fh λz=>y ⟨Bh z.1,Bh z.2⟩] at q;exact k8 (i q) rfl
theorem Gq(h:E.ls (.Z9,a)=some (ts.map t4))(hn:∀c∈ts,∃r s,E.root c.1=some r/\E.root c.2.1=some s):Mw 1 27 .all [iv a,iv b] E (.a9 (nq (UM E.root a b ts))) E:=λP g K z' hz=>by
 refine enter Rj rt rt (XY h (VI hz) ?_);refine Y9 h (ZY h ⟨G8,?_⟩);refine k8 (sB hn λρ'=> ?_) rfl;cases UM _ a b _ with
 |none=>exact t3 h (VI hz) done
 |some c=>exact t3 h (VI hz) done
def cause(E:G9)(r f v e:Dh)(t:xh o8):Ah o8:=if r=f then none else if v≠0/\e≠0 then some (v,e,0) else UM E.root r f t
theorem l5(m:E.root a=some ra)(j:E.root b=some rb)(f:E.val ra=some va)(i:E.val rb=some vb)(h:E.ls (.Z9,ra)=some (ts.map t4))(hn:∀c∈ts,∃r s,E.root c.1=some r/\E.root c.2.1=some s):Mw 2 5 .all [iv a,iv b] E (.a9 (nq (cause E ra rb va vb ts))) E:=λP g K hB hz=>by
 refine enter c5 rt rt (k9 (Q9 m) (k9 (Q9 j) ?_));unfold cause;by_cases e:ra=rb
 ·exact rL (Lh e) (D9 (N8 e) done)
 ·refine rL (Fh e) ?_;refine v9 (E8 e) (k9 (Q9 f) ?_);by_cases n:va=0
  ·refine rL (Fh λz=>z.1 n) ?_;exact v9 (j6 n) (V8 (Gq h hn P g K hB hz) (by cases UM _ _ _ _<;>rfl) done)
  ·refine D9 (B6 n) (k9 (Q9 i) ?_);by_cases n2:vb=0
   ·refine rL (Fh λz=>z.2 n2) ?_;exact v9 (j6 n2) (V8 (Gq h hn P g K hB hz) (by cases UM _ _ _ _<;>rfl) done)
   ·exact rL (Lh ⟨n,n2⟩) (D9 (B6 n2) (k9 (Q9 f) (k9 (Q9 i) done)))
theorem vR{x:Dh}:up (hp P g K E) .news (.list true ((zs E.news).map .a9++[iv x]))=hp P g K {E with news:=E.news++[x]}:=VN X9
theorem du(h:(E.d8 t).isSome=true):Mz 3 34 .all [iv t] E (.a9 .none) E:=λP g K z' z'=>by
 exact enter Ox rt rt (D9 ((Eg ..).trans h) done)
theorem fu(h:E.d8 t=none)(hs:E.P9 t=some (a,b))(q:E.root a=some r)(v:E.root b=some r)(p:f7 t=true)(m:E.news.length<=1000000)(o:E.trail.length<=1000000):Mz 3 34 .all [iv t] E (.a9 .none) {E with d8:=f9 E.d8 t none,news:=E.news++[t],trail:=E.trail++[.told t]}:=λP g K hB hz=>by
 refine enter Ox rt rt (v9 ((Eg ..).trans (yh _ h)) ?_);refine k9 (yh (Ag _) hs) (p8 (l3 q v P g K hB hz) rt rt (D9 (Rh rfl) ?_));refine⟨p,j9 (SN (x8 (x:=none))) ?_⟩;exact⟨D7 m,j9 (vR) (⟨b9 (b9 o),j9 (y8 (.told t) rfl) E9⟩)⟩
theorem eu(h:E.d8 t=none)(hs:E.P9 t=some (a,b))(f:E.root a=some ra)(e:E.root b=some rb)(hn:ra≠rb)(M:Mw 2 5 .all [iv a,iv b] E (.a9 .none) E):Mw 3 34 .all [iv t] E (.a9 .none) E:=λP g K hB hz=>by
 refine enter Ox rt rt (v9 ((Eg ..).trans (yh _ h)) ?_);exact k9 (yh (Ag _) hs) (p8 (l3 f e P g K hB λz' z' q=>Bool.noConfusion q) rt rt (v9 (Xh hn) (V8 (M P g K hB hz) rt done)))
theorem gu(h:E.d8 t=none)(hs:E.P9 t=some (a,b))(p:E.root a=some ra)(v:E.root b=some rb)(hn:ra≠rb)(M:Mw 2 5 .all [iv a,iv b] E (.a9 (t4 c)) E)(o:f7 t=true)(j:E.news.length<=1000000)(m:E.trail.length<=1000000):Mw 3 34 .all [iv t] E (.a9 .none) {E with d8:=f9 E.d8 t (some c),news:=E.news++[t],trail:=E.trail++[.told t]}:=λP g K hB hz=>by
 refine enter Ox rt rt (v9 ((Eg ..).trans (yh _ h)) ?_);refine k9 (yh (Ag _) hs) (p8 (l3 p v P g K hB λz' z' q=>Bool.noConfusion q) rt rt (v9 (Xh hn) ?_));refine V8 (M P g K hB hz) rt (⟨o,j9 (SN (x8 (x:=some c))) ?_⟩);exact⟨D7 j,j9 (vR) (⟨b9 (b9 m),j9 (y8 (.told t) rfl) E9⟩)⟩
inductive U0{α:Type}(S:α->G9->G9->Prop):xh α->G9->G9->Prop
 |nil {E:G9}:U0 S [] E E
 |cons {E E1 E2:G9} {t:α} {l:xh α}:S t E E1->U0 S l E1 E2->U0 S (t::l) E E2
theorem sH{l:xh Dh}(h:U0 (λt E E'=>Mw 3 34 .all [iv t] E (.a9 .none) E') l E E')(hB:BK K)(hz:∀κ t,wa κ=false->g.z κ t=false):∀{k},k .next ⟨[(0,.g9 .house),(1,iv a)],[],hp P g K E'⟩->
  lp ((A9 P 3 (.ex (.met (.var 0) 34 (.cons (.var 2) (.nil))) (.nil))).b (.all,[.ls .C9 a])) (N5 true [2]) (IC.keep [0,1]) k ((zs l).map .a9) ⟨[(0,.g9 .house),(1,iv a)],[],hp P g K E⟩:=by
 induction h with
 |nil=>exactλe=>e
 |cons h _ i=>exactλe=>V8 (h P g K hB hz) rt (k8 (i e) rfl)
theorem Fq{l:xh Dh}(h:E.ls (.C9,a)=some (zs l))(c:U0 (λt E E'=>Mw 3 34 .all [iv t] E (.a9 .none) E') l E E')(h':E'.ls (.C9,a)=some (zs l)):Me 4 33 .all [iv a] E (.a9 .none) E':=λP g K hB hz=>by
 refine enter Nj rt rt ?_;haveI z:g.z .C9 a=false:=hz _ _ rfl;refine XY h z (Y9 h (ZY h ⟨G8,?_⟩));refine k8 (sH c hB (λκ t q=>(Fh λe=> ?_).trans (hz _ t rfl)) ?_) rfl
 ·cases e;exact Bool.noConfusion q
 ·exact t3 h' z E9
end
section
variable{P:w8}{n:Mh}{g:q9}{K:O8}{E:G9}{x d r a b c p q y6 y7:Dh}{k:KB}{fo sn:xh Dh}{wk:xh (Dh×Dh)}
def tY:AV:= .a9 (.bool true)
def SM(S:xh Dh):Dh->Ah AV:=λx=>if x∈S then some tY else none
def dy(S:xh Dh):xh (Dh×AV):=S.map λm=>(m,tY)
theorem qX:f9 (SM sn) c tY=SM (sn++[c]):=funext λx=>by
 unfold f9 SM;by_cases e:x=c
 ·exact rL (Lh e) (rL (Lh (e▸fg _ (.head _))) rfl)
 ·rw [Fh e];by_cases q:x∈sn
  ·exact rL (Lh q) (rL (Lh (Zh _ q)) rfl)
  ·exact rL (Fh q) (rL (Fh λm=>(List.mem_append.mp m).elim q λm=>e (List.mem_singleton.mp m)) rfl)
theorem rS:(SM sn c).isSome=decide (c∈sn):=by
 unfold SM;by_cases q:c∈sn
 ·refine rL (Lh q) (rL (Rh q) ?_);rfl
 ·refine rL (Fh q) (rL (Xh q) ?_);rfl
def aL(f:xh Dh)(m:Dh):xh Dh:=if m∈f then f else f++[m]
theorem OF:R6 (dy fo) c tY=dy (aL fo c):=by
 unfold R6 dy aL;by_cases q:c∈fo
 ·refine rL (Lh (List.any_eq_true.mpr ⟨(c,tY),List.mem_map.mpr ⟨c,q,rfl⟩,Rh rfl⟩)) ?_;rw [Lh q,jg];exact ze λx z'=>by
   show(if(x,tY).1=c then _ else _)=_;split
   ·rfl
   ·rfl
 ·exact rL (Fh λh=>q (by
   obtain⟨y,m,e⟩:=List.any_eq_true.mp h;obtain⟨z,f,rfl⟩:=List.mem_map.mp m;exact(Hh e)▸f)) (rL (Fh q) (rL bg rfl))
def oR(wk:xh (Dh×Dh))(sn fo:xh Dh):xh (Mh×d9):=[(0,.list true ((wk.map qY).map .a9)),(1,.p9 true (SM sn)),(2,.M9 true (dy fo))]
def ZF(a b y6 y7:Dh):xh (Mh×AV):=[(0,.g9 .house),(1,iv a),(2,iv b),(3,.g9 (.W8 0)),(4,.g9 (.W8 1)),(5,.g9 (.W8 2)),(6,iv y6),(7,iv y7)]
def EO:M:=jI (jE .notin J8 J4) (jY (jK (.bool true)) J4 J8 (.g6 [9,10] (jS (Ya 7) J8) (jI (jE .eq QR (jJ 1)) (jX (jL J3 .extend (Y1 (.zip (jM (Ya 0) 57 (Y1 J8)) (jM (Ya 0) 57 (Y1 J9))))) jN) (jI (jE .ne QR (Yi 0)) (jY (jK (.bool true)) J5 QR jN) jN jN) jN))) jN jN
theorem ej(h:c∈sn)(e:∀ρ',IC.keep [0,1,2,3,4,5,6,7] ⟨ρ',oR wk sn fo,hp P g K E⟩=⟨ZF a b y6 y7,oR wk sn fo,hp P g K E⟩->k .next ⟨ρ',oR wk sn fo,hp P g K E⟩):(A9 P n EO).b (.all,[]) ⟨ZF a b y6 y7++[(8,iv c)],oR wk sn fo,hp P g K E⟩ k:=v9 (yh _ (rS.trans (Rh h))) (e _ rfl)
theorem iF:(lay (.int x)&&lay (.str (S "arguments")))=true:=by
 haveI h:lay (.str (S "arguments"))=true:=by kernel_rfl
 exact(gg _ _).mpr ⟨rfl,h⟩
theorem cE:Y0 (.int x) (.str (S "arguments"))=false:=by
 show yf _ (.str (S "arguments"))=false;rfl
theorem gF:(lay (.str (S "arguments"))&&lay (.str (S "arguments")))=true:=by kernel_rfl
theorem bE:Y0 (.str (S "arguments")) (.str (S "arguments"))=true:=by kernel_rfl
theorem dj(h:c∉sn)(l:f7 c=true)(j:E.up c=some (d,.mk r))(hl:fo.length<=1000)
  (i:∀ρ',IC.keep [0,1,2,3,4,5,6,7] ⟨ρ',oR wk (sn++[c]) (if r=0 then fo else aL fo r),hp P g K E⟩=⟨ZF a b y6 y7,oR wk (sn++[c]) (if r=0 then fo else aL fo r),hp P g K E⟩->k .next ⟨ρ',oR wk (sn++[c]) (if r=0 then fo else aL fo r),hp P g K E⟩):(A9 P n EO).b (.all,[]) ⟨ZF a b y6 y7++[(8,iv c)],oR wk sn fo,hp P g K E⟩ k:=by
 refine D9 (yh _ (rS.trans (Xh h))) (⟨l,?_⟩);refine k9 (yh (Ag _) j) (L8 iF (v9 cE ?_));by_cases e:r=0
 ·refine v9 (j6 e) ?_;rw [Lh e] at i;exact(yh (λf=>k .next ⟨_,[(0,_),(1,d9.p9 _ f),(2,_)],_⟩) qX).mpr (i _ rfl)
 ·refine D9 (B6 e) ?_;rw [Fh e] at i;exact⟨vh (Ph (Eh _)) (vh hl (by decide)),((congr (yh (λf z=>k .next ⟨_,[(0,_),(1,d9.p9 true f),(2,d9.M9 true z)],_⟩) qX) OF).mpr (i _ rfl))⟩
theorem cj(hB:BK K)(h:c∉sn)(j:f7 c=true)(e:E.up c=some (d,.args))(T:Ap c p)(i:Ap d q)(hl:wk.length<=10000)
  (l:∀ρ',IC.keep [0,1,2,3,4,5,6,7] ⟨ρ',oR (wk++[(p,q)]) (sn++[c]) fo,hp P g K E⟩=⟨ZF a b y6 y7,oR (wk++[(p,q)]) (sn++[c]) fo,hp P g K E⟩->k .next ⟨ρ',oR (wk++[(p,q)]) (sn++[c]) fo,hp P g K E⟩):(A9 P 1 EO).b (.all,[]) ⟨ZF a b y6 y7++[(8,iv c)],oR wk sn fo,hp P g K E⟩ k:=by
 refine D9 (yh _ (rS.trans (Xh h))) (⟨j,?_⟩);refine k9 (yh (Ag _) e) (L8 gF (D9 bE ?_));refine V8 (Sy (hB.a _ _ T) hB.l.2.1 f5) rt (V8 (Sy (hB.a _ _ i) hB.l.2.1 f5) rt ?_);refine⟨Nat.succ_le_of_lt (eg (b9 (b9 hl)) (by decide)),?_⟩;haveI z:(wk.map _).map AV.a9++[.a9 _]=((wk++[(p,q)]).map qY).map .a9:=s7;exact(congr (yh (λf z=>k .next ⟨_,[(0,d9.list _ z),(1,d9.p9 _ f),(2,_)],_⟩) qX) z).mpr (l _ rfl)
end
section
variable{P:w8}{n:Mh}{g:q9}{K:O8}{E E1:G9}{t x v r s:Dh}{κ:LK}{l:xh Jh}{d:Jh}{as us:xh Dh}{o:Str}
theorem k4(hz:g.z κ t=false){w:xh AV}(h:w=l.map .a9):up (up (hp P g K E) (.ls κ t) (.list true w)) (.w7 κ) (.p9 true (f9 (λs=>(E.ls (κ,s)).map λz'=> .g9 (.ls κ s)) t (.g9 (.ls κ t))))=hp P g K {E with ls:=f9 E.ls (κ,t) l}:=h▸B9 (λτ n=>by
 cases τ with
 |ls κ' s=>
  by_cases e:Tg.ls κ' s= .ls κ t
  ·cases e;exact q7.trans ((yh (lT (g.z κ t) (g.ls κ t)) i9).trans (by rw [hz];rfl)).symm
  ·exact(u8 e).trans (yh (lT (g.z κ' s) (g.ls κ' s)) (e9 (TS e)).symm)
 |w7 κ'=>exact(u8 Tg.noConfusion).trans (yh (λf=>some (d9.p9 true f)) (funext λs=>yh (Ag _) (e9 λ(e)=>n (yh (λp:LK×Dh=>Tg.w7 p.1) e)).symm))
 |_=>exact u8 Tg.noConfusion) (yh (λf=>some (d9.p9 true f)) (funext λs=>by
   by_cases e:s=t
   ·rw [e,i9];exact yh (Ag _) i9
   ·rw [e9 e];exact yh (Ag _) (e9 λ(z)=>e (yh (λp:LK×Dh=>p.2) z))))
def Z1(f:LK×Dh->Ah (xh Jh))(t:Dh):LK×Dh->Ah (xh Jh):=f9 (f9 (f9 (f9 f (.mem,t) (zs [t])) (.use,t) []) (.Z9,t) []) (.C9,t) []
abbrev G9.ent(E:G9)(t v:Dh):G9:={E with root:=f9 E.root t t,ls:=Z1 E.ls t,val:=f9 E.val t v}
def YR:xh Jh:=[.str (S "num"),.str (S "bvnum"),.str (S "true"),.str (S "false")]
def Fv:M:= .wY 2 (jZ (jS (Ya 1) J3) [3] true (jM J0 9 (Y1 J1)) jN [0]) (jH false [4] true J2 (jX (jL (jS (Ya 3) J4) .append (Y1 J1)) jN) [0,1,2] (jX (jL (Ya 15) .append (Y1 (jU (Y3 (Ys "enter") J1 J2)))) (jI (jE .gt (jB .len (Y1 J2)) (Yi 0)) (jX (jM J0 13 (Y1 J1)) jN) jN jN)))
theorem NN{w:Kh}{b:Tg->Ah d9}(T:AW K t o as d)(hB:BK K)(hz:∀κ t,false=false->g.z κ t=false)(h:f7 t=true)(e:(lay (.tuple YR)&&lay (.str o))=true)(c:tW YR (.str o)=w)(q:(A9 P 3 Fv).b (.st,[]) ⟨[(0,.g9 .house),(1,iv t)],[],hp P g K (E.ent t (cond w t 0))⟩ (Ri (.a9 .none) b)):e7 P 4 .st 11 [.g9 .house,iv t] (hp P g K E) (.a9 .none) b:=by
 refine enter di rt rt (⟨h,j9 (fW x8) ?_⟩);refine⟨λy z=>(List.mem_singleton.mp z)▸trivial,h,j9 (k4 (l:=zs [t]) (hz _ _ rfl) rfl) ?_⟩;refine⟨x6,h,j9 (k4 (l:=[]) (hz _ _ rfl) rfl) ?_⟩;refine⟨x6,h,j9 (k4 (l:=[]) (hz _ _ rfl) rfl) ?_⟩;refine⟨x6,h,j9 (k4 (l:=[]) (hz _ _ rfl) rfl) ?_⟩;refine p8 (Ty T hB.l.1 f5) rt rt (L8 e ?_);cases w with
 |true=>exact D9 c ⟨h,j9 (LV x8) q⟩
 |false=>exact v9 c ⟨h,j9 (LV x8) q⟩
theorem eF(h:t∈VV):(lay (.tuple YR)&&lay (.str (gH t)))=true:=YT (Q:=λt=>(lay _&&lay (.str _))=true) h (by kernel_rfl) (by kernel_rfl)
theorem SE(h:t∈VV):tW YR (.str (gH t))=true:=YT (Q:=λt=>tW _ (.str _)=true) h (by kernel_rfl) (by kernel_rfl)
theorem RO:(lay (.tuple YR)&&lay (.str (S "app")))=true:=by kernel_rfl
theorem DM:tW YR (.str (S "app"))=false:=by kernel_rfl
theorem zu(h:t∈VV)(hr:f7 t=true)(hl:E.trail.length<=1000000):Me 4 11 .st [iv t] E (.a9 .none) {E.ent t t with trail:=E.trail++[.enter t []]}:=λP g K hB hz=>by
 refine(hB.v t h).elim λd T=>NN T hB hz hr (eF h) (SE h) (p8 (ip h T hB f5 rfl) rt rt ⟨(by decide),?_⟩);exact⟨b9 (b9 hl),j9 (y8 (.enter t []) rfl) ⟨(by decide),E9⟩⟩
theorem Au(h:t∈[3,4,5])(hr:f7 t=true)(hl:E.trail.length<=1000000):Me 4 11 .st [iv t] E (.a9 .none) {E.ent t 0 with trail:=E.trail++[.enter t []]}:=λP g K hB hz=>by
 refine(hB.c t h).elim λd T=>NN T hB hz hr RO DM (p8 (Px T hB f5 rfl) rt rt ⟨(by decide),?_⟩);exact⟨b9 (b9 hl),j9 (y8 (.enter t []) rfl) ⟨(by decide),E9⟩⟩
theorem Bu(a:Ap t x)(hr:f7 t=true)(hx:(E.ent t 0).root x=some r)(hu:(E.ent t 0).ls (.use,r)=some (zs us))(h1:us.length<=1000000)(hl:E.trail.length<=1000000)
  (M:Me 3 13 .st [iv t] {E.ent t 0 with ls:=f9 (Z1 E.ls t) (.use,r) (zs (us++[t])),trail:=E.trail++[.enter t [r]]} (.a9 .none) E1):Me 4 11 .st [iv t] E (.a9 .none) E1:=λP g K hB hz=>by
 have T:=hB.a t x a;refine NN T hB hz hr RO DM (p8 (Px T hB f5 rfl) rt rt ⟨(by decide:1<=1000000),?_⟩);refine k9 (Q9 hx) (Y9 hu (R9 hu (hz _ _ rfl) (R9 hu (hz _ _ rfl) ?_)));refine⟨D7 h1,j9 (M2 (hz _ _ rfl) (by rw [hu];rfl) X9) ?_⟩;refine⟨b9 (b9 hl),j9 (y8 (.enter t [r]) rfl) ?_⟩;exact⟨(by decide:1<=1000000),V8 (M P g K hB hz) rt E9⟩
variable{a b c large small:Dh}{k:KB}{vs:xh AV}
def q9.put(g:q9)(κ:LK)(t:Dh)(o:Ah d9):q9:={g with ls:=λκ' s=>if(κ',s)=(κ,t) then o else g.ls κ' s}
theorem oE:up (hp P g K E) (.w7 κ) (.p9 true (H9 (λs=>(E.ls (κ,s)).map λz'=> .g9 (.ls κ s)) t))=hp P (g.put κ t (hp P g K E (.ls κ t))) K {E with ls:=H9 E.ls (κ,t)}:=B9 (λτ n=>by
 cases τ with
 |ls κ' s=>
  by_cases e:(κ',s)=(κ,t)
  ·cases e;exact((yh (lT _ _) Z8).trans (Lh rfl)).symm
  ·show lT _ _ _=lT (g.z _ s) (if(κ',s)=(κ,t) then _ else g.ls _ s) (H9 E.ls _ _);exact rL (a8 e) (rL (Fh e) rfl)
 |w7 _=>exact yh (λf=>some (d9.p9 _ f)) (funext λs=>yh _ (a8 λ(e)=>n (yh (λp=>Tg.w7 p.1) e)).symm)
 |_=>rfl) (yh (λf=>some (d9.p9 _ f)) (funext λs=>by
   by_cases e:s=t
   ·refine rL e (rL Z8 ?_);exact yh _ Z8
   ·refine rL (a8 e) ?_;exact yh _ (a8 λ(z)=>e (yh (λp=>p.2) z))))
def ZN(f:LK×Dh->Ah (xh Jh))(t:Dh):LK×Dh->Ah (xh Jh):=H9 (H9 (H9 (H9 f (.mem,t)) (.use,t)) (.Z9,t)) (.C9,t)
abbrev Cor.del(E:Cor)(t:Dh):Cor:={E with root:=H9 E.root t,ls:=ZN E.ls t,val:=H9 E.val t}
abbrev G9.gone(E:G9)(t:Dh):G9:={E with toCor:=E.toCor.del t}
theorem pI{d β:Type}{f:Ah d}{h:d->β}(q:f.isSome=true):(f.map h).isSome=true:=(Eg ..).trans q
theorem bX{τ:Tg}{f:Dh->Ah AV}{b b':Tg->Ah d9}{a2:AV}{K':KB}(q:τ.ti=none)(e:b τ=some (.p9 true f))(h:(f t).isSome=true)(z:up b τ (.p9 true (H9 f t))=b')(k:lp ((A9 P n (.del (.var 4) (.var 1) (.nil))).b (.st,[])) (N5 true [4]) (IC.keep [0,1,2]) K' vs ⟨[(0,.g9 .house),(1,iv t),(2,a2)],[],b'⟩):
  lp ((A9 P n (.del (.var 4) (.var 1) (.nil))).b (.st,[])) (N5 true [4]) (IC.keep [0,1,2]) K' (.g9 τ::vs) ⟨[(0,.g9 .house),(1,iv t),(2,a2)],[],b⟩:=by
 refine k9 ((T8 q).trans e) (⟨h,?_⟩);exact(JY q).mpr ⟨_,z,k8 k rfl⟩
def lA:M:= .GV 4 (Y6 (Ya 1) (Ya 2) (Ya 3) (Ya 4) (Ya 5) (Ya 6)) (.del J4 J1 jN) [0,1,2] jN
def q9.pt(P:w8)(K:O8)(κ:LK)(t:Dh)(w:q9×G9):q9×G9:=(w.1.put κ t (hp P w.1 K w.2 (.ls κ t)),{w.2 with ls:=H9 w.2.ls (κ,t)})
def q9.o2(P:w8)(K:O8)(t:Dh)(g:q9)(E:G9):q9×G9:=q9.pt P K .use t (q9.pt P K .mem t (g,{E with root:=H9 E.root t}))
def q9.o3(P:w8)(K:O8)(t:Dh)(g:q9)(E:G9):q9×G9:=((g.o2 P K t E).1,{(g.o2 P K t E).2 with val:=H9 E.val t})
def q9.out(P:w8)(K:O8)(t:Dh)(g:q9)(E:G9):q9:=(q9.pt P K .C9 t (q9.pt P K .Z9 t (g.o3 P K t E))).1
structure JM(g g':q9):Prop where
 r:g'.r=g.r
 b:g'.b=g.b
 z:g'.z=g.z
theorem JM.trans{g h k:q9}(a:JM g h)(b:JM h k):JM g k:=⟨b.r.trans a.r,b.b.trans a.b,b.z.trans a.z⟩
theorem sX{w:q9×G9}:JM w.1 (q9.pt P K κ t w).1:=⟨rfl,rfl,rfl⟩
theorem vS:JM g (g.out P K t E):=(((sX).trans (sX)).trans (sX (w:=g.o3 P K t E))).trans sX
theorem hW{w:q9×G9}:up (hp P w.1 K w.2) (.w7 κ) (.p9 true (H9 (λs=>(w.2.ls (κ,s)).map λz'=> .g9 (.ls κ s)) t))=hp P (q9.pt P K κ t w).1 K (q9.pt P K κ t w).2:=oE
theorem ED{f:LK×Dh->Ah (xh Jh)}{κ':LK}(e:κ≠κ'):H9 f (κ',t) (κ,t)=f (κ,t):=a8 λz=>e (yh (·.1) z)
theorem GA{a:AV}{K':KB}(z:(E.root t).isSome=true)(h:∀κ,(E.ls (κ,t)).isSome=true)(F:(E.val t).isSome=true)(C:K' .next ⟨[(0,.g9 .house),(1,iv t),(2,a)],[],hp P (g.out P K t E) K (E.gone t)⟩):(A9 P n lA).b (.st,[]) ⟨[(0,.g9 .house),(1,iv t),(2,a)],[],hp P g K E⟩ K':=by
 refine bX rfl rfl (pI z) (fW l6) (bX (P:=P) (n:=n) rfl rfl (pI (h .mem)) (hW (w:=(g,{E with root:=H9 _ t}))) ?_);generalize e1:q9.pt P K .mem t _=w1;haveI D:w1.2={E with root:=H9 E.root t,ls:=H9 E.ls (.mem,t)}:=e1▸rfl;refine bX rfl rfl (pI (D▸(yh _ (ED (κ':= .mem) LK.noConfusion)).trans (h .use))) (hW) ?_;haveI B:q9.pt P K .use t w1=g.o2 P K t E:=e1▸rfl;refine rL B ?_;generalize o:g.o2 P K t E=w2;haveI i:w2.2={E with root:=H9 E.root t,ls:=H9 (H9 E.ls (.mem,t)) (.use,t)}:=o▸rfl;refine bX rfl rfl (pI (i▸F)) (LV l6) ?_;haveI j:g.o3 P K t E=(w2.1,{w2.2 with val:=H9 w2.2.val t}):=by unfold q9.o3;rw [o,i]
 generalize q:(w2.1,{w2.2 with val:=H9 w2.2.val t})=d at j;haveI y:d.2={E with root:=H9 E.root t,val:=H9 E.val t,ls:=H9 (H9 E.ls (.mem,t)) (.use,t)}:=by rw [<-q,i]
 haveI H:hp P w2.1 K {w2.2 with val:=H9 w2.2.val t}=hp P d.1 K d.2:=by rw [<-q]
 refine rL H ?_;refine bX rfl rfl (pI (y▸(yh _ ((ED (κ':= .use) LK.noConfusion).trans (ED (κ':= .mem) LK.noConfusion))).trans (h .Z9))) (hW) ?_;generalize p:q9.pt P K .Z9 t d=w4;have u:w4.2={E with root:=H9 E.root t,val:=H9 E.val t,ls:=H9 (H9 (H9 E.ls (.mem,t)) (.use,t)) (.Z9,t)}:=by
  haveI:w4.2={d.2 with ls:=H9 d.2.ls (.Z9,t)}:=p▸rfl;exact rL this (rL y rfl)
 refine bX rfl rfl (pI (u▸(yh _ ((ED (κ':= .Z9) LK.noConfusion).trans ((ED (κ':= .use) LK.noConfusion).trans (ED (κ':= .mem) LK.noConfusion)))).trans (h .C9))) (hW) ?_;generalize m:q9.pt P K .C9 t w4=w5;have G:w5.2=E.gone t:=by
  haveI:w5.2={w4.2 with ls:=H9 w4.2.ls (.C9,t)}:=m▸rfl;refine rL this (rL u ?_);rfl
 haveI A:w5.1=g.out P K t E:=by unfold q9.out;rw [j,p,m]
 have e:K' .next ⟨[(0,.g9 .house),(1,iv t),(2,a)],[],hp P w5.1 K w5.2⟩:=by refine rL G (rL A ?_);exact C
 exact e
theorem Rv{a:AV}{c:IC}{K':KB}(e:c=⟨[(0,.g9 .house),(1,iv t),(2,a)],[],hp P g K E⟩)(f:(E.root t).isSome=true)(h:∀κ,(E.ls (κ,t)).isSome=true)(d:(E.val t).isSome=true)(i:K' .next ⟨[(0,.g9 .house),(1,iv t),(2,a)],[],hp P (g.out P K t E) K (E.gone t)⟩):zW (kB (A9 P n lA) (.st,[]) K') K' .next c:=e▸GA f h d i
def Mv(n id:Mh)(as:xh AV)(E E':G9):Prop:=∀(P:w8) (g:q9) (K:O8),BK K->(∀κ t,false=false->g.z κ t=false)->∃g',JM g g'/\e7 P n .st id (.g9 .house::as) (hp P g K E) (.a9 .none) (hp P g' K E')
theorem MF{i:Mh}{is k:xh Mh}{one:Kh}{body kk:M}{u:Mo}{c:IC}{K':KB}(e:c.ρ.lookup i=some (.a9 (.list [])))(q:(A9 P n kk).b u (IC.keep k c) K'):(A9 P n (.UZ false is one (.var i) body k kk)).b u c K':=k9 e q
theorem Qv(e:(E.root t).isSome=true)(h:∀κ,(E.ls (κ,t)).isSome=true)(d:(E.val t).isSome=true):Mv 1 40 [iv t,.a9 (.list (zs []))] E (E.gone t):=λP g K z' z'=>
 ⟨g.out P K t E,vS,enter Zq rt rt (MF rfl (GA e h d E9))⟩
theorem Sv(d:E.ls (.use,r)=some (zs (us++[x])))(hl:us.length<=1000000)(e:(E.root t).isSome=true)(h:∀κ,((f9 E.ls (.use,r) (zs us)) (κ,t)).isSome=true)(i:(E.val t).isSome=true):Mv 1 40 [iv t,.a9 (.list (zs [r]))] E (G9.gone {E with ls:=f9 E.ls (.use,r) (zs us)} t):=λP g K z' hz=>
 ⟨g.out P K t {E with ls:=f9 _ _ _},vS,by
  refine enter Zq rt rt (Y9 d (R9 d (hz _ _ rfl) (R9 d (hz _ _ rfl) ?_)));exact⟨(zs _).map .a9,iv x,X9.symm,b9 (b9 hl),j9 (M2 (hz _ _ rfl) (rL d rfl) rfl) (Rv rfl e h i E9)⟩⟩
def V4(l:xh Dh)(x:Dh)(f:Dh->Ah Dh):Dh->Ah Dh:=l.foldl (λf t=>f9 f t x) f
theorem D1{j:Mh}:(l.map AV.a9).take j=(l.take j).map .a9:=List.map_take.symm
theorem HK{τ:Tg}{w:Kh}{j:Mh}:w6 τ (.list w ((l.map AV.a9).take j)):=D1▸λz' m=>(List.mem_map.mp m).elim λz' e=>e.2▸trivial
theorem Pv{d v:AV}{u:Mo}:∀{l},(∀t∈l,f7 t=true)->∀{E k},k .next ⟨[(0,.g9 .house),(1,iv small),(2,iv large),(3,d),(4,v)],[],hp P g K {E with root:=V4 l small E.root}⟩->
  lp ((A9 P n (.M1 (.var 1) (.D6 (.var 0) 1) (.var 5) (.nil))).b u) (N5 true [5]) (IC.keep [0,1,2,3,4]) k ((zs l).map .a9) ⟨[(0,.g9 .house),(1,iv small),(2,iv large),(3,d),(4,v)],[],hp P g K E⟩:=by
 intro l e;induction l with
 |nil=>exactλh=>h
 |cons t l i=>
  intro E k h;exact⟨e t (.head _),j9 (fW x8) (k8 (i (λs q=>e s (.tail _ q)) (E:={E with root:=f9 E.root t small}) h) rfl)⟩
def gM(f:LK×Dh->Ah (xh Jh))(t:Dh)(L:LK->xh Jh)(ln:LK->Mh):LK×Dh->Ah (xh Jh):=f9 (f9 (f9 (f9 f (.mem,t) ((L .mem).take (ln .mem))) (.use,t) ((L .use).take (ln .use))) (.Z9,t) ((L .Z9).take (ln .Z9))) (.C9,t) ((L .C9).take (ln .C9))
theorem DD{f:LK×Dh->Ah (xh Jh)}{κ':LK}(e:κ≠κ'):f9 f (κ',t) l (κ,t)=f (κ,t):=e9 λz=>e (yh (·.1) z)
theorem Nl{L:LK->xh Jh}{ln:LK->Mh}{ms:xh Dh}(hL:∀κ,E.ls (κ,large)=some (L κ))(hl:∀κ,(L κ).length<=1000000)(hg:f7 large=true)(hs:gM E.ls large L ln (.mem,small)=some (zs ms))(rg:∀t∈ms,f7 t=true):
  Me 1 41 .st [iv small,iv large,.a9 (Dx ln),iv v] E (.a9 .none) {E with ls:=gM E.ls large L ln,val:=f9 E.val large v,root:=V4 ms small E.root}:=λP g K hB hz=>by
 refine enter Jj rt rt (Y9 (hL .mem) (R9 (hL .mem) (hz _ _ rfl) (k9 rfl (k9 F7 ⟨b9 (hl _),?_⟩))));refine⟨HK,hg,j9 (k4 (hz _ _ rfl) D1) ?_⟩;have h2:=(DD (κ':= .mem) (l:=(L .mem).take (ln .mem)) LK.noConfusion).trans (hL .use);refine Y9 h2 (R9 h2 (hz _ _ rfl) (k9 rfl (k9 F7 ⟨b9 (hl _),?_⟩)));refine⟨HK,hg,j9 (k4 (hz _ _ rfl) D1) ?_⟩;have h2:=(DD (κ':= .use) (l:=(L .use).take (ln .use)) LK.noConfusion).trans ((DD (κ':= .mem) (l:=(L .mem).take (ln .mem)) LK.noConfusion).trans (hL .Z9));refine Y9 h2 (R9 (E:={E with ls:=_}) h2 (hz _ _ rfl) (k9 rfl (k9 F7 ⟨b9 (hl _),?_⟩)));refine⟨HK,hg,j9 (k4 (hz _ _ rfl) D1) ?_⟩;have h2:=(DD (κ':= .Z9) (l:=(L .Z9).take (ln .Z9)) LK.noConfusion).trans ((DD (κ':= .use) (l:=(L .use).take (ln .use)) LK.noConfusion).trans ((DD (κ':= .mem) (l:=(L .mem).take (ln .mem)) LK.noConfusion).trans (hL .C9)));refine Y9 h2 (R9 (E:={E with ls:=_}) h2 (hz _ _ rfl) (k9 rfl (k9 F7 ⟨b9 (hl _),?_⟩)));refine⟨HK,hg,j9 (k4 (hz _ _ rfl) D1) ?_⟩;refine⟨hg,j9 (LV x8) ?_⟩;refine XY (κ:= .mem) hs (hz _ _ rfl) (Y9 hs (ZY hs ⟨G8,?_⟩));refine k8 (Pv rg ?_) rfl;exact t3 hs (hz _ _ rfl) E9
theorem Dq{ws us:xh Dh}(h1:E.ls (.C9,a)=some (zs (us++[x])))(h2:a≠b->(f9 E.ls (.C9,a) (zs us)) (.C9,b)=some (zs (ws++[s])))(hs:(E.P9 t).isSome=true)(b1:us.length<=1000000)(b2:a≠b->ws.length<=1000000):
  Me 1 42 .st [iv t,iv a,iv b] E (.a9 .none) {E with ls:=if a=b then f9 E.ls (.C9,a) (zs us) else f9 (f9 E.ls (.C9,a) (zs us)) (.C9,b) (zs ws),P9:=H9 E.P9 t}:=λP g K hB hz=>by
 refine enter Ij rt rt (Y9 h1 (R9 h1 (hz _ _ rfl) (R9 h1 (hz _ _ rfl) ?_)));refine⟨(zs us).map .a9,iv x,X9.symm,b9 (b9 b1),j9 (M2 (hz _ _ rfl) (by rw [h1];rfl) rfl) ?_⟩;by_cases e:a=b
 ·rw [Lh e];exact v9 (j6 e) ⟨pI hs,j9 (TN l6) E9⟩
 ·rw [Fh e];have h2:=h2 e;refine D9 (B6 e) (Y9 h2 (R9 h2 (hz _ _ rfl) (R9 h2 (hz _ _ rfl) ?_)));refine⟨(zs ws).map .a9,iv s,X9.symm,b9 (b9 (b2 e)),j9 (M2 (hz _ _ rfl) (yh Option.isSome h2) rfl) ?_⟩;exact⟨pI hs,j9 (TN l6) E9⟩
end
section
variable{P:w8}{n:Mh}{g g':q9}{K:O8}{E E':G9}{t x v r s a b o:Dh}{k:KB}{en hs:xh Dh}{wl:xh o8}{c:o8}{l l2:xh Jh}{d d2:Jh}
def q9.by(g:q9)(en:xh Dh)(wl:xh o8):q9:={g with b:=λk=>if k=0 then Mine.Internal.ls (zs en) else if k=1 then Mine.Internal.ls (wl.map t4) else g.b k}
theorem zy:up (hp P (g.by en wl) K E) (.byr 0) (.list true ((zs en).map .a9++[iv t]))=hp P (g.by (en++[t]) wl) K E:=B9 (λτ h=>by
 cases τ with
 |byr k=>exact(Fh λe=>h (yh _ e)).trans (Fh λe=>h (yh _ e)).symm
 |_=>rfl) (yh (λl=>some _) X9.symm)
theorem yy:up (hp P (g.by en wl) K E) (.byr 1) (.list true ((wl.map t4).map .a9++[.a9 (t4 c)]))=hp P (g.by en (wl++[c])) K E:=B9 (λτ h=>by
 cases τ with
 |byr k=>
  show(if k=0 then _ else if k=1 then _ else _)=(if k=0 then _ else if k=1 then _ else _);exact rL (Fh (λe=>h (yh _ e):¬k=1)) (rL (Fh (λe=>h (yh _ e):¬k=1)) rfl)
 |_=>rfl) (yh (λl=>some _) s7.symm)
theorem Iy(s:JM (g.by en wl) g'):∃h,JM g h/\∀i w,h.by i w=g'.by i w/\h.by en wl=g':=
 ⟨{g' with b:=g.b},⟨s.r,rfl,s.z⟩,λi z'=>⟨by
  haveI:=s.b;exact yh (λf=>({g' with b:=f}:q9)) (funext λk=>by
   refine rL this ?_;show _=(if k=0 then _ else if k=1 then _ else if k=0 then _ else if k=1 then _ else g.b k);by_cases e:k=0
   ·exact rL (Lh e) (rL (Lh e) rfl)
   ·refine rL (Fh e) (rL (Fh e) ?_);by_cases p:k=1
    ·exact rL (Lh p) (rL (Lh p) rfl)
    ·refine rL (Fh p) ?_;rw [Fh p,Fh e,Fh p]),by
  show({g' with b:=(g.by _ _).b})=g';rw [<-s.b]⟩⟩
def MT(x:Ent)(E E':G9)(en:xh Dh)(wl:xh o8):Prop:=∀(P:w8) (g:q9) (K:O8) (en0:xh Dh) (wl0:xh o8),BK K->(∀κ t,false=false->g.z κ t=false)->en0.length<=2000->wl0.length<=2000->∃g',JM g g'/\e7 P 2 .st 39 [.g9 .house,.a9 (BY x),.g9 (.byr 0),.g9 (.byr 1)] (hp P (g.by en0 wl0) K E) (.a9 .none) (hp P (g'.by (en0++en) (wl0++wl)) K E')
variable{u:Mo}{c0:IC}{m m' kk:M}{s1 s2:Str}{K':KB}{ds:xh Jh}{Q:KE}
theorem M8(h:c0.ρ.lookup 4=some (.a9 (.str s1)))(l:(lay (.str s1)&&lay (.str s2))=true)(e:Y0 (.str s1) (.str s2)=false)(q:(A9 P n m').b u c0 (zW (kB (A9 P n kk) u K') K')):(A9 P n (.ifs (.cmp .eq (.var 4) (.con (.str s2))) m m' kk)).b u c0 K':=
 k9 h (L8 l (v9 e q))
theorem QZ(h:c0.ρ.lookup 4=some (.a9 (.str s1)))(l:(lay (.str s1)&&lay (.str s2))=true)(e:Y0 (.str s1) (.str s2)=true)(q:(A9 P n m).b u c0 (zW (kB (A9 P n kk) u K') K')):(A9 P n (.ifs (.cmp .eq (.var 4) (.con (.str s2))) m m' kk)).b u c0 K':=
 k9 h (L8 l (D9 e q))
theorem S3{i:Mh}(q:(A9 P n m).e u c0 λa c1=>(A9 P n kk).b u (c1.set i a) K'):(A9 P n (.set i m kk)).b u c0 K':=q
theorem Hi{d:Jh}(h:c0.ρ.lookup 1=some (.a9 (.tuple (d::ds))))(q:Q (.a9 d) c0):(A9 P n (.sub (.var 1) (.con (.int 0)))).e u c0 Q:=k9 h q
theorem nv{e β:Type}{Q:xh e->xh β->Prop}{a:xh e}{b:xh β}(q:Q a b):Q (a++[]) (b++[]):=by rw [Th,Th];exact q
theorem z1{x:Ent}(h:∀(P:w8) (g:q9) (K:O8),BK K->(∀κ t,false=false->g.z κ t=false)->∀en wl,e7 P 2 .st 39 [.g9 .house,.a9 (BY x),.g9 (.byr 0),.g9 (.byr 1)] (hp P (g.by en wl) K E) (.a9 .none) (hp P (g.by en wl) K E')):MT x E E' [] []:=λP g K en0 wl0 hB hz z' z'=>⟨g,⟨rfl,rfl,rfl⟩,nv (Q:=λa b=>e7 P 2 .st 39 _ _ _ (hp P (g.by a b) K E')) (h P g K hB hz en0 wl0)⟩
theorem IA(h:Mv 1 40 [iv t,.a9 (.list (zs hs))] E E'):MT (.enter t hs) E E' [t] []:=λP g K en0 wl0 hB hz hl z'=>by
 refine(h P (g.by en0 wl0) K hB hz).elim λe h=>(Iy h.1).imp λi q=>⟨q.1,?_⟩;rw [Th,(q.2 _ _).1];haveI f:=h.2;rw [((q.2 en0 wl0).2.symm.trans (q.2 en0 wl0).1)] at f;refine enter EI rt rt (S3 (Hi rfl ?_));exact QZ rfl (by kernel_rfl) (by kernel_rfl) (V8 f rt (⟨b9 (b9 (vh hl (by decide))),j9 zy E9⟩))
theorem Vv(h:(E.tab [a,b]).isSome=true):MT (.table [a,b] none) E {E with tab:=H9 E.tab [a,b]} [] []:=z1 λP g K z' z' z' z'=>by
 refine enter EI rt rt (S3 (Hi rfl ?_));exact M8 rfl (by kernel_rfl) (by kernel_rfl) (QZ rfl (by kernel_rfl) (by kernel_rfl) (⟨(Eg ..).trans h,j9 (sR lS) E9⟩))
theorem Uv(e:f7 a=true)(h:f7 b=true):MT (.table [a,b] (some o)) E {E with tab:=f9 E.tab [a,b] o} [] []:=z1 λP g K z' z' z' z'=>by
 refine enter EI rt rt (S3 (Hi rfl ?_));exact M8 rfl (by kernel_rfl) (by kernel_rfl) (QZ rfl (by kernel_rfl) (by kernel_rfl) (⟨PJ e h,j9 (sR kS) E9⟩))
theorem Wv{small large:Dh}{ln:LK->Mh}(h:Me 1 41 .st [iv small,iv large,.a9 (Dx ln),iv v] E (.a9 .none) E'):MT (.join small large ln v) E E' [] []:=z1 λP g K hB hz e w=>by
 refine enter EI rt rt (S3 (Hi rfl ?_));exact M8 rfl (by kernel_rfl) (by kernel_rfl) (M8 rfl (by kernel_rfl) (by kernel_rfl) (QZ rfl (by kernel_rfl) (by kernel_rfl) (V8 (h P (g.by e w) K hB hz) rt E9)))
theorem Xv{left t:Dh}{a j i:AV}{k:KB}{b:Tg->Ah d9}(hs:(E.up left).isSome=true)(h:e7 P 1 .st 23 [.g9 .house,iv t] (hp P g K {E with up:=H9 E.up left}) (iv r) b)(q:(bF (.st,[]) .st&&([(0,.g9 .house),(1,.a9 (BY (.edge left t))),(2,a),(3,j),(4,i)].all λp=>VO .st p.2)&&sF (iv r))=true)(A:k .next ⟨[(0,.g9 .house),(1,.a9 (BY (.edge left t))),(2,a),(3,j),(4,i)],[],b⟩):
  (A9 P 1 (.del (.D6 (.var 0) 7) (.sub (.var 1) (.con (.int 1))) (.ex (.met (.var 0) 23 (.cons (.sub (.var 1) (.con (.int 2))) (.nil))) (.nil)))).b (.st,[]) ⟨[(0,.g9 .house),(1,.a9 (BY (.edge left t))),(2,a),(3,j),(4,i)],[],hp P g K E⟩ k:=by
 exact⟨(Eg ..).trans hs,j9 (WK l6) (V8 h q A)⟩
theorem Yv{left t:Dh}(hs:(E.up left).isSome=true)(h:Mz 1 23 .st [iv t] {E with up:=H9 E.up left} (iv r) E'):MT (.edge left t) E E' [] []:=z1 λP g K hB z' e w=>by
 refine enter EI rt rt (S3 (Hi rfl ?_));refine M8 rfl (by kernel_rfl) (by kernel_rfl) (M8 rfl (by kernel_rfl) (by kernel_rfl) ?_);exact M8 rfl (by kernel_rfl) (by kernel_rfl) (QZ rfl (by kernel_rfl) (by kernel_rfl) (Xv hs (h P (g.by e w) K hB λz' z' q=>Bool.noConfusion q) rt E9))
theorem Zv(h:E.ls (.Z9,a)=some (l++[d]))(e:f9 E.ls (.Z9,a) l (.Z9,b)=some (l2++[d2]))(b1:l.length<=1000000)(b2:l2.length<=1000000):MT (.apart a b) E {E with ls:=f9 (f9 E.ls (.Z9,a) l) (.Z9,b) l2} [] []:=z1 λP g K z' hz i w=>by
 refine enter EI rt rt (S3 (Hi rfl ?_));refine M8 rfl (by kernel_rfl) (by kernel_rfl) (M8 rfl (by kernel_rfl) (by kernel_rfl) ?_);refine M8 rfl (by kernel_rfl) (by kernel_rfl) (M8 rfl (by kernel_rfl) (by kernel_rfl) ?_);refine QZ rfl (by kernel_rfl) (by kernel_rfl) ?_;haveI e1:∀{l d},(l++[d]).map AV.a9=l.map .a9++[.a9 d]:=λ{l d}=>bg ..;refine Y9 h (R9 h (hz _ _ rfl) (R9 h (hz _ _ rfl) ?_));refine⟨l.map .a9,.a9 d,e1,b9 b1,j9 (M2 (g:=g.by _ _) (hz _ _ rfl) (yh _ h) rfl) ?_⟩;refine Y9 e (R9 e (hz _ _ rfl) (R9 e (hz _ _ rfl) ?_));exact⟨l2.map .a9,.a9 _,e1,b9 b2,j9 (M2 (g:=g.by _ _) (hz _ _ rfl) (yh _ e) rfl) E9⟩
theorem HA(hs:E.P9 t=some (r,s))(h:Me 1 42 .st [iv t,iv a,iv b] E (.a9 .none) E'):MT (.watch t a b) E E' [] [(t,r,s)]:=λP g K en0 z' hB hz z' hl=>⟨g,⟨rfl,rfl,rfl⟩,by
 rw [Th];refine enter EI rt rt (S3 (Hi rfl ?_));refine M8 rfl (by kernel_rfl) (by kernel_rfl) (M8 rfl (by kernel_rfl) (by kernel_rfl) ?_);refine M8 rfl (by kernel_rfl) (by kernel_rfl) (M8 rfl (by kernel_rfl) (by kernel_rfl) ?_);refine M8 rfl (by kernel_rfl) (by kernel_rfl) (QZ rfl (by kernel_rfl) (by kernel_rfl) ?_);refine k9 (yh (Ag _) hs) (⟨b9 (b9 (vh hl (by decide))),j9 (yy (c:=(t,r,s))) ?_⟩);exact V8 (h P (g.by _ _) K hB hz) rt E9⟩
theorem Tv(h:(E.d8 t).isSome=true):MT (.told t) E {E with d8:=H9 E.d8 t} [] []:=z1 λP g K z' z' z' z'=>by
 refine enter EI rt rt (S3 (Hi rfl ?_));refine M8 rfl (by kernel_rfl) (by kernel_rfl) (M8 rfl (by kernel_rfl) (by kernel_rfl) ?_);refine M8 rfl (by kernel_rfl) (by kernel_rfl) (M8 rfl (by kernel_rfl) (by kernel_rfl) ?_);refine M8 rfl (by kernel_rfl) (by kernel_rfl) (M8 rfl (by kernel_rfl) (by kernel_rfl) ?_);exact⟨(Eg ..).trans h,j9 (SN l6) E9⟩
variable{E1 E2 Ea Eb Ec:G9}{r1 r2 t0:Dh}{w:F5}{spot:Mh}{st:xh Dh}
theorem UN{l:xh Dh}:up (up (hp P g K E) .marks (.list true ((zs l).map .a9))) .house (.inst P.C (A5 E.clash E.g0))=hp P g K {E with marks:=l}:=
 (yh (λb=>up b .house _) (wR rfl)).trans (H4 rfl)
theorem NV:up (up (hp P g K E) .queue (.list true [])) .house (.inst P.C (A5 E.clash E.g0))=hp P g K {E with queue:=[]}:=
 (yh (λb=>up b .house _) (tR (l:=[]) rfl)).trans (H4 rfl)
theorem uR{l:xh Dh}:up (up (hp P g K E) .news (.list true ((zs l).map .a9))) .house (.inst P.C (A5 E.clash E.g0))=hp P g K {E with news:=l}:=
 (yh (λb=>up b .house _) (VN rfl)).trans (H4 rfl)
inductive RI:Mh->G9->G9->Prop
 |stop {spot:Mh} {E:G9}:E.queue.length<=1000000->E.queue.length<=spot\/E.clash.isSome=true->RI spot E E
 |same {spot:Mh} {E E1:G9} {a b r:Dh} {w:F5}:E.queue.length<=1000000->E.clash=none->E.queue[spot]? =some (a,b,w)->E.root a=some r->E.root b=some r->RI (spot+1) E E1->RI spot E E1
 |join {spot:Mh} {E E1 E2:G9} {a b r1 r2:Dh} {w:F5}:E.queue.length<=1000000->E.clash=none->E.queue[spot]? =some (a,b,w)->E.root a=some r1->E.root b=some r2->r1≠r2->Me 5 16 .st [iv a,iv b,.a9 (rZ w)] E (.a9 .none) E1->RI (spot+1) E1 E2->RI spot E E2
theorem WX{c:Ah (xh Dh)}:isNone (Hy c)=c.isNone:=by cases c<;>rfl
theorem bN{q:Dh×Dh×F5}{l:xh (Dh×Dh×F5)}(h:l[spot]? =some q):H8 spot ((l.map qD).map AV.a9)=some (.a9 (qD q)):=by
 show((l.map _).map _)[spot]? =_;refine rL (kg) ?_;rw [kg,h];rfl
theorem ZG{l:xh (Dh×Dh×F5)}:(((l.map qD).map AV.a9).length:Dh)=l.length:=yh _ ((Eh _).trans (Eh _))
theorem vA{q:Dh×Dh×F5}{l:xh (Dh×Dh×F5)}(h:l[spot]? =some q):decide (spot<(((l.map qD).map AV.a9).length:Dh))=true:=Rh (by
 refine rL ZG ?_;exact Int.ofNat_lt.mpr (List.getElem?_eq_some_iff.mp h).1)
theorem Gy(h:RI spot E E1):∃N,∀{P g K k},BK K->(∀κ t,false=false->g.z κ t=false)->(∀x,k .next ⟨[(0,.g9 .house),(1,iv x)],[],hp P g K E1⟩)->
  wh ((A9 P 5 (.and (.cmp .lt (.var 1) (.blt .len (.cons (.D6 (.var 0) 12) (.nil)))) (.cmp .isv (.D6 (.var 0) 13) (.con .none)))).t (.st,[])) ((A9 P 5 (.g6 [2,3,4] (.sub (.D6 (.var 0) 12) (.var 1)) (.set 1 (.bin .add (.var 1) (.con (.int 1))) (.ifs (.cmp .ne (.sub (.D6 (.var 0) 1) (.var 2)) (.sub (.D6 (.var 0) 1) (.var 3))) (.ex (.met (.var 0) 16 (.cons (.var 2) (.cons (.var 3) (.cons (.var 4) (.nil))))) (.nil)) (.nil) (.nil))))).b (.st,[])) (IC.keep [0,1]) k N ⟨[(0,.g9 .house),(1,iv spot)],[],hp P g K E⟩:=by
 induction h with
 | @stop spot E hl h=>
  refine⟨1,λ{P g K k} hB hz d=>⟨b9 (b9 hl),?_⟩⟩;by_cases e:E.queue.length<=spot
  ·exact v9 (Xh (rL ZG (Int.not_lt.mpr (Int.ofNat_le.mpr e)))) (d _)
  ·exact D9 (Rh (rL ZG (Int.ofNat_lt.mpr (Xc e)))) (v9 (WX.trans ((h.elim (λq=>(e q).elim) λq=>by cases c:E.clash with|none=>rw [c] at q;exact Bool.noConfusion q|some l=>rfl))) (d _))
 | @same _ E E1 a b r w hl m f j o _ i=>
  refine i.elim λN i=>⟨N+1,λ{P g K k} hB hz d=>⟨b9 (b9 hl),D9 (vA f) (D9 (WX.trans (yh _ m)) ?_)⟩⟩;refine k9 (bN f) ⟨b9 (b9 hl),?_⟩;exact k9 (Q9 j) (k9 (Q9 o) (v9 (j6 rfl) (T5 (i hB hz d) rfl)))
 | @join spot E E1 z a b A y w hl m f j o hn M _ i=>
  refine i.elim λN i=>⟨N+1,λ{P g K k} hB hz d=>⟨b9 (b9 hl),D9 (vA f) (D9 (WX.trans (yh _ m)) ?_)⟩⟩;refine k9 (bN f) ⟨b9 (b9 hl),?_⟩;refine k9 (Q9 j) (k9 (Q9 o) ?_);refine D9 (B6 hn) (V8 (M P g K hB hz) ?_ ?_)
  ·cases w<;>rfl
  exact T5 (i hB hz d) rfl
theorem Yl(h:RI 0 E E1):Me 6 15 .st [] E (.a9 .none) {E1 with queue:=[]}:=λP g K hB hz=>by
 exact enter ai rt rt ((Gy h).imp λN h=>h hB hz λs=>(⟨x6 (w:=true),j9 NV E9⟩))
inductive Add:xh Dh->G9->G9->Prop
 |nil {E:G9}:Add [] E E
 |known {E E1:G9} {st:xh Dh} {t:Dh}:(st++[t]).length<=1000000->(E.root t).isSome=true->Add st E E1->Add (st++[t]) E E1
 |new {E E1 E2:G9} {st as:xh Dh} {t:Dh}:(st++[t]).length<=1000000->(E.root t).isSome=false->Mz 2 9 .all [iv t] E (.a9 (.tuple (zs as))) E->as=[]\/(∃x,as=[x]/\(E.root x).isSome=true)->Me 4 11 .st [iv t] E (.a9 .none) E1->Add st E1 E2->Add (st++[t]) E E2
 |more {E E1:G9} {st:xh Dh} {t x:Dh}:(st++[t]).length+1<=1000000->(E.root t).isSome=false->Mz 2 9 .all [iv t] E (.a9 (.tuple (zs [x]))) E->(E.root x).isSome=false->Add (st++[t]++[x]) E E1->Add (st++[t]) E E1
theorem VX{l:xh AV}{a:AV}:H8 (-1) (l++[a])=some a:=by
 unfold H8;refine rL (Fh (by decide)) (rL Ch ?_);show(l++[a])[l.length]? =_;refine rL (Yg (Oh _)) ?_;rw [pd];rfl
theorem vV{v:Kh}(h:(E.root t).isSome=v):(!((E.root t).map iv).isSome)= !v:=yh _ ((Eg ..).trans h)
abbrev pp(t0:Dh)(s:xh AV)(b:Tg->Ah d9):IC:=⟨[(0,.g9 .house),(1,iv t0),(2,.g9 (.W8 0))],[(0,.list true s)],b⟩
theorem Xi{l:xh AV}{a:AV}:decide ((0:Dh)<(l++[a]).length)=true:=Rh (rL Ch (Int.ofNat_lt.mpr (Lf _)))
theorem Bi{c:Type}{l m:xh c}{k:Mh}(h:(l++m).length<=k):l.length<=k:=vh (vh (Qh _ _) (Ph List.length_append.symm)) h
theorem Xy(h:Add st E E1):∃N,∀{P:w8} {g:q9} {K:O8} {k:KB},BK K->(∀κ t,false=false->g.z κ t=false)->k .next (pp t0 [] (hp P g K E1))->
  wh ((A9 P 6 (.cmp .gt (.blt .len (.cons (.var 2) (.nil))) (.con (.int 0)))).t (.st,[])) ((A9 P 6 (.set 3 (.sub (.var 2) (.neg (.con (.int 1)))) (.set 4 (.lst (.nil)) (.ifs (.cmp .notin (.var 3) (.D6 (.var 0) 1)) (.wY 4 (.comp (.var 5) [5] true (.met (.var 0) 9 (.cons (.var 3) (.nil))) (.cmp .notin (.var 5) (.D6 (.var 0) 1)) [0]) (.nil)) (.nil) (.ifs (.cmp .gt (.blt .len (.cons (.var 4) (.nil))) (.con (.int 0))) (.ex (.lm (.var 2) .extend (.cons (.var 4) (.nil))) (.nil)) (.ex (.lm (.var 2) .pop (.nil)) (.ifs (.cmp .notin (.var 3) (.D6 (.var 0) 1)) (.ex (.met (.var 0) 11 (.cons (.var 3) (.nil))) (.nil)) (.nil) (.nil))) (.nil)))))).b (.st,[])) (IC.keep [0,1,2]) k N (pp t0 ((zs st).map .a9) (hp P g K E)):=by
 induction h with
 |nil=>exact⟨1,λ{P g K k} z' z' c=>⟨ng _,c⟩⟩
 | @known E E1 s t b h _ i=>
  refine i.elim λN i=>⟨N+1,λ{P g K k} hB hz c=> ?_⟩;refine rR X9 ?_;have b':((zs s).map AV.a9++[iv t]).length<=1000000:=by refine rL X9 ?_;exact D7 b
  refine⟨b',D9 Xi ?_⟩;refine k9 VX ⟨b',?_⟩;refine v9 (vV h) (⟨ng _,?_⟩);refine⟨(zs s).map AV.a9,iv t,rfl,D7 (Bi b),?_⟩;exact v9 (vV h) (T5 (i hB hz c) rfl)
 | @new E E1 l s as t b h M q f _ i=>
  refine i.elim λN i=>⟨N+1,λ{P g K k} hB hz c=> ?_⟩;refine rR X9 ?_;haveI b':((zs s).map AV.a9++[iv t]).length<=1000000:=by refine rL X9 ?_;exact D7 b
  refine⟨b',D9 Xi ?_⟩;refine k9 (a:=iv t) VX ⟨b',?_⟩;refine D9 (vV h) (p8 (M P g K hB λz' z' q=>Bool.noConfusion q) rt rt ?_);refine q.elim (λq=> ?_) λq=>q.elim λx q=> ?_
  ·refine rL q ?_;refine⟨ng _,?_⟩;refine⟨ng _,?_⟩;refine⟨(zs s).map AV.a9,iv t,rfl,D7 (Bi b),?_⟩;refine D9 (vV h) (p8 (f P g K hB hz) rt rt ?_);exact T5 (i hB hz c) rfl
  ·refine rL q.1 ?_;refine⟨(by decide:1<=1000000),v9 (vV q.2) ?_⟩;refine⟨ng _,?_⟩;refine⟨(zs s).map AV.a9,iv t,rfl,D7 (Bi b),?_⟩;refine D9 (vV h) ?_;refine p8 (f P g K hB hz) rt rt ?_;exact T5 (i hB hz c) rfl
 | @more E E1 s t x b h M q _ i=>
  refine i.elim λN i=>⟨N+1,λ{P g K k} hB hz c=> ?_⟩;haveI e:(zs (s++[t]++[x])).map AV.a9=(zs s).map AV.a9++[iv t]++[iv x]:=by rw [X9,X9]
  refine rR X9 ?_;haveI b':((zs s).map AV.a9++[iv t]).length+1<=1000000:=by refine rL X9 (rL DY ?_);exact b
  refine⟨cf b',D9 Xi ?_⟩;refine k9 VX ⟨cf b',?_⟩;refine D9 (vV h) (p8 (M P g K hB λz' z' q=>Bool.noConfusion q) rt rt ?_);refine⟨(by decide:1<=1000000),D9 (vV q) ?_⟩;refine⟨(by decide:1<=1000000),?_⟩;refine⟨b',?_⟩;haveI:=i hB hz c;rw [e] at this;exact T5 this rfl
theorem ak(h:Add [t] E E1)(C:Me 6 15 .st [] E1 (.a9 .none) E2):Me 7 10 .st [iv t] E (.a9 .none) E2:=λP g K hB hz=>by
 refine enter ei rt rt (⟨λy z=>(List.mem_singleton.mp z)▸trivial,?_⟩);exact(Xy h).imp λN w=>T5 (w hB hz (V8 (C P g K hB hz) rt E9)) rfl
theorem Zl{m:Dh}(A:Me 7 10 .st [iv a] E (.a9 .none) Ea)(B:Me 7 10 .st [iv b] Ea (.a9 .none) Eb)(hl:Eb.queue.length<=1000000)(C:Me 6 15 .st [] {Eb with queue:=Eb.queue++[(a,b,.mk m)]} (.a9 .none) Ec):Me 8 14 .st [iv a,iv b,.a9 (.int m)] E (.a9 .none) Ec:=λP g K hB hz=>by
 exact enter bi rt rt (V8 (A P g K hB hz) rt (V8 (B P g K hB hz) rt ⟨b9 (b9 hl),j9 (MV (a,b,.mk m) rfl) (p8 (C P g K hB hz) rt rt E9)⟩))
variable{Ed:G9}{l' sm lg va vb:Dh}{us rs ms:xh Dh}{κ κ':LK}{Ll Ls:LK->xh Jh}
abbrev jR(a r:Dh)(d:Jh)(s l:Dh)(us:xh Dh):xh (Mh×AV):=[(0,.g9 .house),(1,iv a),(2,iv r),(3,.a9 d),(4,iv s),(5,iv l),(6,.a9 (.list (zs us)))]
def tA:M:=jT 10 (.ite (jD (jE .ne J8 (Yi 0)) (jE .ne J9 (Yi 0))) (jM J0 25 (Y2 J8 J9)) (jM J0 20 (Y1 J4))) (jI (jE .isv QR (jK .none)) (jX (jM J0 33 (Y1 J5)) jN) (jX (jM J0 17 (Y1 QR)) jN) jN)
def uA(kk:M):M:= .ex (.lm (.sub (.D6 (.var 0) 2) (.var 5)) .extend (.cons (.sub (.D6 (.var 0) 2) (.var 4)) (.nil))) (.ex (.lm (.sub (.D6 (.var 0) 3) (.var 5)) .extend (.cons (.sub (.D6 (.var 0) 3) (.var 4)) (.nil))) (.ex (.lm (.sub (.D6 (.var 0) 5) (.var 5)) .extend (.cons (.sub (.D6 (.var 0) 5) (.var 4)) (.nil))) (.ex (.lm (.sub (.D6 (.var 0) 6) (.var 5)) .extend (.cons (.sub (.D6 (.var 0) 6) (.var 4)) (.nil)))
   (.VW [8,9] (.cons (.sub (.D6 (.var 0) 4) (.var 4)) (.cons (.sub (.D6 (.var 0) 4) (.var 5)) (.nil))) (.ifs (.cmp .eq (.var 9) (.con (.int 0))) (.M1 (.var 8) (.D6 (.var 0) 4) (.var 5) (.nil)) (.nil) kk)))))
def tK:M:=jG [4,5] (Y2 (jS (Ya 1) J1) (jS (Ya 1) J2)) (jX (jM J0 22 (Y3 J1 J2 J3)) (jT 6 (jB .list (Y1 (jS (Ya 3) J4))) (jH false [7] true J6 (jX (jM J0 19 (Y1 J7)) jN) [0,1,2,3,4,5,6] (jX (jL (Ya 15) .append (Y1 (jU (Y5 (Ys "join") J4 J5 (jM J0 18 (Y1 J5)) (jS (Ya 4) J5))))) (jH true [7] true (jS (Ya 2) J4) (jY J5 (Ya 1) J7 jN) [0,1,2,3,4,5,6] (uA (jH false [7] true J6 (jX (jM J0 13 (Y1 J7)) jN) [0,1,2,3,4,5,6,8,9] tA)))))))
theorem Iz{l:xh Dh}(h:U0 (λt E E'=>Mz 3 19 .st [iv t] E (.a9 .none) E') l E E1)(hB:BK K):∀{k},k .next ⟨jR l' r d sm lg us,[],hp P g K E1⟩->
  lp ((A9 P 4 (.ex (.met (.var 0) 19 (.cons (.var 7) (.nil))) (.nil))).b (.st,[])) (N5 true [7]) (IC.keep [0,1,2,3,4,5,6]) k ((zs l).map .a9) ⟨jR l' r d sm lg us,[],hp P g K E⟩:=by
 induction h with
 |nil=>exactλa=>a
 |cons h _ i=>
  intro k a;exact p8 (h P g K hB λz' z' q=>Bool.noConfusion q) rt rt (k8 (i a) rfl)
theorem ss{l:xh Dh}(h:U0 (λt E E'=>Mz 3 13 .st [iv t] E (.a9 .none) E') l E E1)(hB:BK K):∀{k},k .next ⟨jR l' r d sm lg us++[(8,iv va),(9,iv vb)],[],hp P g K E1⟩->
  lp ((A9 P 4 (.ex (.met (.var 0) 13 (.cons (.var 7) (.nil))) (.nil))).b (.st,[])) (N5 true [7]) (IC.keep [0,1,2,3,4,5,6,8,9]) k ((zs l).map .a9) ⟨jR l' r d sm lg us++[(8,iv va),(9,iv vb)],[],hp P g K E⟩:=by
 induction h with
 |nil=>exactλa=>a
 |cons h _ i=>
  intro k a;exact p8 (h P g K hB λz' z' q=>Bool.noConfusion q) rt rt (k8 (i a) rfl)
theorem xF{u:Mo}:∀{l},(∀t∈l,f7 t=true)->∀{E k},k .next ⟨jR l' r d sm lg us,[],hp P g K {E with root:=V4 l lg E.root}⟩->
  lp ((A9 P n (.M1 (.var 5) (.D6 (.var 0) 1) (.var 7) (.nil))).b u) (N5 true [7]) (IC.keep [0,1,2,3,4,5,6]) k ((zs l).map .a9) ⟨jR l' r d sm lg us,[],hp P g K E⟩:=by
 intro l e;induction l with
 |nil=>exactλh=>h
 |cons t l m=>
  intro E k h;exact⟨e t (.head _),j9 (fW x8) (k8 (m (λs q=>e s (.tail _ q)) (E:={E with root:=f9 E.root t lg}) h) rfl)⟩
def JF(l' r:Dh)(d:Jh)(sm lg:Dh)(us:xh Dh)(va vb:Dh)(E E1:G9):Prop:=∀(P:w8) (g:q9) (K:O8),BK K->(∀κ t,false=false->g.z κ t=false)->(A9 P 4 tA).b (.st,[]) ⟨jR l' r d sm lg us++[(8,iv va),(9,iv vb)],[],hp P g K E⟩ (Ri (.a9 .none) (hp P g K E1))
theorem Ds(h8:va≠0)(h9:vb≠0)(M:Mz 2 25 .all [iv va,iv vb] E (.a9 (.list (zs rs))) E)(hm:E.marks.length<=1000000):JF l' r d sm lg us va vb E {E with clash:=some rs,g0:=E.marks.length}:=λP g K hB hz=>by
 refine D9 (B6 h8) (D9 (B6 h9) (p8 (M P g K hB λz' z' q=>Bool.noConfusion q) rt rt ?_));exact p8 (Kx hm P g K hB λz' z' q=>Bool.noConfusion q) rt rt E9
theorem Cs(h:va=0\/vb=0)(M:Mw 3 20 .all [iv sm] E (.a9 .none) E)(T:Me 4 33 .all [iv lg] E (.a9 .none) E1):JF l' r d sm lg us va vb E E1:=λP g K hB hz=>by
 have z:∀κ t,wa κ=false->g.z κ t=false:=λκ t z'=>hz κ t rfl;by_cases h8:va=0
 ·refine v9 (j6 h8) (p8 (M P g K hB z) rt rt ?_);exact V8 (T P g K hB hz) rt E9
 ·refine D9 (B6 h8) (v9 (j6 (h.elim (λe=>(h8 e).elim) id)) (p8 (M P g K hB z) rt rt ?_));exact V8 (T P g K hB hz) rt E9
theorem Bs(h:va=0\/vb=0)(M:Mw 3 20 .all [iv sm] E (.a9 (.list (zs rs))) E)(hm:E.marks.length<=1000000):JF l' r d sm lg us va vb E {E with clash:=some rs,g0:=E.marks.length}:=λP g K hB hz=>by
 have z:∀κ t,wa κ=false->g.z κ t=false:=λκ t z'=>hz κ t rfl;by_cases h8:va=0
 ·refine v9 (j6 h8) (p8 (M P g K hB z) rt rt ?_);exact p8 (Kx hm P g K hB λz' z' q=>Bool.noConfusion q) rt rt E9
 ·refine D9 (B6 h8) (v9 (j6 (h.elim (λe=>(h8 e).elim) id)) (p8 (M P g K hB z) rt rt ?_));exact p8 (Kx hm P g K hB λz' z' q=>Bool.noConfusion q) rt rt E9
theorem NY{F:IC->Prop}{K':KB}{c:IC}(q:F c):zW F K' .next c:=q
theorem XS{a b:xh Jh}:a.map AV.a9++b.map AV.a9=(a++b).map AV.a9:=(bg ..).symm
theorem Ii{a b:xh Jh}{k:Mh}(h:(a++b).length<=k):(a.map AV.a9).length+b.length<=k:=by rw [Eh,<-Ch];exact h
theorem uI{f:LK×Dh->Ah (xh Jh)}(e:κ≠κ'):f9 f (κ',t) l (κ,s)=f (κ,s):=e9 λz=>e (yh (·.1) z)
def A3(f:LK×Dh->Ah (xh Jh))(t:Dh)(Ll Ls:LK->xh Jh):LK×Dh->Ah (xh Jh):=f9 (f9 (f9 (f9 f (.mem,t) (Ll .mem++Ls .mem)) (.use,t) (Ll .use++Ls .use)) (.Z9,t) (Ll .Z9++Ls .Z9)) (.C9,t) (Ll .C9++Ls .C9)
theorem Jz{kk:M}{K':KB}(hz:∀κ t,false=false->g.z κ t=false)(hl:∀κ,E.ls (κ,lg)=some (Ll κ))(hs:∀κ,E.ls (κ,sm)=some (Ls κ))(z:E.val sm=some va)(v2:E.val lg=some vb)(B:f7 lg=true)(w:∀κ,(Ll κ++Ls κ).length<=1000000)
  (q:(A9 P n kk).b (.st,[]) ⟨jR l' r d sm lg us++[(9,iv vb),(8,iv va)],[],hp P g K {E with ls:=A3 E.ls lg Ll Ls,val:=if vb=0 then f9 E.val lg va else E.val}⟩ K'):
  (A9 P n (uA kk)).b (.st,[]) ⟨jR l' r d sm lg us,[],hp P g K E⟩ K':=by
 refine Y9 (hl .mem) (Y9 (hs .mem) (R9 (hl .mem) (hz _ _ rfl) (R9 (hl .mem) (hz _ _ rfl) (R9 (hs .mem) (hz _ _ rfl) ?_))));refine⟨Ls .mem,rfl,Ii (w _),j9 (M2 (hz _ _ rfl) (yh _ (hl .mem)) XS) ?_⟩;generalize e1:f9 E.ls _ _=f1;have j:=λκ h=>e1▸(uI h).trans (hl κ);have i:=λκ h=>e1▸(uI h).trans (hs κ);haveI e:=j .use LK.noConfusion;haveI p:=i .use LK.noConfusion;refine Y9 e (Y9 p (R9 e (hz _ _ rfl) (R9 e (hz _ _ rfl) (R9 p (hz _ _ rfl) ?_))));refine⟨Ls .use,rfl,Ii (w _),j9 (M2 (hz _ _ rfl) (yh _ e) XS) ?_⟩;generalize e2:f9 f1 _ _=f2;haveI a:=e2▸(uI LK.noConfusion).trans (j .Z9 LK.noConfusion);haveI o:=e2▸(uI LK.noConfusion).trans (i .Z9 LK.noConfusion);refine Y9 a (Y9 o (R9 a (hz _ _ rfl) (R9 a (hz _ _ rfl) (R9 o (hz _ _ rfl) ?_))));refine⟨Ls .Z9,rfl,Ii (w _),j9 (M2 (hz _ _ rfl) (yh _ a) XS) ?_⟩;generalize e3:f9 f2 _ _=f3;haveI c:=e3▸(uI LK.noConfusion).trans (e2▸(uI LK.noConfusion).trans (j .C9 LK.noConfusion));haveI u:=e3▸(uI LK.noConfusion).trans (e2▸(uI LK.noConfusion).trans (i .C9 LK.noConfusion));refine Y9 c (Y9 u (R9 c (hz _ _ rfl) (R9 c (hz _ _ rfl) (R9 u (hz _ _ rfl) ?_))));refine⟨Ls .C9,rfl,Ii (w _),j9 (M2 (hz _ _ rfl) (yh _ c) XS) ?_⟩;generalize e4:f9 f3 _ _=f4;haveI A:A3 E.ls lg Ll Ls=f4:=by refine rR e4 (rR e3 (rR e2 (rR e1 ?_)));rfl
 rw [A] at q;refine k9 (yh (Ag _) z) (k9 (yh (Ag _) v2) ?_);by_cases h:vb=0
 ·rw [Lh h] at q;exact D9 (N8 h) ⟨B,j9 (LV x8) q⟩
 ·rw [Fh h] at q;exact v9 (E8 h) q
abbrev G9.jn(E:G9)(sm lg:Dh)(ms:xh Dh)(Ll Ls:LK->xh Jh)(va vb:Dh):G9:={E with trail:=E.trail++[.join sm lg (λκ=>(Ll κ).length) vb],root:=V4 ms lg E.root,ls:=A3 E.ls lg Ll Ls,val:=if vb=0 then f9 E.val lg va else E.val}
theorem vu(m:E.root l'=some sm)(i:E.root r=some lg)(c:Mz 2 22 .st [iv l',iv r,.a9 d] E (.a9 .none) Ea)(e:Ea.ls (.use,sm)=some (zs us))(a:U0 (λt E E'=>Mz 3 19 .st [iv t] E (.a9 .none) E') us Ea Eb)
  (hl:∀κ,Eb.ls (κ,lg)=some (Ll κ)) (hs:∀κ,Eb.ls (κ,sm)=some (Ls κ)) (h:Ls .mem=zs ms) (v:Eb.val sm=some va) (v2:Eb.val lg=some vb) (o:∀t∈ms,f7 t=true) (p:f7 lg=true)
  (f:∀κ,(Ll κ++Ls κ).length<=1000000) (b2:us.length<=1000000) (j:Eb.trail.length<=1000000)
  (H:U0 (λt E E'=>Mz 3 13 .st [iv t] E (.a9 .none) E') us (Eb.jn sm lg ms Ll Ls va vb) Ed) (u:JF l' r d sm lg us va vb Ed E1) (hB:BK K) (hz:∀κ t,false=false->g.z κ t=false):
  (A9 P 4 tK).b (.st,[]) ⟨[(0,.g9 .house),(1,iv l'),(2,iv r),(3,.a9 d)],[],hp P g K E⟩ (Ri (.a9 .none) (hp P g K E1)):=by
 haveI z:∀κ t,true=false->g.z κ t=false:=λz' z' q=>Bool.noConfusion q;refine k9 (Q9 m) (k9 (Q9 i) ?_);refine p8 (c P g K hB z) rt rt (Y9 e (R9 e (hz _ _ rfl) ?_));refine⟨zs _,rfl,b9 b2,?_⟩;refine k8 (Iz a hB ?_) rfl;refine NY (p8 (Xl hl (λκ=>Bi (f κ)) P g K hB z) rt rt ?_);refine k9 (yh (Ag iv) v2) (⟨b9 (b9 j),j9 (y8 (.join sm lg _ vb) rfl) ?_⟩);haveI hm:=(hs .mem).trans (yh _ h);refine XY hm (hz _ _ rfl) (Y9 hm (ZY hm ⟨G8,?_⟩));refine k8 (xF o ?_) rfl;refine t3 hm (hz _ _ rfl) (NY ?_);exact Jz hz hl hs v v2 p f (k8 (ss H hB (u P g K hB hz)) rfl)
theorem Hq{a b l:Dh}{e c:xh Jh}(i:E.root l=some a)(f:E.root r=some b)(m:E.ls (.mem,a)=some e)(m2:E.ls (.mem,b)=some c)(b1:e.length<=1000000)(b2:c.length<=1000000)
  (s:∀x y,(c.length<e.length/\x=r/\y=l)\/(¬c.length<e.length/\x=l/\y=r)->∀P g K,BK K->(∀κ t,false=false->g.z κ t=false)->(A9 P 4 tK).b (.st,[]) ⟨[(0,.g9 .house),(1,iv x),(2,iv y),(3,.a9 d)],[],hp P g K E⟩ (Ri (.a9 .none) (hp P g K E1))):
  Me 5 16 .st [iv l,iv r,.a9 d] E (.a9 .none) E1:=λP g K hB hz=>by
 refine enter Zj rt rt (k9 (Q9 i) (Y9 m (R9 m (hz _ _ rfl) ⟨b9 b1,?_⟩)));refine k9 (Q9 f) (Y9 m2 (R9 m2 (hz _ _ rfl) ⟨b9 b2,?_⟩));by_cases h:c.length<e.length
 ·exact D9 (Rh (by rw [Eh,Eh];exact Int.ofNat_lt.mpr h)) (s r l (.inl ⟨h,rfl,rfl⟩) P g K hB hz)
 ·exact v9 (Xh (by rw [Eh,Eh];exactλq=>h (Int.ofNat_lt.mp q))) (s l r (.inr ⟨h,rfl,rfl⟩) P g K hB hz)
variable{y m one other:Dh}{dd:Jh}{vs:xh Dh}{l1:xh Jh}
theorem pM(h:E.clash=none):(!isNone (Hy E.clash))=false:=yh _ (WX.trans (yh _ h))
theorem ku(A:Me 7 10 .st [iv a] E (.a9 .none) Ea)(B:Me 7 10 .st [iv b] Ea (.a9 .none) Eb)(hc:Eb.clash=none)(ha:Eb.root a=some r)(hb:Eb.root b=some r)(M:Mz 2 25 .all [iv a,iv b] Eb (.a9 (.list (zs rs))) Eb)(hl:rs.length<=30)(hm:Eb.marks.length<=1000000):Me 8 26 .st [iv a,iv b,iv m] E (.a9 .none) {Eb with clash:=some (P7 rs m),g0:=Eb.marks.length}:=λP g K hB hz=>by
 have zz:∀κ t,true=false->g.z κ t=false:=λz' z' q=>Bool.noConfusion q;refine enter bp rt rt (V8 (A P g K hB hz) rt (V8 (B P g K hB hz) rt (v9 (pM hc) ?_)));refine k9 (Q9 ha) (k9 (Q9 hb) (D9 (N8 rfl) ?_));exact p8 (M P g K hB zz) rt rt (p8 (ou hl P g K hB zz) rt rt (p8 (Kx hm P g K hB zz) rt rt E9))
theorem lu(A:Me 7 10 .st [iv a] E (.a9 .none) Ea)(B:Me 7 10 .st [iv b] Ea (.a9 .none) Eb)(w:Eb.clash=none)(u:Eb.root a=some one)(C:Eb.root b=some other)(hn:one≠other)(j:Eb.ls (.Z9,one)=some l1)(q:Eb.ls (.Z9,other)=some l2)(b1:l1.length<=1000000)(b2:l2.length<=1000000)(D:Eb.trail.length<=1000000)
  (T:Me 4 33 .all [iv one] {Eb with ls:=f9 (f9 Eb.ls (.Z9,one) (l1++[t4 (a,b,m)])) (.Z9,other) (l2++[t4 (a,b,m)]),trail:=Eb.trail++[.apart one other]} (.a9 .none) Ec):Me 8 26 .st [iv a,iv b,iv m] E (.a9 .none) Ec:=λP g K hB hz=>by
 refine enter bp rt rt (V8 (A P g K hB hz) rt (V8 (B P g K hB hz) rt (v9 (pM w) ?_)));refine k9 (Q9 u) (k9 (Q9 C) (v9 (E8 hn) ?_));haveI e1:∀{l d},l.map AV.a9++[.a9 d]=(l++[d]).map .a9:=λ{l d}=>by refine rL bg ?_;rfl
 haveI h:f9 Eb.ls (.Z9,one) (l1++[t4 (a,b,m)]) _=some l2:=(e9 λe=>hn (yh (·.2) e).symm).trans q;refine Y9 j (R9 j (hz _ _ rfl) (R9 j (hz _ _ rfl) ?_));refine⟨b9 b1,j9 (M2 (hz _ _ rfl) (yh _ j) e1) ?_⟩;refine Y9 h (R9 h (hz _ _ rfl) (R9 h (hz _ _ rfl) ?_));refine⟨b9 b2,j9 (M2 (hz _ _ rfl) (yh _ h) e1) ?_⟩;exact⟨b9 (b9 D),j9 (y8 (.apart one other) rfl) (p8 (T P g K hB hz) rt rt E9)⟩
theorem Ql(ha:E.root a=some one)(hb:E.root b=some other)(ht:f7 t=true)(h1:E.ls (.C9,one)=some (zs us))(h2:one≠other->E.ls (.C9,other)=some (zs vs))(b1:us.length<=1000000)(b2:one≠other->vs.length<=1000000)(b3:E.trail.length<=1000000)
  (T:Mw 3 34 .all [iv t] {E with P9:=f9 E.P9 t (a,b),ls:=if one=other then f9 E.ls (.C9,one) (zs (us++[t])) else f9 (f9 E.ls (.C9,one) (zs (us++[t]))) (.C9,other) (zs (vs++[t])),trail:=E.trail++[.watch t one other]} (.a9 .none) Ec):Me 4 32 .st [iv t,iv a,iv b] E (.a9 .none) Ec:=λP g K hB hz=>by
 have z:∀κ t,wa κ=false->g.z κ t=false:=λκ t z'=>hz κ t rfl;refine enter Oj rt rt (k9 (Q9 ha) (k9 (Q9 hb) ⟨ht,j9 (TN (x8 (x:=(a,b)))) ?_⟩));refine Y9 h1 (R9 h1 (hz _ _ rfl) (R9 h1 (hz _ _ rfl) ?_));refine⟨D7 b1,j9 (M2 (E:={E with P9:=f9 E.P9 t (a,b)}) (hz _ _ rfl) (yh Option.isSome h1) X9) ?_⟩;by_cases e:one=other
 ·rw [Lh e] at T;refine v9 (j6 e) (⟨b9 (b9 b3),j9 (y8 (.watch t one other) rfl) ?_⟩);exact V8 (T P g K hB z) rt E9
 ·rw [Fh e] at T;have h2':f9 E.ls (.C9,one) (zs (us++[t])) (.C9,other)=some (zs vs):=(e9 λq=>e (yh (·.2) q).symm).trans (h2 e);refine D9 (B6 e) (Y9 h2' (R9 h2' (hz _ _ rfl) (R9 h2' (hz _ _ rfl) ?_)));refine⟨D7 (b2 e),j9 (M2 (hz _ _ rfl) (yh Option.isSome h2') X9) ?_⟩;refine⟨b9 (b9 b3),j9 (y8 (E:={E with P9:=f9 E.P9 t (a,b),ls:=_}) (.watch t one other) rfl) ?_⟩;exact V8 (T P g K hB z) rt E9
theorem JA(hs:(E.P9 t).isSome=true):Me 8 31 .st [iv t] E (.a9 .none) E:=λP g K hB hz=>by
 exact enter Cr rt rt (D9 ((Eg ..).trans hs) E9)
theorem ju{as:xh Dh}(T:AW K t (S "=") [x,y] dd)(hs:E.P9 t=none)(A:Me 7 10 .st [iv x] E (.a9 .none) Ea)(B:Me 7 10 .st [iv y] Ea (.a9 .none) Eb)(W:Me 4 32 .st [iv t,iv x,iv y] Eb (.a9 .none) Ec)(hB:BK K)(hz:∀κ t,false=false->g.z κ t=false):e7 P 8 .st 31 [.g9 .house,iv t] (hp P g K E) (.a9 .none) (hp P g K Ec):=by
 haveI d:(lay (.str (S "="))&&lay (.str (S "=")))=true:=by kernel_rfl
 haveI q:Y0 (.str (S "=")) (.str (S "="))=true:=by kernel_rfl
 refine enter Cr rt rt (v9 ((Eg ..).trans (yh _ hs)) ?_);exact p8 (Cq hB) rt rt (p8 (Ty T hB.l.1 f5) rt rt (L8 d (D9 q (p8 (Sy T hB.l.2.1 f5) rt rt (V8 (A P g K hB hz) rt (V8 (B P g K hB hz) rt (p8 (W P g K hB hz) rt rt E9)))))))
theorem iu(q:Ap t x)(hs:E.P9 t=none)(A:Me 7 10 .st [iv t] E (.a9 .none) Ea)(B:Me 7 10 .st [iv 1] Ea (.a9 .none) Eb)(W:Me 4 32 .st [iv t,iv t,iv 1] Eb (.a9 .none) Ec):Me 8 31 .st [iv t] E (.a9 .none) Ec:=λP g K hB hz=>by
 haveI e:(lay (.str (S "app"))&&lay (.str (S "=")))=true:=by kernel_rfl
 haveI d:Y0 (.str (S "app")) (.str (S "="))=false:=by kernel_rfl
 refine enter Cr rt rt (v9 ((Eg ..).trans (yh _ hs)) ?_);exact p8 (Cq hB) rt rt (p8 (Ty (hB.a t x q) hB.l.1 f5) rt rt (L8 e (v9 d (V8 (A P g K hB hz) rt (V8 (B P g K hB hz) rt (p8 (W P g K hB hz) rt rt E9))))))
theorem au(hs:E.P9 t=some (a,b))(h:E.d8 t=some none)(M:Mz 2 25 .all [iv a,iv b] E (.a9 (.list (zs rs))) E):Mz 4 36 .all [iv t] E (.a9 (.list (zs rs))) E:=λP g K hB hz=>by
 refine enter ap rt rt (k9 (yh (Ag _) hs) ?_);refine k9 (yh (Ag λp=>AV.a9 (nD p)) h) (p8 (M P g K hB hz) rt rt ?_);exact done
theorem bu(hs:E.P9 t=some (a,b))(h:E.d8 t=some (some c))(M:Mz 3 29 .all [iv a,iv b,.a9 (t4 c)] E (.a9 (.list (zs rs))) E):Mz 4 36 .all [iv t] E (.a9 (.list (zs rs))) E:=λP g K hB hz=>by
 refine enter ap rt rt (k9 (yh (Ag _) hs) ?_);exact k9 (yh (Ag λp=>AV.a9 (nD p)) h) (V8 (M P g K hB hz) rt done)
end
section
variable{P:w8}{n:Mh}{g:q9}{K:O8}{E:G9}{t m:Dh}{k:KB}{l sn:xh Dh}{f:Dh->Ah o8}{out:xh Jh}
theorem YY{u:Mo}{τ:Tg}{o o':d9}{a:xh (Mh×AV)}{t:xh (Mh×d9)}{b:Tg->Ah d9}{K:Mo->IC->(IC->(IC->Prop)->Prop)->Prop}(e:(A4 t b) τ=some o)(z:Fz o o')(q:τ.ti=none)(k:K (u.1,τ::u.2) ⟨a,t,up b τ o'⟩ λc k=>c.σ τ=some o'/\put c τ o k):O5 u ⟨a,t,b⟩ K:=
 ⟨τ,o,o',e,z,(JY q).mpr ⟨_,rfl,k⟩⟩
theorem yZ{τ:Tg}{o o':d9}{c:xh (Mh×AV)}{a:xh (Mh×d9)}{b:Tg->Ah d9}{k:IC->Prop}(q:τ.ti=none)(e:b τ=some o)(h:k ⟨c,a,b⟩):(⟨c,a,up b τ o'⟩:IC).σ τ=some o'/\put ⟨c,a,up b τ o'⟩ τ o k:=
 ⟨(T8 q).trans q7,(JY q).mpr ⟨b,B9 (λt n=>u8 n) e,h⟩⟩
def tv(o:Ah o8):Dh:=Ba o 1 λz'=> -1
theorem hC{o:Ah o8}:∃d,nD o= .tuple [.int (tv o),d]:=by cases o<;>exact⟨_,rfl⟩
def Bv:M:=jI (jD (jE .isin J3 (Ya 10)) (jE .notin J3 J2)) (jY (jK (.bool true)) J2 J3 (jX (jL J1 .append (Y1 (jU (Y2 J3 (jS (jS (Ya 10) J3) (Yi 0)))))) jN)) jN jN
def YM(f:Dh->Ah o8)(t:Dh):Jh:=qY (t,tv (f t))
theorem Nz{o':d9}{u:Mo}(h:∀t∈l,E.d8 t=some (f t)/\f7 t=true):∀{out sn},(sn++l).Nodup->out.length+l.length<=1000000->∀{k},(∀a,k .next ⟨[(0,.g9 .house),(1,.g9 (.W8 0)),(2,.g9 (.W8 1))],[(0,.list true ((out++l.map (YM f)).map .a9)),(1,.p9 true (SM a))],up (hp P g K E) .news o'⟩)->
  lp ((A9 P n Bv).b u) (N5 true [3]) (IC.keep [0,1,2]) k ((zs l).map .a9) ⟨[(0,.g9 .house),(1,.g9 (.W8 0)),(2,.g9 (.W8 1))],[(0,.list true (out.map .a9)),(1,.p9 true (SM sn))],up (hp P g K E) .news o'⟩:=by
 induction l with
 |nil=>
  intro out sn _ _ k e;haveI:=e sn;rw [List.map_nil,Th] at this;exact this
 |cons t l w=>
  intro out sn hn hl k e;haveI i:=h t (.head _);refine(hC (o:=f t)).elim λd hd=> ?_;haveI c:(E.d8 t).map (λp=>AV.a9 _)=some _:=(yh _ i.1).trans (yh (λz=>some _) hd);refine D9 ((yh _ c)) (D9 (yh _ (rS.trans (Xh (λm=>(List.nodup_append.mp hn).2.2 t m t (.head _) rfl)))) ?_);refine⟨i.2,?_⟩;refine k9 c (⟨b9 (vh (Qh _ _) hl),?_⟩);haveI s1:f9 (SM sn) t _=SM _:=qX;haveI r:out.map AV.a9++[.a9 (YM f t)]=(out++[YM f t]).map .a9:=by refine rL bg ?_;rfl
  haveI v:out++YM f t::l.map (YM f)=(out++[YM f t])++l.map (YM f):=by rw [ag];rfl
  refine k8 (w (λs q=>h s (.tail _ q)) (out:=out++[YM f t]) (sn:=sn++[t]) (by rw [ag];exact hn) (by rw [Ch,Wg];exact(af _ 1)▸hl) (λa=> ?_)) ?_
  ·haveI:=e a;rw [Hg,v] at this;exact this
  ·refine rR s1 (rR r ?_);rfl
theorem cu(h:∀t∈E.news,E.d8 t=some (f t)/\f7 t=true)(hn:E.news.Nodup)(hl:E.news.length<=1000000):Mz 1 35 .st [] E (.a9 (.list (E.news.map (YM f)))) {E with news:=[]}:=λP g K z' z'=>by
 refine enter Mj rt rt (⟨x6,?_⟩);refine⟨(λz' z' e=>(by nomatch e)),?_⟩;refine YY (τ:= .news) rfl C5 rfl (⟨G8,?_⟩);refine k8 (Nz (sn:=[]) h hn (by rw [Va,kf];exact hl) λs=> ?_) rfl;refine yZ rfl rfl ?_;refine NY ⟨E.news.map _,rfl,?_⟩;refine⟨x6 (w:=true),j9 (uR (l:=[])) done⟩
end
section
abbrev G9.at(E:G9)(C:Cor):G9:={E with toCor:=C}
def Kn(f:Dh->Ah Dh)(t:Dh):Prop:=∃r,f t=some r
inductive OI(C1 C2:Cor)(en:xh Dh)(wl:xh o8):Prop
 |no (k:∀z,Kn C2.root z↔Kn C1.root z) (s:C2.P9=C1.P9) (e:en=[]) (w:wl=[])
 |en (t:Dh) (e:en=[t]) (w:wl=[]) (s:C2.P9=C1.P9) (k:∀z,Kn C2.root z↔Kn C1.root z\/z=t) (h:C1.root t=none) (a:t∈TT) (x:∀x,Ap t x->Kn C1.root x)
 |wt (t a b:Dh) (e:en=[]) (w:wl=[(t,a,b)]) (s:C2.P9=f9 C1.P9 t (a,b)) (k:∀z,Kn C2.root z↔Kn C1.root z) (h:C1.P9 t=none)
def Un(x:Ent)(C1 C0:Cor)(en:xh Dh)(wl:xh o8):Prop:=∀E:G9,MT x (E.at C1) (E.at C0) en wl
inductive oU C:Cor->xh Ent->xh Dh->xh o8->Prop
 |same:oU C C [] [] []
 |snoc {C1 d:Cor} {seg:xh Ent} {ent e:xh Dh} {wt w:xh o8} {x:Ent}:oU C C1 seg ent wt->Un x d C1 e w->OI C1 d e w->oU C d (seg++[x]) (ent++e) (wt++w)
inductive h5(E E':G9):Prop
 |mk (seg:xh Ent) (ent:xh Dh) (wt:xh o8) (h:E'.trail=E.trail++seg) (b:oU E.toCor E'.toCor seg ent wt)
variable{P:w8}{g:q9}{K:O8}{C C1 C2:Cor}{E E1 E2 E3:G9}{seg s1 s2 tr:xh Ent}{ent en e1 e2 mk0 mk1:xh Dh}{wt wl w1 w2:xh o8}{x:Ent}{n spot:Mh}{t a b o v m:Dh}
theorem oU.trans(a:oU C C1 s1 e1 w1)(b:oU C1 C2 s2 e2 w2):oU C C2 (s1++s2) (e1++e2) (w1++w2):=by
 induction b with
 |same=>rw [Th,Th,Th];exact a
 |snoc b u h i=>rw [<-ag,<-ag,<-ag];exact .snoc i u h
theorem h5.refl:h5 E E:=⟨[],[],[],(Th _).symm,.same⟩
theorem h5.trans(a:h5 E E1)(b:h5 E1 E2):h5 E E2:=
 a.rec λs1 e1 w1 t b1=>b.rec λs e w d b2=>⟨s1++s,e1++e,w1++w,d.trans (t▸ag ..),b1.trans b2⟩
theorem h5.from(s:h5 E1 E2)(h:E1.toCor=E.toCor)(t:E1.trail=E.trail):h5 E E2:=s.rec λseg ent wt e b=>⟨seg,ent,wt,t▸e,h▸b⟩
theorem Un.e6(u:Un x E1.toCor E.toCor en wl)(h:E1.trail=E.trail++[x])(q:OI E.toCor E1.toCor en wl):h5 E E1:=⟨[x],en,wl,h,.snoc .same u q⟩
theorem OI.rev(h:OI C C1 en wl):en.reverse=en/\wl.reverse=wl:=by
 cases h with
 |no _ _ e w=>refine rL e (rL w ?_);exact⟨rfl,rfl⟩
 |en _ e w _ _ _ _ _=>refine rL e (rL w ?_);exact⟨rfl,rfl⟩
 |wt _ _ _ e w _ _ _=>refine rL e (rL w ?_);exact⟨rfl,rfl⟩
theorem OI.len(h:OI C C1 en wl):en.length<=1/\wl.length<=1:=by
 cases h with
 |no _ _ e w=>refine rL e (rL w ?_);exact⟨ng _,ng _⟩
 |en _ e w _ _ _ _ _=>refine rL e (rL w ?_);exact⟨Oh _,ng _⟩
 |wt _ _ _ e w _ _ _=>refine rL e (rL w ?_);exact⟨ng _,Oh _⟩
theorem OI.mono(h:OI C C1 en wl)(z:Dh)(k:Kn C.root z):Kn C1.root z:=by
 cases h with
 |no q _ _ _=>exact(q z).mpr k
 |en _ _ _ _ q _ _ _=>exact(q z).mpr (.inl k)
 |wt _ _ _ _ _ _ q _=>exact(q z).mpr k
theorem oU.mono(b:oU C C1 seg ent wt):∀z,Kn C.root z->Kn C1.root z:=by
 induction b with
 |same=>exactλz' h=>h
 |snoc _ _ q i=>exactλz h=>q.mono z (i z h)
theorem oU.len(b:oU C C1 seg ent wt):ent.length<=seg.length/\wt.length<=seg.length:=by
 induction b with
 |same=>exact⟨Oh _,Oh _⟩
 |snoc _ _ q i=>refine rL Ch (rL Ch (rL Ch ?_));exact⟨Cg i.1 q.len.1,Cg i.2 q.len.2⟩
theorem BA{l:xh Ent}:(((l.map BY).map AV.a9).length:Dh)=l.length:=yh _ ((Eh _).trans (Eh _))
abbrev PM(n:AV)(spot:Mh)(b:Tg->Ah d9):IC:=⟨[(0,.g9 .house),(1,n),(2,iv spot),(3,.g9 (.byr 0)),(4,.g9 (.byr 1))],[],b⟩
theorem kH(b:oU C C1 seg ent wt):∀{P g K en0 wl0},BK K->(∀κ t,false=false->g.z κ t=false)->en0.length+ent.length<=2000->wl0.length+wt.length<=2000->(tr++seg).length<=1000000->∃s,JM g s/\∀{k},k .next (PM (iv m) tr.length (hp P (s.by (en0++ent.reverse) (wl0++wt.reverse)) K {E with toCor:=C,trail:=tr}))->
  wh ((A9 P 6 (.cmp .gt (.blt .len (.cons (.D6 (.var 0) 15) (.nil))) (.var 2))).t (.s2,[])) ((A9 P 6 (.ex (.met (.var 0) 39 (.cons (.lm (.D6 (.var 0) 15) .pop (.nil)) (.cons (.var 3) (.cons (.var 4) (.nil))))) (.nil))).b (.s2,[])) (IC.keep [0,1,2,3,4]) k (seg.length+1) (PM (iv m) tr.length (hp P (g.by en0 wl0) K {E with toCor:=C1,trail:=tr++seg})):=by
 induction b with
 |same=>
  intro P g K _ _ _ _ _ _ hl;refine⟨g,⟨rfl,rfl,rfl⟩,λ{k} p=>⟨b9 (b9 hl),v9 (Xh ?_) ?_⟩⟩
  ·rw [Th,BA];exact Int.lt_irrefl _
  ·rw [Th];rw [List.reverse_nil,Th,List.reverse_nil,Th] at p;exact p
 | @snoc _ _ seg _ A _ G x b u q i=>
  intro P g K en0 wl0 hB hz h h' hl;rw [Ch] at h h';refine rL (Ch) ?_;rw [<-ag] at hl⊢;refine(u {E with trail:=tr++seg} P g K _ _ hB hz (vh (Qh _ _) h) (vh (Qh _ _) h')).elim λs f=> ?_;have y:=λκ t e=>f.1.z▸hz κ t e;refine(i (P:=P) (en0:=en0++A) (wl0:=wl0++G) hB y (by rw [Ch,Wg,af A.length];exact h) (by rw [Ch,Wg,af G.length];exact h') (Bi hl)).imp λI w=>⟨f.1.trans w.1,λ{k} p=> ?_⟩;refine⟨b9 (b9 hl),D9 (Rh ?_) ?_⟩
  ·refine rL BA ?_;rw [ag,Ch];exact Int.ofNat_lt.mpr (Df (Ch▸Lf _))
  refine⟨((tr++seg).map _).map .a9,.a9 _,s7.symm,b9 (b9 (Bi hl)),j9 (qR rfl) ?_⟩;refine p8 f.2 rt rt (T5 (w.2 ?_) rfl);rw [List.reverse_append,List.reverse_append,q.rev.1,q.rev.2,<-ag,<-ag] at p;exact p
theorem cN{s:Dh}(h:m=mk1.length+1):(((zs (mk0++s::mk1)).map AV.a9).length-m)=mk0.length:=by
 refine rL DY ?_;rw [Ch,Ze,h,Int.natCast_add];exact ia ..
theorem Es{s:Dh}:H8 mk0.length ((zs (mk0++s::mk1)).map AV.a9)=some (iv s):=by
 unfold H8 zs;refine rL (Lh (Af _)) (rL jg ?_);show(List.map _ _)[mk0.length]? =_;refine rL (kg) ?_;rw [Yg (Oh _),pd];rfl
theorem Ay:up (up (hp P g K E) (.byr 0) (.list true [])) (.byr 1) (.list true [])=hp P (g.by [] []) K E:=funext λτ=>by
 cases τ with
 |byr k=>cases k with
  |zero=>rfl
  |succ k=>cases k<;>rfl
 |ls k t=>cases k<;>rfl
 |w7 k=>cases k<;>rfl
 |_=>rfl
theorem LN{l:xh Dh}(h:U0 (λt E E'=>Me 4 11 .st [iv t] E (.a9 .none) E') l E E1)(hB:BK K)(hz:∀κ t,false=false->g.z κ t=false):∀{k},k .next (PM (iv m) spot (hp P g K E1))->
  lp ((A9 P 6 (.ex (.met (.var 0) 11 (.cons (.var 5) (.nil))) (.nil))).b (.s2,[])) (N5 true [5]) (IC.keep [0,1,2,3,4]) k ((zs l).map .a9) (PM (iv m) spot (hp P g K E)):=by
 induction h with
 |nil=>exactλd=>d
 |cons h _ i=>
  intro k d;exact p8 (h P g K hB hz) rt rt (k8 (i d) rfl)
theorem nL{l:xh o8}(h:U0 (λc E E'=>Me 4 32 .st [iv c.1,iv c.2.1,iv c.2.2] E (.a9 .none) E') l E E1)(hB:BK K)(hz:∀κ t,false=false->g.z κ t=false):∀{k},k .next (PM (iv m) spot (hp P g K E1))->
  lp ((A9 P 6 (.ex (.met (.var 0) 32 (.cons (.var 5) (.cons (.var 6) (.cons (.var 7) (.nil))))) (.nil))).b (.s2,[])) (N5 false [5,6,7]) (IC.keep [0,1,2,3,4]) k ((l.map t4).map .a9) (PM (iv m) spot (hp P g K E)):=by
 induction h with
 |nil=>exactλd=>d
 |cons h _ i=>
  intro k d;exact p8 (h P g K hB hz) rt rt (k8 (i d) rfl)
theorem TW{d:Type}{vs:xh d}:u3 none none (some (-1)) vs=some vs.reverse:=(Fh λh=>(by nomatch h.2)).trans (Lh ⟨rfl,rfl,rfl⟩)
section
variable{u:Mo}{c:IC}{vs ws:xh AV}{Q:KE}{D:Mh}{cl:Ah (xh Dh)}{v j:Dh}{m1 m2 kk:M}{K':KB}{KO':KO}{f:xh (Mh×AV)}{i:Mh}{a:AV}
theorem PB(q:(A9 P n kk).b u c K'):(A9 P n .nil).b u c (zW (kB (A9 P n kk) u K') K'):=q
theorem NB(q:(A9 P n kk).b u c K'):zW (kB (A9 P n kk) u K') K' .next c:=q
theorem iC(q:(A9 P n m1).e u c λa c1=>(A9 P n m2).e (hold a u) c1 λb d=>Zi d a b λr=>Q r d):(A9 P n (.sub m1 m2)).e u c Q:=q
theorem oC(q:(A9 P n m1).e u c λa c1=>(A9 P n m2).e (hold a u) c1 λb d=>rd b.int? λk=>gI d a λvs=>rd (u3 none (some k) none vs) λws=>vs.length<=1000000/\KO' (.list true ws) d):(A9 P n (.iU m1 m2)).o u c KO':=q
theorem OU{y:Mh}{τ:Tg}(q:(A9 P n m1).o u c λo c1=>dq c1 u y i τ o λd=>(A9 P n kk).b u d K'):(A9 P n (.WW y i τ m1 kk)).b u c K':=q
theorem JI(k:c.ρ.lookup 0=some (.g9 .house))(d:c.σ .house=some (.inst D f))(h:f.lookup i=some a)(q:Q a c):(A9 P n (.D6 (.var 0) i)).e u c Q:=k9 k (k9 (x:=c.σ .house) d (k9 (x:=f.lookup i) h q))
theorem AA(d:c.ρ.lookup 0=some (.g9 .house))(k:c.ρ.lookup 1=some (iv m))(h:c.σ .house=some (.inst D (A5 cl v)))(hm:c.σ .marks=some (.list true vs))(hl:vs.length<=1000000)(e:vs.length-m=j)(q:Q (iv j) c):
  (A9 P n (.bin .sub (.blt .len (.cons (.D6 (.var 0) 16) (.nil))) (.var 1))).e u c Q:=by
 refine k9 d (k9 (x:=c.σ .house) h (k9 (x:=c.σ .marks) hm ⟨hl,k9 k ?_⟩));subst e;exact q
theorem mC{R:xh AV->Prop}(hm:c.σ .marks=some (.list true vs))(e:u3 none (some j) none vs=some ws)(hl:vs.length<=1000000)(q:R ws):rd (iv j).int? λk=>gI c (.g9 .marks) λvs=>rd (u3 none (some k) none vs) λws=>vs.length<=1000000/\R ws:=
 k9 (x:=c.σ .marks) hm (k9 (x:=u3 _ _ _ _) e ⟨hl,q⟩)
theorem Gs{R:AV->Prop}(hm:c.σ .marks=some (.list true vs))(e:H8 j vs=some a)(hl:vs.length<=1000000)(q:R a):Zi c (.g9 .marks) (iv j) R:=
 k9 hm (k9 e ⟨hl,q⟩)
end
theorem tN{τ:Tg}{w:Kh}{l:xh Dh}:w6 τ (.list w ((zs l).map .a9)):=λz' m=>(List.mem_map.mp m).elim λz' e=>e.2▸trivial
def pA:M:=jH false [5] true (.TM J3 (.neg (Yi 1))) (jX (jM J0 11 (Y1 J5)) jN) [0,1,2,3,4] (jX (jM J0 15 jN) (jH false [5,6,7] false (.TM J4 (.neg (Yi 1))) (jX (jM J0 32 (Y3 J5 J6 J7)) jN) [0,1,2,3,4] jN))
def SG:M:=jQ 0 11 .news (.fz (jZ J5 [5] true (Ya 11) (jE .isin J5 (Ya 10)) [0])) pA
def qA:M:=jI (jD (jE .isnot (Ya 13) (jK .none)) (jE .lt (jB .len (Y1 (Ya 16))) (Ya 14))) (.M4 0 13 (jK .none) jN) jN SG
def oA:M:=jQ 0 12 .queue (jP jN) qA
def Av:M:=jQ 0 16 .marks (.iU (Ya 16) (jO .sub (jB .len (Y1 (Ya 16))) J1)) (jG [3,4] (Y2 (jW (.byr 0) (jP jN)) (jW (.byr 1) (jP jN))) (.vU (jE .gt (jB .len (Y1 (Ya 15))) J2) (jX (jM J0 39 (Y3 (jL (Ya 15) .pop jN) J3 J4)) jN) [0,1,2,3,4] oA))
def zv:M:=jT 2 (jS (Ya 16) (jO .sub (jB .len (Y1 (Ya 16))) J1)) Av
theorem kJ{u:Mo}{p:Ah (xh Dh)}{K':KB}(hl:E.marks.length<=1000000)(q:(A9 P n SG).b u (PM (iv m) spot (hp P g K {E with clash:=if E.marks.length<E.g0 then none else p})) K'):(A9 P n qA).b u (PM (iv m) spot (hp P g K {E with clash:=p})) K':=by
 cases p with
 |none=>
  rw [Zb] at q;exact q
 |some l=>
  refine⟨D7 hl,?_⟩;by_cases h:(E.marks.length)<E.g0
  ·rw [Lh h] at q;exact D9 (Rh (rL DY h)) (j9 (H4 (c:=none) rfl) q)
  ·rw [Fh h] at q;exact v9 (Xh (rL DY h)) (q)
def EZ(C:Cor)(l:xh Dh):xh Dh:=l.filter λt=>(C.d8 t).isSome
theorem EG{K':KB}(hl:E.news.length<=1000000)(q:(A9 P n pA).b (.s2,[]) (PM (iv m) spot (hp P g K {E with news:=EZ E.toCor E.news})) K'):(A9 P n SG).b (.s2,[]) (PM (iv m) spot (hp P g K E)) K':=by
 refine OU (YY (τ:= .news) rfl C5 rfl ?_);refine⟨G8,D7 hl,?_⟩;refine rL Z7 ?_;refine d5 (λt=>(E.d8 t).isSome) _ (λx m K k=> ?_) (λx m z' K k=>k) λρ'=> ?_
 ·haveI e:((E.d8 x).map λp=>AV.a9 (nD p)).isSome=(E.d8 x).isSome:=Eg ..;exact(yh (λb=>K b _) e).mpr k
 exact yZ rfl (yh (λl=>some _) Z7) (⟨tN (w:=true),j9 uR q⟩)
theorem Ol(hm:m=mk1.length+1)(b:oU C E.toCor seg ent wt)(he:ent.length<=1000)(hw:wt.length<=1000)(b1:(mk0++(tr.length:Dh)::mk1).length<=1000000)(b2:(tr++seg).length<=1000000)(b3:E.news.length<=1000000)
  (h1:U0 (λt E E'=>Me 4 11 .st [iv t] E (.a9 .none) E') ent {E with toCor:=C,trail:=tr,marks:=mk0,queue:=[],news:=EZ C E.news,clash:=if(mk0.length:Dh)<E.g0 then none else E.clash} E1) (h2:Me 6 15 .st [] E1 (.a9 .none) E2)
  (h3:U0 (λc E E'=>Me 4 32 .st [iv c.1,iv c.2.1,iv c.2.2] E (.a9 .none) E') wt E2 E3) (hB:BK K) (hz:∀κ t,false=false->g.z κ t=false):
  ∃g':q9,g'.r=g.r/\g'.z=g.z/\e7 P 7 .s2 38 [.g9 .house,iv m] (hp P g K {E with marks:=mk0++(tr.length:Dh)::mk1,trail:=tr++seg}) (.a9 .none) (hp P g' K E3):=by
 refine(kH (P:=P) (m:=m) (E:={E with marks:=mk0}) b (en0:=[]) (wl0:=[]) hB hz (vh (Ph (kf _)) (vh he (by decide))) (vh (Ph (kf _)) (vh hw (by decide))) b2).imp' (λg'=>g'.by ent.reverse wt.reverse) λg' w=>⟨w.1.r,w.1.z,?_⟩;have hz':∀κ t,false=false->(g'.by ent.reverse wt.reverse).z κ t=false:=λκ t e=>(yh (λz:LK->Dh->Kh=>z κ t) w.1.z).trans (hz κ t e);refine enter Kj rt rt (v9 (Xh (by rw [hm];exact Int.not_le.mpr (Int.lt_add_one_of_le (Af _)))) ?_);refine PB (kk:=zv) ((S3 (iC (JI rfl rfl rfl (AA rfl rfl rfl rfl (D7 b1) (cN hm) (Gs rfl Es (D7 b1) ?_))))));refine OU (oC (JI rfl rfl rfl (AA rfl rfl rfl rfl (D7 b1) (cN hm) (mC rfl (F7.trans (yh some (D1.trans (yh (λl=>l.map AV.a9) ((List.map_take.symm).trans (yh zs List.take_left)))))) (D7 b1) ?_))));refine⟨tN (w:=true),j9 UN ?_⟩;refine⟨x6,j9 rfl ?_⟩;refine⟨x6,j9 Ay ?_⟩;refine⟨seg.length+1,T5 (w.2 ?_) rfl⟩;refine NB (kk:=oA) (OU ?_);refine⟨x6 (w:=true),j9 NV ?_⟩;refine kJ (E:={E with toCor:=C,queue:=[],trail:=tr,marks:=mk0}) (Bi b1) (EG b3 ?_);refine⟨zs ent.reverse,rfl,?_⟩;refine k9 (TW.trans (yh some (by unfold zs;rw [<-Ye,gc]))) ⟨?_,?_⟩
 ·exact vh (Ph ((Eh _).trans (rc))) (vh he (by decide))
 refine k8 (LN h1 hB hz' ?_) rfl;refine NY (V8 (h2 P _ K hB hz') rt ?_);refine⟨wt.reverse.map t4,rfl,k9 (TW.trans (yh some (by rw [<-Ye,gc]))) ⟨?_,?_⟩⟩
 ·exact vh (Ph ((Eh _).trans (rc))) (vh hw (by decide))
 exact k8 (nL h3 hB hz' E9) rfl
end
section
variable{P:w8}{K:O8}{b σ:Tg->Ah d9}{τ:Tg}{o y x:d9}
def G9.nul:G9:=⟨⟨λz'=>none,λz'=>none,λz'=>none,λz'=>none,λz'=>none,λz'=>none,λz'=>none⟩,[],[],none,0,[],[]⟩
def Jr(b:Tg->Ah d9):q9:=⟨λk t=>b (.ls k t),λz' z'=>false,λk=>b (.byr k),b⟩
theorem X3(h:τ≠ .house):up (up (up σ .house y) τ o) .house x=up (up σ τ o) .house x:=funext λt=>by
 by_cases e:t= .house
 ·refine rL e ?_;rw [q7,q7]
 ·refine rL (u8 e) (rL (u8 e) ?_);by_cases q:t=τ
  ·exact rL q (rL q7 (rL q7 rfl))
  ·refine rL (u8 q) ?_;rw [u8 q,u8 e]
theorem XB:up (up σ .house y) .house x=up σ .house x:=funext λt=>by
 by_cases e:t= .house
 ·refine rL e ?_;rw [q7,q7]
 ·refine rL (u8 e) ?_;rw [u8 e,u8 e]
def Zs(b:Tg->Ah d9):Tg->Ah d9:=up b .root (.p9 true λz'=>none)
def Tz(b:Tg->Ah d9):Tg->Ah d9:=up (Zs b) (.w7 .mem) (.p9 true λz'=>none)
def Ws(b:Tg->Ah d9):Tg->Ah d9:=up (Tz b) (.w7 .use) (.p9 true λz'=>none)
def Vs(b:Tg->Ah d9):Tg->Ah d9:=up (Ws b) .value (.p9 true λz'=>none)
def Us(b:Tg->Ah d9):Tg->Ah d9:=up (Vs b) (.w7 .Z9) (.p9 true λz'=>none)
def Ss(b:Tg->Ah d9):Tg->Ah d9:=up (Us b) (.w7 .C9) (.p9 true λz'=>none)
def Rs(b:Tg->Ah d9):Tg->Ah d9:=up (Ss b) .up (.p9 true λz'=>none)
def Qs(b:Tg->Ah d9):Tg->Ah d9:=up (Rs b) .table (.W9 λz'=>none)
def Ps(b:Tg->Ah d9):Tg->Ah d9:=up (Qs b) .sides (.p9 true λz'=>none)
def Yz(b:Tg->Ah d9):Tg->Ah d9:=up (Ps b) .told (.p9 true λz'=>none)
def Xz(b:Tg->Ah d9):Tg->Ah d9:=up (Yz b) .news (.list true [])
def Wz(b:Tg->Ah d9):Tg->Ah d9:=up (Xz b) .queue (.list true [])
def Vz(b:Tg->Ah d9):Tg->Ah d9:=up (Wz b) .trail (.list true [])
def Uz(b:Tg->Ah d9):Tg->Ah d9:=up (Vz b) .marks (.list true [])
theorem qF(B:WT P K b)(h:∀k,b (.W8 k)=none):up (Uz b) .house (.inst P.C [(0,.g9 .bank),(1,.g9 .root),(2,.g9 (.w7 .mem)),(3,.g9 (.w7 .use)),(4,.g9 .value),(5,.g9 (.w7 .Z9)),(6,.g9 (.w7 .C9)),(7,.g9 .up),(8,.g9 .table),(9,.g9 .sides),(10,.g9 .told),(11,.g9 .news),(12,.g9 .queue),(13,(.a9 .none)),(14,(iv 0)),(15,.g9 .trail),(16,.g9 .marks)])=hp P (Jr b) K G9.nul:=funext λt=>by
 cases t with
 |bank=>exact B.i
 |bk k=>exact B.k k
 |W8 k=>exact h k
 |w7 k=>cases k<;>rfl
 |ls k t=>cases k<;>rfl
 |table=>exact yh (λf=>some _) (funext (wV (R:=λ_ o=>none=o.bind λ_=>none) (λ_=>rfl) λ_ _=>rfl))
 |_=>rfl
theorem l0(h:b .house=some (.inst P.C []))(B:WT P K b)(a:∀k,b (.W8 k)=none):e7 P 1 .lU 0 [.g9 .house,.g9 .bank] b (.a9 .none) (hp P (Jr b) K G9.nul):=by
 refine enter c0 rt rt (k9 h ?_);refine j9 rfl (⟨(λt v e=>(by nomatch e)),j9 (X3 Tg.noConfusion) ?_⟩);refine⟨rfl,j9 (σ':=up (Tz b) .house (.inst P.C [(0,.g9 .bank),(1,.g9 .root),(2,.g9 (.w7 .mem))])) (X3 Tg.noConfusion) ?_⟩;refine⟨rfl,j9 (X3 Tg.noConfusion) ?_⟩;refine⟨(λt v e=>(by nomatch e)),j9 (X3 Tg.noConfusion) ?_⟩;refine⟨rfl,j9 (X3 Tg.noConfusion) ?_⟩;refine⟨rfl,j9 (X3 Tg.noConfusion) ?_⟩;refine⟨(λt v e=>(by nomatch e)),j9 (X3 Tg.noConfusion) ?_⟩;refine⟨(λt v e=>(by nomatch e)),j9 (X3 Tg.noConfusion) ?_⟩;refine⟨(λt v e=>(by nomatch e)),j9 (X3 Tg.noConfusion) ?_⟩;refine⟨(λt v e=>(by nomatch e)),j9 (X3 Tg.noConfusion) ?_⟩;refine⟨x6 (w:=true),j9 (X3 Tg.noConfusion) ?_⟩;refine⟨x6 (w:=true),j9 (X3 Tg.noConfusion) ?_⟩;refine j9 XB (j9 XB ?_);refine⟨x6 (w:=true),j9 (X3 Tg.noConfusion) ?_⟩;refine⟨x6 (w:=true),j9 ((X3 Tg.noConfusion).trans (qF B a)) ?_⟩;exact E9
end
section
def Q8(up:Up)(l:xh N9):Up:=λz=>match l.find? (λe=>e.2.1==z) with
 |some e=>some (e.1,e.2.2)
 |none=>if z∈l.map (·.1) then none else up z
def rl(l:xh N9):xh N9:=(l.map λe=>(e.2.1,e.1,e.2.2)).reverse
section
variable{up up':Up}{es p:xh N9}{T:xh Dh}{a b c z t top:Dh}{l l1:xh N9}{k:Mh}
theorem yi{l:xh N9}(h:z∉l.map (·.2.1)):l.find? (λe=>e.2.1==z)=none:=by
 rw [List.find?_eq_none];exactλe d g=>h (List.mem_map.mpr ⟨e,d,by simpa using g⟩)
theorem Qi{l:xh N9}{e:N9}(h:(l.map (·.2.1)).Nodup)(d:e∈l):l.find? (λf=>f.2.1==e.2.1)=some e:=by
 induction l with
 |nil=>exact(List.not_mem_nil d).elim
 |cons x l i=>
  have h:=List.nodup_cons.mp h;refine rL (te) ?_;rcases List.mem_cons.mp d with rfl|d
  ·rw [zg]
  ·exact rL (yg λ(g)=>h.1 (List.mem_map.mpr ⟨e,d,g.symm⟩)) (i h.2 d)
theorem Cy{z:Dh}:QV l up z=if z∈l.map (·.1) then none else up z:=by
 induction l generalizing up with
 |nil=>exact(Fh (λh=>(by nomatch h))).symm
 |cons e l i=>
  show QV l _ z=_;refine rL i (rL Hg ?_);by_cases q:z∈l.map (·.1)
  ·exact rL (Lh q) (rL (Lh (.tail _ q)) rfl)
  ·rw [Fh q];by_cases d:z=e.1
   ·refine rL (Lh (List.mem_cons.mpr (.inl d))) (rL d ?_);exact Z8
   ·refine rL (Fh λh=>(List.mem_cons.mp h).elim d q) ?_;exact a8 d
theorem eC{z:Dh}(h:(l.map (·.2.1)).Nodup):OW l up z=match l.find? (λe=>e.2.1==z) with
  |some e=>some (e.1,e.2.2)
  |none=>up z:=by
 induction l generalizing up with
 |nil=>rfl
 |cons e l i=>
  have h:=List.nodup_cons.mp h;show OW l _ z=_;refine rL (i h.2) (rL (te) ?_);by_cases q:e.2.1=z
  ·refine rL (yi (q▸h.1)) (rL (beq_iff_eq.mpr q) (rR q ?_));exact i9
  ·refine rL (yg q) ?_;cases l.find? _ with
   |some f=>rfl
   |none=>exact e9 (vd q)
theorem XH(T:v7 up)(p:w9 up t l top):OW l (QV l up)=Q8 up l:=funext λz=>by
 refine rL (eC (List.nodup_cons.mp (p.IX T)).2) ?_;unfold Q8;cases l.find? _ with
 |some f=>rfl
 |none=>exact Cy
theorem eS{E:G9}(T:v7 E.up)(p:w9 E.up t l top)(g:E.up top=none)(d:l.length<=1000)(f:∀e∈l,f7 e.2.1=true):Mz 1 23 .st [iv t] E (iv top) {E with up:=Q8 E.up l}:=
 XH T p▸Vl (p.nodup T).1 (λe h=>by refine rL (p.edge h) ?_;rfl) f p g (vh d (by decide))
theorem cV(T:v7 up)(p:w9 up t l top){e:N9}(h:e∈l):Q8 up l e.2.1=some (e.1,e.2.2):=by
 haveI:=p.IX T;rw [Bd] at this;unfold Q8;exact rL (Qi this.2 h) rfl
theorem xS(T:v7 up)(p:w9 up t l top)(d:up top=none):Q8 up l t=none:=by
 have:=p.IX T;rw [Bd] at this;unfold Q8;refine rL (yi this.1) ?_;cases p with
 |nil=>simpa using d
 |cons h q=>simp
theorem P1(p:w9 up t l top)(h:z∉t::l.map (·.2.1)):Q8 up l z=up z:=by
 unfold Q8;refine rL (yi λq=>h (.tail _ q)) ?_;rw [p.ups] at h;exact rL (Fh λq=>h (Zh _ q)) rfl
theorem w9.rev(p:w9 up a l b)(h:∀e∈l,up' e.2.1=some (e.1,e.2.2)):w9 up' b (rl l) a:=by
 induction p with
 |nil=>exact .nil _
 | @cons t n z y l g q i=>
  show w9 _ z ((((t,n,y)::l).map λe=>(e.2.1,e.1,e.2.2)).reverse) t;exact rL Hg (rL Oe ((i λe d=>h e (.tail _ d)).app (.cons (h _ (.head _)) (.nil _))))
theorem w9.mono(p:w9 up a l b)(h:∀e∈l,up' e.1=up e.1):w9 up' a l b:=by
 induction p with
 |nil=>exact .nil _
 |cons g _ i=>exact .cons ((h _ (.head _)).trans g) (i λe d=>h e (.tail _ d))
theorem w9.hit{N:xh Dh}(p:w9 up a l b):((∀e∈l,e.1∉N)/\b∉N)\/∃l1 w,w9 up a l1 w/\w∈N/\∀e∈l1,e.1∉N:=by
 induction p with
 |nil t=>
  by_cases h:t∈N
  ·exact .inr ⟨[],t,.nil _,h,λz' h=>by cases h⟩
  ·exact .inl ⟨(λz' h=>by cases h),h⟩
 | @cons t n z y l g q ih=>
  by_cases h:t∈N
  ·exact .inr ⟨[],t,.nil _,h,λz' h=>by cases h⟩
  ·rcases ih with⟨h1,h2⟩|⟨l1,w,h1,h2,h3⟩
   ·exact .inl ⟨λe he=>(List.mem_cons.mp he).elim (λq=>q▸h) (h1 e),h2⟩
   ·exact .inr ⟨(t,n,y)::l1,w,.cons g h1,h2,λe he=>(List.mem_cons.mp he).elim (λq=>q▸h) (h3 e)⟩
theorem SU(T:v7 up)(p:w9 up t l top)(v:up top=none):v7 (Q8 up l):=by
 intro z;obtain⟨L,r,q,o⟩:=T z;rcases q.hit with⟨n,s⟩|⟨l1,w,d,hw,j⟩
 ·exact⟨L,r,q.mono λe h=>P1 p (n e h),by refine rL (P1 p s) ?_;exact o⟩
 ·have d:=d.mono λe h=>P1 p (j e h);haveI:∃f g,l=f++g/\w9 up t f w:=by
   rw [p.ups] at hw;rcases List.mem_append.mp hw with hw|hw
   ·obtain⟨e,h,rfl⟩:=List.mem_map.mp hw;obtain⟨x,y,e1,u,_,_⟩:=p.at_ h
    exact⟨x,_,e1,u⟩
   ·rw [zf] at hw;subst hw;exact⟨l,[],by simp,p⟩
  obtain⟨f,g,rfl,i⟩:=this;exact⟨_,t,d.app (i.rev λe h=>cV T p (Zh _ h)),xS T p v⟩
theorem K8.rev(F:K8 up es)(p:w9 up t l top)(f:up top=none):K8 (Q8 up l) es:=by
 refine⟨λc n y h=> ?_,λx n y h=> ?_,SU F.top p f⟩
 ·by_cases j:c∈l.map (·.2.1)
  ·obtain⟨e,d,rfl⟩:=List.mem_map.mp j;rw [cV F.top p d] at h;cases h;exact(F.a _ _ _ (p.edge d)).symm
  ·by_cases i:c=t
   ·subst i;rw [xS F.top p f] at h;cases h
   ·rw [P1 p (by rw [yd,not_or];exact⟨i,j⟩)] at h;exact F.a _ _ _ h
 ·have g:∀{x n},up x=some (n,y)->Q8 up l x=some (n,y)\/Q8 up l n=some (x,y):=by
   intro x n q;by_cases hx:x∈l.map (·.1)
   ·obtain⟨e,d,rfl⟩:=List.mem_map.mp hx;haveI:=p.edge d;rw [q] at this;haveI r:=cV F.top p d;rw [<-(Bh this)] at r;exact .inr r
   ·refine .inl ?_;rw [P1 p,q];refine rL p.ups ?_;intro z;rcases List.mem_append.mp z with z|z
    ·exact hx z
    ·rw [zf] at z;subst z;rw [f] at q;cases q
  rcases F.b _ _ _ h with q|q
  ·exact g q
  ·exact(g q).symm
theorem bP.rev(u:bP up T)(p:w9 up t l top)(g:v7 up)(j:up top=none):bP (Q8 up l) T:=by
 refine⟨λc n y h=> ?_⟩;by_cases i:c∈l.map (·.2.1)
 ·obtain⟨e,d,rfl⟩:=List.mem_map.mp i;rw [cV g p d] at h;cases h;exact(u.key _ _ _ (p.edge d)).symm
 ·by_cases f:c=t
  ·subst f;rw [xS g p j] at h;cases h
  ·rw [P1 p (by rw [yd,not_or];exact⟨f,i⟩)] at h;exact u.key _ _ _ h
theorem qQ{d:Type}{l:xh d}(h:l.Nodup):l.reverse.Nodup:=by
 unfold List.Nodup;rw [List.pairwise_reverse];exact h.imp λq=>vd q
theorem bh(T0:v7 up)(p:w9 up t l top)(ht:up top=none):Q8 (Q8 up l) (rl l)=up:=by
 funext z;have hn:(rl l).map (·.2.1)=(l.map (·.1)).reverse:=by unfold rl;rw [Ye,jg];rfl
 have hc:(rl l).map (·.1)=(l.map (·.2.1)).reverse:=by unfold rl;rw [Ye,jg];rfl
 by_cases h:z∈l.map (·.1)
 ·obtain⟨e,he,rfl⟩:=List.mem_map.mp h;have h1:(e.2.1,e.1,e.2.2)∈rl l:=by unfold rl;rw [Vc];exact List.mem_map.mpr ⟨e,he,rfl⟩
  have:=Qi (by rw [hn];exact qQ (p.nodup T0).1) h1
  conv=>lhs;unfold Q8
  simp only at this;rw [this,p.edge he]
 ·have h0:z∉(rl l).map (·.2.1):=by rw [hn,Vc];exact h
  by_cases h2:z∈l.map (·.2.1)
  ·have:z=top:=by
    have:z∈t::l.map (·.2.1):= .tail _ h2;rw [p.ups] at this;rcases List.mem_append.mp this with q|q
    ·exact absurd q h
    ·simpa using q
   subst this
   conv=>lhs;unfold Q8
   rw [yi h0,ht];simp only;rw [Lh (by rw [hc,Vc];exact h2)]
  ·conv=>lhs;unfold Q8
   rw [yi h0];simp only;rw [Fh (by rw [hc,Vc];exact h2)];rw [yi h2];simp only;rw [Fh h]
theorem K8.add{left right:Dh}{w:F5}(F:K8 up es)(h0:up left=none)(hn:¬M5 es left right):K8 (f9 up left (right,w)) (es++[(left,right,w)]):=by
 refine⟨λc n y h=> ?_,λx n y h=> ?_,λz=> ?_⟩
 ·by_cases e:c=left
  ·subst e;rw [i9] at h;cases h;exact .inl (by simp)
  ·rw [e9 e] at h;exact(F.a _ _ _ h).mono λe he=>Zh _ he
 ·rcases List.mem_append.mp h with h|h
  ·have g:∀{x n},up x=some (n,y)->f9 up left (right,w) x=some (n,y):=by
    intro x n q;rw [e9 λe=>by subst e;rw [h0] at q;cases q];exact q
   exact(F.b _ _ _ h).imp g g
  ·rw [zf] at h;cases h;exact .inl i9
 ·have g:∀{z L r},w9 up z L r->w9 (f9 up left (right,w)) z L r:=λq=>q.mono λe he=>e9 λh=>by
   have:=q.edge he;rw [h,h0] at this;cases this
  obtain⟨L,r,q,hr⟩:=F.top z;by_cases e:r=left
  ·subst e;obtain⟨L2,r2,q2,hr2⟩:=F.top right;refine⟨L++(r,right,w)::L2,r2,(g q).app (.cons i9 (g q2)),?_⟩;rw [e9,hr2];intro h;subst h;exact hn (F.mM q2).symm
  ·exact⟨L,r,g q,by rw [e9 e];exact hr⟩
theorem bP.add{left right:Dh}{w:F5}(u:bP up T)(f:left∈T)(d:right∈T):bP (f9 up left (right,w)) T:=by
 refine⟨λc n y h=> ?_⟩;by_cases e:c=left
 ·subst e;rw [i9] at h;cases h;exact⟨f,d⟩
 ·rw [e9 e] at h;exact u.key _ _ _ h
theorem L7{K d:Type}[xg K]{f:K->Ah d}{k:K}{u:d}(h:f k=none):H9 (f9 f k u) k=f:=by
 funext z;by_cases e:z=k
 ·subst e;rw [Z8,h]
 ·exact rL (a8 e) (rL (e9 e) rfl)
theorem kQ:(rl l).length=l.length:=by unfold rl;simp
theorem KK{E:G9}{left right:Dh}{w:F5}(F:K8 E.up es)(u:bP E.up T)(hT:∀t∈T,f7 t=true)(hk:T.length<=1000)(h1:left∈T)(h2:right∈T)(hn:¬M5 es left right)(hl:E.trail.length<=1000000):
  ∃up' top,Mz 2 22 .st [iv left,iv right,.a9 (rZ w)] E (.a9 .none) {E with up:=up',trail:=E.trail++[.edge left top]}/\K8 up' (es++[(left,right,w)])/\bP up' T/\(up' left).isSome=true/\
   ∀{E2:G9},E2.up=up'->Mz 1 23 .st [iv top] {E2 with up:=H9 E2.up left} (iv left) {E2 with up:=E.up}:=by
 obtain⟨l,top,p,ht⟩:=F.top left;have hr:∀e∈l,f7 e.2.1=true:=λe he=>hT _ (u.key _ _ _ (p.edge he)).2;have hs:=vh (p.short F.top u) hk;have F1:=F.rev p ht;have u1:=u.rev p F.top ht;have t1:=xS F.top p ht;refine⟨f9 (Q8 E.up l) left (right,w),top,Wl (eS F.top p ht hs hr) (hT _ h1) hl,F1.add t1 hn,u1.add h1 h2,by rw [i9];rfl,λ{E2} h=> ?_⟩;rw [h,L7 t1];have q:=p.rev λe he=>cV F.top p he;have:=eS (E:={E2 with up:=Q8 E.up l}) F1.top q t1 (vh (Ph kQ) hs) λe he=>hT _ (u1.key _ _ _ (q.edge he)).2;rw [bh F.top p ht] at this;exact this
end
end
section
section
variable{E:G9}{up:Up}{es p:xh N9}{T:xh Dh}{a b c z m:Dh}{l l1 l2:xh N9}
theorem ET(F:K8 E.up es)(u:bP E.up T)(q:M5 es a b)(hT:∀t∈T,f7 t=true)(ha:f7 a=true)(hk:T.length<=1000):
  ∃L1 L2 m,w9 E.up a L1 m/\w9 E.up b L2 m/\Mz 1 24 .all [iv a,iv b] E (.a9 (.list (zs (L1.map (·.1)++L2.map (·.1))))) E/\(∀p,(∀e∈p,e∈es)->M5 p a b->∀e,e∈L1\/e∈L2->dX p e.1 e.2.1 e.2.2):=by
 obtain⟨La,za,pa,ta⟩:=F.top a;obtain⟨Lb,zb,pb,tb⟩:=F.top b;have hz:zb=za:=by
  obtain⟨z,la,lb,qa,qb,_,_⟩:=F.meet (λz' h=>h) q;have g:∀{x L t l},w9 E.up x L t->E.up t=none->w9 E.up x l z->∃l',w9 E.up z l' t:=by
   intro x L t l h1 h2 h3;rcases h1.cmp h3 with⟨l',e,r⟩|⟨l',e,r⟩
   ·obtain⟨rfl,rfl⟩:=r.stop h2;exact⟨[],.nil _⟩
   ·exact⟨_,r⟩
  obtain⟨l1,g1⟩:=g pa ta qa;obtain⟨l2,g2⟩:=g pb tb qb;exact((g1.ends g2 ta tb).2).symm
 subst hz;have hzl:zb∈a::La.map (·.2.1):=by rw [pa.ups];exact fg _ (.head _)
 obtain⟨L2,m,h1,h2,h3⟩:∃L2 m,w9 E.up b L2 m/\m∈a::La.map (·.2.1)/\∀e∈L2,e.1∉a::La.map (·.2.1):=(pb.hit).elim (λh=>absurd hzl h.2) id;have hm:∃L1 L3,La=L1++L3/\w9 E.up a L1 m/\w9 E.up m L3 zb:=by
  have h2':=h2;rw [pa.ups] at h2';rcases List.mem_append.mp h2' with h2|h2
  ·obtain⟨e,he,rfl⟩:=List.mem_map.mp h2;obtain⟨l1,l2,e1,p1,p2,_⟩:=pa.at_ he
   exact⟨l1,_,e1,p1,p2⟩
  ·exact⟨La,[],(Th _).symm,List.mem_singleton.mp h2▸pa,List.mem_singleton.mp h2▸ .nil _⟩
 obtain⟨L1,L3,e0,p1,p3⟩:=hm;have line:a::La.map (·.2.1)=L1.map (·.1)++m::L3.map (·.2.1):=by
  rw [pa.ups,p3.ups,e0,bg,ag]
 have M:=Ul pa ta h1 (λe he=>hT _ (u.key _ _ _ (pa.edge he)).2) ha (pa.IX F.top) (by rw [line];exact AQ (p1.nodup F.top).2) h3 (vh (pa.short F.top u) hk) (vh (h1.short F.top u) hk);refine⟨L1,L2,m,p1,h1,?_,λp hp hq=>F.within hp hq p1 h1 λe he l hl=>h3 e he ?_⟩
 ·rw [line,List.take_left'] at M
  ·exact M
  ·rfl
 ·rw [pa.ups];rcases hl.cmp pa with⟨l',e',r⟩|⟨l',e',r⟩
  ·rw [e'];cases r with
   |nil=>exact fg _ (.head _)
   |cons g r=>exact Zh _ (List.mem_map.mpr ⟨_,fg _ (.head _),rfl⟩)
  ·exact fg _ (List.mem_singleton.mpr (r.stop ta).2)
end
theorem T2{t x y:Dh}(h:Ap t x)(g:Ap t y):x=y:=(by decide:∀p∈t8,∀q∈t8,p.1=q.1->p.2=q.2) _ h _ g rfl
theorem o0{t x:Dh}(h:Ap t x):t∈TT/\x∈TT/\x<t:=(by decide:∀p∈t8,p.1∈TT/\p.2∈TT/\p.2<p.1) _ h
theorem O1:∀t∈TT,f7 t=true:=by decide
def Cl(R:Dh->Dh->Prop)(a b:Dh):Prop:=∀(α:Type) (f:Dh->α),(∀x y,R x y->f x=f y)->(∀a b x y,Ap a x->Ap b y->sy a=sy b->f x=f y->f a=f b)->f a=f b
abbrev u9:=Dh×Dh×Dh
def Fs(fs:xh u9)(M:xh Dh)(a b:Dh):Prop:=∃m,(a,b,m)∈fs/\(m=0\/m∈M)
def QT(fs:xh u9)(R:Dh->Dh->Prop)(x z:Dh):F5->Prop
 | .mk m=>(x,z,m)∈fs\/(z,x,m)∈fs
 | .args=>∃a b,Ap x a/\Ap z b/\sy x=sy z/\R a b
theorem QT.mono{fs d:xh u9}{R e:Dh->Dh->Prop}{x z:Dh}{y:F5}(g:∀f∈fs,f∈d)(h:∀a b,R a b->e a b)(j:QT fs R x z y):QT d e x z y:=match y,j with
 | .mk _,j=>j.imp (g _) (g _)
 | .args,⟨a,b,k,n,o,i⟩=>⟨a,b,k,n,o,h a b i⟩
theorem QT.symm{fs:xh u9}{R:Dh->Dh->Prop}{x z:Dh}{y:F5}(h:∀a b,R a b->R b a)(j:QT fs R x z y):QT fs R z x y:=match y,j with
 | .mk _,j=>Or.symm j
 | .args,⟨a,b,e,f,g,d⟩=>⟨b,a,f,e,g.symm,h a b d⟩
def EJ(fs:xh u9)(es:xh N9):Prop:=∀p e q,es=p++e::q->QT fs (M5 p) e.1 e.2.1 e.2.2
structure Ex where
 work:xh (Dh×Dh)
 seen:xh Dh
 found:xh Dh
structure mY fs up es:Prop where
 F:K8 up es
 u:bP up TT
 j:EJ fs es
section
variable{fs:xh u9}{E:G9}{es:xh N9}{a b a0 b0:Dh}{x:Ex}{rest:xh Dh}{y6 y7:Dh}
theorem EJ.of(j:EJ fs es){c n:Dh}{y:F5}(h:dX es c n y):QT fs (M5 es) c n y:=by
 have g:∀{c n},(c,n,y)∈es->QT _ (M5 es) c n y:=λh=>(List.append_of_mem h).elim λp q=>q.elim λq e=>(j p _ q e).mono (λz' h=>h) λa b c=>c.mono λf d=>by refine rL e ?_;exact Zh _ d
 exact h.elim g λh=>(g h).symm λz' z'=>M5.symm
inductive QI(up:Up)(es:xh N9)(a b:Dh)(S:Dh->Prop):Prop
 |mk (L1 L2:xh N9) (m:Dh) (p1:w9 up a L1 m) (p2:w9 up b L2 m) (hin:∀p,(∀e∈p,e∈es)->M5 p a b->∀e,e∈L1\/e∈L2->dX p e.1 e.2.1 e.2.2) (hs:∀e,e∈L1\/e∈L2->S e.1)
theorem QI.mono{up:Up}{S d:Dh->Prop}(h:∀c,S c->d c)(c:QI up es a b S):QI up es a b d:=c.casesOn λi L m f p g hs=>⟨i,L,m,f,p,g,λe q=>h _ (hs e q)⟩
def Wk(E:G9)(es:xh N9)(rest:xh Dh)(x:Ex)(p q:Dh):Prop:=(p,q)∈x.work\/QI E.up es p q λc=>c∈x.seen\/c∈rest
def ax(f:xh Dh)(W:Dh->Dh->Prop)(c n:Dh):F5->Prop
 | .mk m=>m=0\/m∈f
 | .args=>∃a b,Ap c a/\Ap n b/\W a b
theorem ax.mono{f d:xh Dh}{W e:Dh->Dh->Prop}{c n:Dh}{y:F5}(k:∀m∈f,m∈d)(h:∀a b,W a b->e a b)(t:ax f W c n y):ax d e c n y:=match y,t with
 | .mk _,t=>t.imp id (k _)
 | .args,⟨a,b,i,j,g⟩=>⟨a,b,i,j,h a b g⟩
structure W2(fs:xh u9) E es(a0 b0) rest(x:Ex):Prop where
 s1:x.seen.Nodup/\∀c∈x.seen,c∈TT
 s2:x.found.Nodup/\x.found.length<=x.seen.length/\∀m∈x.found,m≠0/\∃u v,(u,v,m)∈fs
 s3:∀w∈x.work,M5 es w.1 w.2/\w.1∈TT/\w.2∈TT
 s5:∀c∈x.seen,∀n y,E.up c=some (n,y)->ax x.found (Wk E es rest x) c n y
 s6:Wk E es rest x a0 b0
def Ex.mu(x:Ex):Mh:=x.work.length+(11-x.seen.length)
def bL(f:xh Dh)(r:Dh):xh Dh:=if r=0 then f else aL f r
theorem FJ{f:xh Dh}{r z:Dh}(h:z∈bL f r):z∈f\/(z=r/\r≠0):=by
 unfold bL aL at h;split at h
 ·exact .inl h
 ·rename_i e;split at h
  ·exact .inl h
  ·exact(List.mem_append.mp h).imp id λm=>⟨List.mem_singleton.mp m,e⟩
theorem CJ{f:xh Dh}{r z:Dh}(h:z∈f):z∈bL f r:=by
 unfold bL aL;split
 ·exact h
 ·split
  ·exact h
  ·exact Zh _ h
theorem DJ{f:xh Dh}{r:Dh}:r=0\/r∈bL f r:=by
 unfold bL aL;split
 ·rename_i e;exact .inl e
 ·split
  ·rename_i h;exact .inr h
  ·exact .inr (fg _ (.head _))
theorem WE{f:xh Dh}{r:Dh}(h:f.Nodup):(bL f r).Nodup/\(bL f r).length<=f.length+1:=by
 unfold bL aL;split
 ·exact⟨h,Vg _⟩
 ·split
  ·exact⟨h,Vg _⟩
  ·rename_i q;exact⟨b7 h q,Ph Ch⟩
def Rq(P:w8)(g:q9)(K:O8)(E:G9)(a b y6 y7:Dh)(x:Ex):IC:=⟨ZF a b y6 y7,oR x.work x.seen x.found,hp P g K E⟩
theorem i8{d:Type}{l:xh d}{x y:d}(h:x∈l++[y]):x∈l\/x=y:=(List.mem_append.mp h).imp id List.mem_singleton.mp
theorem W2.skip{c:Dh}{cs:xh Dh}(I:W2 fs E es a0 b0 (c::cs) x)(f:c∈x.seen):W2 fs E es a0 b0 cs x:=
 have m:=λz' z'=> .imp id (QI.mono λd q=>q.elim .inl λq=>(List.mem_cons.mp q).elim (λe=> .inl (e▸f)) .inr)
 ⟨I.s1,I.s2,I.s3,λd hd n y h=>(I.s5 d hd n y h).mono (λz' h=>h) m,m _ _ I.s6⟩
theorem W2.step{c m:Dh}{cs fo:xh Dh}{y:F5}{wk:xh (Dh×Dh)}(I:W2 fs E es a0 b0 (c::cs) x)(hc:c∉x.seen)(hT:c∈TT)(hu:E.up c=some (m,y))(f1:fo.Nodup/\fo.length<=x.found.length+1)(f2:∀m∈fo,m∈x.found\/m≠0/\∃u v,(u,v,m)∈fs)(f3:∀m∈x.found,m∈fo)(w1:∀w∈wk,w∈x.work\/M5 es w.1 w.2/\w.1∈TT/\w.2∈TT)(w2:∀w∈x.work,w∈wk)
  (t:ax fo (λp q=>(p,q)∈wk) c m y):W2 fs E es a0 b0 cs ⟨wk,x.seen++[c],fo⟩:=
 have mo:∀p q,Wk E es (c::cs) x p q->Wk E es cs ⟨wk,x.seen++[c],fo⟩ p q:=λz' z'=> .imp (w2 _) (QI.mono λd q=>q.elim (λq=> .inl (Zh _ q)) λq=>(List.mem_cons.mp q).elim (λe=> .inl (e▸fg _ (.head _))) .inr)
 ⟨⟨b7 I.s1.1 hc,λd hd=>(i8 hd).elim (I.s1.2 d) λe=>e▸hT⟩,⟨f1.1,vh f1.2 (vh (Vh I.s2.2.1) (Ph (Ch (bs:=[c])).symm)),λz h=>(f2 z h).elim (I.s2.2.2 z) id⟩,λw h=>(w1 w h).elim (I.s3 w) id,
  λd hd n w h=>(i8 hd).elim (λhd=>(I.s5 d hd n w h).mono f3 mo) λe=>by
   rw [e,hu] at h;have h:=sf (Bh h);rw [e,<-h.1,<-h.2];exact t.mono (λz' h=>h) λz' z'=> .inl,mo _ _ I.s6⟩
theorem QL{c:Dh}{s:xh Dh}(h:s.Nodup/\∀d∈s,d∈TT)(f:c∉s)(g:c∈TT):s.length+1<=11:=
 S8 (List.nodup_cons.mpr ⟨f,h.1⟩) λd hd=>(List.mem_cons.mp hd).elim (λe=>e▸g) (h.2 d)
theorem FQ(R:mY fs E.up es):∀{x},W2 fs E es a0 b0 rest x->(∀c∈rest,∃e,E.up c=some e)->x.mu<=1000->∃s,W2 fs E es a0 b0 [] s/\s.mu<=x.mu/\∀{P g K k},BK K->k .next (Rq P g K E a b y6 y7 s)->
  lp ((A9 P 1 EO).b (.all,[])) (N5 true [8]) (IC.keep [0,1,2,3,4,5,6,7]) k (rest.map iv) (Rq P g K E a b y6 y7 x):=by
 induction rest with
 |nil=>exactλI z' z'=>⟨_,I,Oh _,λz' n=>n⟩
 |cons c _ v=>
  intro x I A hm;have o:=λd (hd)=>A d (.tail _ hd);by_cases r:c∈x.seen
  ·refine(v (I.skip r) o hm).imp λs h=>⟨h.1,h.2.1,λ{P g K k} hB n=>ej r λρ' e=> ?_⟩;exact k8 (h.2.2 hB n) e
  ·refine(A c (.head _)).elim λe t=> ?_;have j:=R.u.key _ _ _ t;have f:=R.j.of (R.F.a _ _ _ t);have u:=QL I.s1 r j.1;have hsz:(x.seen++[c]).length=x.seen.length+1:=Ch;have hw:=vh (Qh _ _) hm;cases e with|mk d y=>cases y with
   |mk m=>
    have i:(⟨x.work,x.seen++[c],bL x.found m⟩:Ex).mu<=x.mu:=by
     show x.work.length+(11-(x.seen++[c]).length)<=x.work.length+_;refine rL hsz ?_;exact Sh (Nat.sub_le_sub_left (Vg _) _) _
    refine(v (I.step r j.1 t (WE I.s2.1) (λz hz=>(FJ hz).imp id λ(e:z=m/\m≠0)=>e.1▸⟨e.2,f.elim (λh=>⟨_,_,h⟩) λh=>⟨_,_,h⟩⟩) (λz'=>CJ) (λz'=> .inl) (λz' h=>h) DJ) o (vh i hm)).imp λs h=>
     ⟨h.1,vh h.2.1 i,λ{P g K k} hB n=>dj r (O1 c j.1) t (vh I.s2.2.1 (vh (cf u) (by decide))) λρ' e=> ?_⟩
    exact k8 (h.2.2 hB n) e
   |args=>
    refine f.elim λp f=>f.elim λq f=> ?_;have i:(⟨x.work++[(p,q)],x.seen++[c],x.found⟩:Ex).mu<=x.mu:=by
     show(x.work++[(p,q)]).length+(11-(x.seen++[c]).length)<=x.work.length+(11-x.seen.length);refine rL hsz (rL Ch ?_);show x.work.length+1+_<=_;rw [Wg,af 1];exact Sh (Nat.sub_lt_sub_left u (uf _)) _
    refine(v (I.step r j.1 t ⟨I.s2.1,Vg _⟩ (λz'=> .inl) (λz' h=>h) (λw hw=>(i8 hw).imp id λ(e:w=(p,q))=>e▸⟨f.2.2.2,(o0 f.1).2.1,(o0 f.2.1).2.1⟩) (λz'=>Zh _) ⟨p,q,f.1,f.2.1,fg _ (.head _)⟩) o (vh i hm)).imp λs h=>
     ⟨h.1,vh h.2.1 i,λ{P g K k} hB n=>cj hB r (O1 c j.1) t f.1 f.2.1 (vh hw (by decide)) λρ' e=> ?_⟩
    exact k8 (h.2.2 hB n) e
def Qq(P:w8)(g:q9)(K:O8)(E:G9)(a b:Dh)(x:Ex):IC:=⟨[(0,.g9 .house),(1,iv a),(2,iv b),(3,.g9 (.W8 0)),(4,.g9 (.W8 1)),(5,.g9 (.W8 2))],oR x.work x.seen x.found,hp P g K E⟩
theorem wX{l:xh (Dh×Dh)}:((l.map qY).map AV.a9).length=l.length:=(Eh _).trans (Eh _)
theorem GQ(R:mY fs E.up es):∀{N x},W2 fs E es a0 b0 [] x->x.mu<=1000->x.mu<N->∃s,W2 fs E es a0 b0 [] s/\s.work=[]/\∀{P g K k},BK K->k .next (Qq P g K E a b s)->
  wh ((A9 P 1 (.cmp .gt (.blt .len (.cons (.var 3) (.nil))) (.con (.int 0)))).t (.all,[])) ((A9 P 1 (.g6 [6,7] (.lm (.var 3) .pop (.nil)) (.UZ false [8] true (.met (.var 0) 24 (.cons (.var 6) (.cons (.var 7) (.nil)))) EO [0,1,2,3,4,5,6,7] (.nil)))).b (.all,[])) (IC.keep [0,1,2,3,4,5]) k N (Qq P g K E a b x):=by
 intro N;induction N with
 |zero=>exactλz' z' h=>absurd h (pc _)
 |succ N O=>
  intro x I hm J;have o:=vh (Qh _ _) hm;have G:((x.work.map _).map _).length<=1000000:=vh (Ph wX) (vh o (by decide));refine(List.eq_nil_or_concat _).elim (λhw=>⟨x,I,hw,λ{P g K k} hB v=>⟨G,v9 (Xh (by refine rL wX (rL hw ?_);decide)) v⟩⟩) λhw=>hw.elim λr hw=>hw.elim λw hw=> ?_;rw [List.concat_eq_append] at hw;have f:=hw▸Ch;have j:=I.s3 w (hw▸fg _ (.head _));obtain⟨H,L,m,D,C,M,B⟩:=ET R.F R.u j.1 O1 (O1 _ j.2.1) (by decide);have F:∀p q,Wk E _ [] x p q->Wk E es (H.map (·.1)++L.map (·.1)) ⟨r,x.seen,x.found⟩ p q:=λp q h=>h.elim (λh=>(i8 (hw▸h)).imp id λh=>by
   cases h
   exact⟨H,L,m,D,C,B,λe i=> .inr (i.elim (λi=>Zh _ (Mb i)) λi=>fg _ (Mb i))⟩) λh=> .inr (h.mono λd q=>q.imp id λq=>(by nomatch q))
  haveI Q:W2 _ E _ _ _ _ ⟨r,x.seen,x.found⟩:=
   ⟨I.s1,I.s2,λV h=>I.s3 _ (hw▸Zh _ h),λd hd S y h=>(I.s5 d hd _ y h).mono (λz' h=>h) F,F _ _ I.s6⟩
  have n:(⟨r,x.seen,x.found⟩:Ex).mu+1=x.mu:=by
   show r.length+(11-x.seen.length)+1=x.work.length+_;refine rL f ?_;exact Gg ..
  refine(FQ (a:=a) (b:=b) (y6:=w.1) (y7:=w.2) R Q (λc j=>(List.mem_append.mp j).elim (λj=>(List.mem_map.mp j).elim λe i=>i.2▸⟨_,D.edge i.1⟩) λj=>(List.mem_map.mp j).elim λe i=>i.2▸⟨_,C.edge i.1⟩) (vh (Vg _) (vh (Ph n) hm))).elim λU A=> ?_;haveI hx:=A.2.1;refine(O A.1 (vh hx (vh (Vg _) (vh (Ph n) hm))) (eg hx (Mf (eg (Ph n) J)))).imp λs u=>⟨u.1,u.2.1,λ{P g K k} hB v=>⟨G,?_⟩⟩;refine D9 (Rh (rL wX (rL f (Int.natCast_pos.mpr (Lf _))))) (⟨(r.map _).map .a9,.a9 _,by refine rL hw ?_;exact s7.symm,vh (Ph wX) (vh (cf (f▸o)) (by decide)),?_⟩);refine V8 (M P g K hB λz' z' q=>Bool.noConfusion q) rt ?_;show lp _ _ _ _ _ _;exact Z7▸A.2.2 hB (T5 (u.2.2 hB v) rfl)
theorem w9.EA{d:Type}{f:Dh->d}{up:Up}{m:Dh}{L:xh N9}(p:w9 up a L m)(h:∀e∈L,f e.1=f e.2.1):f a=f m:=by
 induction p with
 |nil=>rfl
 |cons g _ i=>exact(h _ (.head _)).trans (i λe j=>h e (.tail _ j))
theorem QI.EA{k:Type}{f:Dh->k}{S:Dh->Prop}{p:xh N9}{up:Up}(c:QI up es a b S)(hp:∀e∈p,e∈es)(q:M5 p a b)(h:∀c n y,S c->up c=some (n,y)->dX p c n y->f c=f n):f a=f b:=c.casesOn λL z' m i g j hs=>
 (i.EA λe d=>h _ _ _ (hs e (.inl d)) (i.edge d) (j p hp q e (.inl d))).trans (g.EA λe d=>h _ _ _ (hs e (.inr d)) (g.edge d) (j p hp q e (.inr d))).symm
theorem W2.oy{α:Type}{f:Dh->α}(P:mY fs E.up es)(I:W2 fs E es a0 b0 [] x)(hw:x.work=[])(h1:∀u v,Fs fs x.found u v->f u=f v)(h2:∀a b x y,Ap a x->Ap b y->sy a=sy b->f x=f y->f a=f b){r:xh N9}:∀(p:xh N9),es=r.reverse++p->∀c n y,(c∈x.seen\/c∈([]:xh Dh))->E.up c=some (n,y)->dX r.reverse c n y->f c=f n:=by
 induction r with
 |nil=>exactλz' z' z' z' z' z' z' h=>h.elim (λh=>(by nomatch h)) λh=>(by nomatch h)
 |cons e r ih=>
  intro p he c n y hc hu h;rw [Oe] at h;rw [Oe,ag] at he;have hc':=hc.elim id λh=>(by nomatch h);have J:∀{c n},(c,n,y)∈r.reverse++[e]->dX r.reverse c n y\/QT fs (M5 r.reverse) c n y:=λh=>(i8 h).imp .inl λq=>by
   have:=P.j _ _ _ he;rw [<-q] at this;exact this
  refine(h.elim J λh=>(J h).imp Or.symm λh=>h.symm λz' z'=>M5.symm).elim (ih _ he c n y hc hu) λJ=> ?_;have t:=I.s5 c hc' n y hu;cases y with
  |mk m=>exact J.elim (λg=>h1 _ _ ⟨m,g,t⟩) λg=>(h1 _ _ ⟨m,g,t⟩).symm
  |args=>exact J.elim λa J=>J.elim λb J=>t.elim λa' t=>t.elim λb' t=>h2 c n a b J.1 J.2.1 J.2.2.1 (by
    rw [T2 J.1 t.1,T2 J.2.1 t.2.1] at*;exact t.2.2.elim (λz=>by rw [hw] at z;exact(by nomatch z)) λc=>c.EA (λf hf=>by rw [he];exact Zh _ hf) J.2.2.2 (ih _ he))
def Told(fs:xh u9)(a b:Dh)(l:xh Dh):Prop:=∃found:xh Dh,l=Ja found/\found.Nodup/\found.length<=11/\(∀m∈found,m≠0/\∃u v,(u,v,m)∈fs)/\Cl (Fs fs found) a b
theorem NK(l:xh Dh):(dy l).map (·.1)=l:=(jg ..).trans (Ma l)
theorem C3(R:mY fs E.up es){r:Dh}(u:E.root a=some r)(v:E.root b=some r)(k:M5 es a b)(j:a∈TT)(i:b∈TT):∃l,Mz 2 25 .all [iv a,iv b] E (.a9 (.list (zs l))) E/\Told fs a b l:=by
 haveI I:W2 fs E es a b [] {work:=[(a,b)],seen:=[],found:=[]}:=
  ⟨⟨Ig,(λz' h=>(by nomatch h))⟩,⟨Ig,Oh _,(λz' h=>(by nomatch h))⟩,λw hw=>List.mem_singleton.mp hw▸⟨k,j,i⟩,(λz' h=>(by nomatch h)),.inl (.head _)⟩
 refine(GQ (a:=a) (b:=b) R I (by decide:1+(11-0)<=1000) (by decide:1+(11-0)<52)).elim λx h=> ?_;haveI d:=vh h.1.s2.2.1 (S8 h.1.s1.1 h.1.s1.2);refine⟨Ja _,λP g K hB z'=> ?_,x.found,rfl,h.1.s2.1,d,h.1.s2.2.2,λA f s q=> ?_⟩
 ·refine enter Sj rt rt ?_;refine k9 (Q9 u) (k9 (Q9 v) ?_);refine v9 (j6 rfl) (⟨λy z=>(List.mem_singleton.mp z)▸trivial,?_⟩);refine⟨(λz' z' e=>(by nomatch e)),?_⟩;refine⟨(λz' m=>(by nomatch m)),?_⟩;refine⟨52,T5 (h.2.2 hB ?_) rfl⟩;exact⟨vh (Ph (Eh _)) (vh d (by decide)),(⟨x.found,yh zs (NK x.found),eg d (by decide),done⟩)⟩
 ·haveI e:es=es.reverse.reverse++[]:=by rw [gc,Th]
  exact h.1.s6.elim (λz=>by rw [h.2.1] at z;exact(by nomatch z)) λc=>c.EA (λz' h=>h) k λc n y hs o t=>h.1.oy R h.2.1 s q [] e c n y hs o (by rw [gc];exact t)
end
end
section
variable{C:Cor}{E:G9}{x:Ent}{n:Mh}{t a b o v r s:Dh}{κ:LK}{f:LK×Dh->Ah (xh Jh)}{Ll Ls:LK->xh Jh}{ln:LK->Mh}{l1 l2:xh Jh}{d:Jh}
theorem DQ{K c:Type}[xg K]{f:K->Ah c}{k:K}{u:c}(h:f k=some u):f9 (H9 f k) k u=f:=funext λz=>by
 by_cases e:z=k
 ·exact rL e (rL i9 (rL h rfl))
 ·exact rL (e9 e) (rL (a8 e) rfl)
theorem I7{K c:Type}[xg K]{f:K->Ah c}{k:K}{u v:c}(h:f k=some u):f9 (f9 f k v) k u=f:=funext λz=>by
 by_cases e:z=k
 ·exact rL e (rL i9 (rL h rfl))
 ·exact rL (e9 e) (rL (e9 e) rfl)
theorem CQ{K c:Type}[xg K]{f:K->Ah c}{k:K}{u:c}(h:f k=some u):f9 f k u=f:=funext λz=>by
 by_cases e:z=k
 ·exact rL e (rL i9 (rL h rfl))
 ·exact rL (e9 e) rfl
theorem WY{K c:Type}[xg K]{f:K->Ah c}{k j:K}{u v:c}(n:k≠j):f9 (f9 f k u) j v=f9 (f9 f j v) k u:=funext λz=>by
 by_cases e:z=k
 ·refine rL (e9 (e▸n)) ?_;rw [e,i9,i9]
 ·refine rL (e9 e) ?_;by_cases g:z=j
  ·exact rL g (rL i9 (rL i9 rfl))
  ·refine rL (e9 g) ?_;rw [e9 g,e9 e]
theorem xX{κ κ':LK}(e:s≠t):(κ,s)≠(κ',t):=λz=>e (yh (·.2) z)
theorem uV{κ κ':LK}(e:κ≠κ'):(κ,s)≠(κ',t):=λz=>e (yh (·.1) z)
theorem bW{A:LK->xh Jh}:f9 (f9 (f9 (f9 f (.mem,t) (A .mem)) (.use,t) (A .use)) (.Z9,t) (A .Z9)) (.C9,t) (A .C9) (κ,s)=if s=t then some (A κ) else f (κ,s):=by
 by_cases e:s=t
 ·rw [Lh e,e];cases κ with
  |mem=>rw [e9 (uV LK.noConfusion),e9 (uV LK.noConfusion),e9 (uV LK.noConfusion),i9]
  |use=>rw [e9 (uV LK.noConfusion),e9 (uV LK.noConfusion),i9]
  |Z9=>rw [e9 (uV LK.noConfusion),i9]
  |C9=>rw [i9]
 ·rw [Fh e,e9 (xX e),e9 (xX e),e9 (xX e),e9 (xX e)]
theorem D2:A3 f t Ll Ls (κ,s)=if s=t then some (Ll κ++Ls κ) else f (κ,s):=bW (A:=λκ=>Ll κ++Ls κ)
theorem eJ:gM f t Ll ln (κ,s)=if s=t then some ((Ll κ).take (ln κ)) else f (κ,s):=bW (A:=λκ=>(Ll κ).take _)
def mK(t:Dh):LK->xh Jh
 | .mem=>zs [t]
 |_=>[]
theorem G4:Z1 f t (κ,s)=if s=t then some (mK t κ) else f (κ,s):=bW (A:=mK t)
theorem cJ:ZN f t (κ,s)=if s=t then none else f (κ,s):=by
 unfold ZN;by_cases e:s=t
 ·refine rL (Lh e) (rL e ?_);cases κ with
  |mem=>rw [a8 (uV LK.noConfusion),a8 (uV LK.noConfusion),a8 (uV LK.noConfusion),Z8]
  |use=>rw [a8 (uV LK.noConfusion),a8 (uV LK.noConfusion),Z8]
  |Z9=>rw [a8 (uV LK.noConfusion),Z8]
  |C9=>rw [Z8]
 ·refine rL (Fh e) ?_;rw [a8 (xX e),a8 (xX e),a8 (xX e),a8 (xX e)]
theorem uL(h:C.tab [a,b]=none):Un (.table [a,b] none) {C with tab:=f9 C.tab [a,b] t} C [] []:=λE=>by
 haveI q:=Vv (E:=E.at {C with tab:=f9 C.tab [a,b] t}) (yh _ i9);rw [L7 h] at q;exact q
theorem tL(h:C.tab [a,b]=some t)(e:f7 a=true)(g:f7 b=true):Un (.table [a,b] (some t)) {C with tab:=H9 C.tab [a,b]} C [] []:=λE=>by
 haveI q:=Uv (E:=E.at {C with tab:=H9 C.tab [a,b]}) (o:=t) e g;rw [DQ h] at q;exact q
theorem zL{left t:Dh}{up':Up}(hs:(up' left).isSome=true)(h:∀{c:G9},c.up=up'->Mz 1 23 .st [iv t] {c with up:=H9 c.up left} (iv left) {c with up:=C.up}):Un (.edge left t) {C with up:=up'} C [] []:=λE=>Yv hs (h rfl)
abbrev Cor.new(C:Cor)(t v:Dh):Cor:={C with root:=f9 C.root t t,ls:=Z1 C.ls t,val:=f9 C.val t v}
theorem AR(c:C.root t=none)(hm:∀κ,C.ls (κ,t)=none)(h:C.val t=none):(C.new t v).del t=C:=by
 show({C with root:=H9 _ t,ls:=ZN _ t,val:=H9 _ t})=C;rw [L7 c,L7 h,show ZN (Z1 _ t) t=C.ls from funext λp=>by
  cases p with|mk _ s=>
  refine rL cJ (rL G4 ?_);by_cases e:s=t
  ·refine rL (Lh e) ?_;rw [e,hm]
  ·refine rL (Fh e) ?_;rw [Fh e]]
theorem KV:(Z1 f t (κ,t)).isSome=true:=by refine rL G4 (rL (Lh rfl) ?_);rfl
theorem yL(e:C.root t=none)(hm:∀κ,C.ls (κ,t)=none)(h:C.val t=none):Un (.enter t []) (C.new t v) C [t] []:=λE=>by
 haveI q:=IA (Qv (E:=E.at (C.new t v)) (yh _ i9) (λz'=>KV) (yh _ i9));exact(yh (λc=>MT _ _ _ _ _) (AR e hm h)).mp q
theorem wL{h:Dh}{l:xh Dh}(u:C.root t=none)(hm:∀κ,C.ls (κ,t)=none)(w:C.val t=none)(hn:h≠t)(p:C.ls (.use,h)=some (zs l))(hl:l.length<=1000000):Un (.enter t [h]) {C.new t v with ls:=f9 (Z1 C.ls t) (.use,h) (zs (l++[t]))} C [t] []:=λE=>by
 haveI e:f9 (f9 _ _ (zs (l++[t]))) _ _=Z1 _ t:=I7 (G4.trans ((Fh hn).trans p));have q:=IA (Sv (E:=E.at {C.new t v with ls:=f9 _ _ _}) i9 hl (yh _ i9) (λκ=>(yh (λf=>(f (κ,t)).isSome) e).trans KV) (yh _ i9));exact(yh (λc=>MT _ _ _ _ _) (AR u hm w)).mp (e▸q)
def P0(f:Dh->Ah Dh)(l:xh Dh)(x:Dh):Dh->Ah Dh:=λz=>if z∈l then some x else f z
theorem PU{x:Dh}{l:xh Dh}:∀{f},V4 l x f=P0 f l x:=by
 induction l with
 |nil=>exactλ{f}=>funext λz=>(Fh (λh=>(by nomatch h))).symm
 |cons t g i=>
  exactλ{f}=>(i (f:=f9 f t x)).trans (funext λz=>by
   unfold P0;by_cases q:z∈g
   ·exact rL (Lh q) (rL (Lh (ve _ q)) rfl)
   ·rw [Fh q];by_cases e:z=t
    ·exact rL e (rL i9 (rL (Lh (List.mem_cons_self)) rfl))
    ·refine rL (e9 e) ?_;rw [Fh λh=>(List.mem_cons.mp h).elim e q])
theorem zJ{f:Dh->Ah Dh}{l:xh Dh}{x y:Dh}(h:∀t∈l,f t=some y):V4 l y (P0 f l x)=f:=PU.trans (funext λz=>by
 unfold P0;by_cases q:z∈l
 ·exact rL (Lh q) (rL (h z q) rfl)
 ·refine rL (Fh q) ?_;rw [Fh q])
theorem vL{small large v:Dh}{m2:xh Dh}{V:Dh->Ah Dh}(y:small≠large)(B:∀κ,C.ls (κ,large)=some (Ll κ))(w:f9 V large v=C.val)(l:C.ls (.mem,small)=some (zs m2))(u:∀t∈m2,C.root t=some small)
  (z:f7 large=true) (m:∀t∈m2,f7 t=true) (A:∀κ,(Ll κ++Ls κ).length<=1000000):
  Un (.join small large (λκ=>(Ll κ).length) v) {C with root:=P0 C.root m2 large,ls:=A3 C.ls large Ll Ls,val:=V} C [] []:=λE=>by
 have e:gM (A3 _ _ Ll Ls) _ (λκ=>Ll _++Ls κ) _=C.ls:=funext λp=>by
  cases p with|mk _ s=>
  rw [eJ,D2];by_cases e:s=large
  ·refine rL (Lh e) ?_;rw [e,B,List.take_left]
  ·exact rL (Fh e) (rL (Fh e) rfl)
 haveI q:=Wv (Nl (E:=E.at {C with root:=P0 C.root m2 large,ls:=A3 _ _ _ _,val:=V}) (v:=v) (λκ=>D2.trans (Lh rfl)) A z (e.symm▸l) m);exact(yh (λc=>MT _ _ _ [] []) (show({C with root:=V4 _ _ _,ls:=gM _ _ _ λκ=>(Ll _).length,val:=f9 V _ v})=C by rw [e,w,zJ u])).mp q
theorem vP(hn:a≠b)(i:C.ls (.Z9,a)=some l1)(h:C.ls (.Z9,b)=some l2)(b1:l1.length<=1000000)(b2:l2.length<=1000000):Un (.apart a b) {C with ls:=f9 (f9 C.ls (.Z9,a) (l1++[d])) (.Z9,b) (l2++[d])} C [] []:=λE=>by
 haveI n:((LK.Z9,a))≠(.Z9,b):=xX hn;haveI q:=Zv (E:=E.at {C with ls:=f9 (f9 C.ls _ (l1++[d])) _ (l2++[d])}) ((e9 n).trans i9) ((e9 n.symm).trans i9) b1 b2;haveI e:f9 (f9 (f9 (f9 C.ls (.Z9,a) (l1++[d])) (.Z9,b) (l2++[d])) (.Z9,a) l1) (.Z9,b) l2=C.ls:=by
  refine rL (WY n) ?_;rw [I7 ((e9 n.symm).trans h),I7 i]
 rw [e] at q;exact q
def L4(f:LK×Dh->Ah (xh Jh))(t a b:Dh)(us vs:xh Dh):LK×Dh->Ah (xh Jh):=if a=b then f9 f (.C9,a) (zs (us++[t])) else f9 (f9 f (.C9,a) (zs (us++[t]))) (.C9,b) (zs (vs++[t]))
theorem uP{us vs:xh Dh}(z:C.ls (.C9,a)=some (zs us))(A:a≠b->C.ls (.C9,b)=some (zs vs))(hs:C.P9 t=none)(b1:us.length<=1000000)(b2:a≠b->vs.length<=1000000):Un (.watch t a b) {C with P9:=f9 C.P9 t (r,s),ls:=L4 C.ls t a b us vs} C [] [(t,r,s)]:=λE=>by
 by_cases e:a=b
 ·have e1:L4 _ t a b us vs=f9 C.ls _ _:=Lh e;have q:=HA i9 (Dq (s:=t) (E:=E.at {C with P9:=f9 C.P9 t (r,s),ls:=L4 _ t a b _ _}) ((yh (λf=>f (LK.C9,a)) e1).trans i9) (λn=>(n e).elim) (yh _ i9) b1 b2);rw [Lh e] at q;exact(yh (λc=>MT _ _ _ _ _) (show({C with P9:=H9 (f9 _ t _) t,ls:=f9 (L4 _ t a b _ _) _ _})=C by rw [e1,I7 z,L7 hs])).mp q
 ·haveI y:((LK.C9,a))≠(.C9,b):=xX e;have e1:L4 C.ls t a b us vs=f9 _ _ _:=Fh e;have q:=HA i9 (Dq (E:=E.at {C with P9:=f9 C.P9 t (r,s),ls:=L4 _ t a b _ _}) ((yh (λf=>f (LK.C9,a)) e1).trans ((e9 y).trans i9)) (λz'=>(yh (λf=>f9 f _ _ _) e1).trans ((e9 y.symm).trans i9)) (yh _ i9) b1 b2);rw [Fh e] at q;exact(yh (λc=>MT _ _ _ _ _) (show({C with P9:=H9 (f9 _ t _) t,ls:=f9 _ _ _})=C by rw [e1,WY y,I7 ((e9 y.symm).trans (A e)),I7 z,L7 hs])).mp q
theorem sL{o:Ah o8}(h:C.d8 t=none):Un (.told t) {C with d8:=f9 C.d8 t o} C [] []:=λE=>by
 haveI q:=Tv (E:=E.at {C with d8:=f9 C.d8 t o}) (yh _ i9);rw [L7 h] at q;exact q
end
section
variable{E:G9}{fs:xh u9}{ρ ρ':Dh->Ah Dh}{Q Q':xh N9}{t x r a b o s y:Dh}{us:xh Dh}{tb:xh Dh->Ah Dh}
def F6(c:Dh->Ah Dh)(a b:Dh):Prop:=∃r,c a=some r/\c b=some r
theorem F6.symm(h:F6 ρ a b):F6 ρ b a:=h.imp λz' h=>⟨h.2,h.1⟩
theorem F6.of(h:Kn ρ a)(e:ρ a=ρ b):F6 ρ a b:=h.imp λz' h=>⟨h,e.symm.trans h⟩
def Tab(d:Dh->Ah Dh)(c:xh Dh->Ah Dh):Prop:=∀m t,c m=some t->Kn d t/\∃x r,Ap t x/\d x=some r/\m=[sy t,r]
def Pq(ρ:Dh->Ah Dh)(Q:xh N9)(a b:Dh):Prop:=∀(α:Type) (f:Dh->α),(∀x y,F6 ρ x y->f x=f y)->(∀e∈Q,f e.1=f e.2.1)->f a=f b
theorem Pq.mono(h:∀x y,F6 ρ x y->F6 ρ' x y)(g:∀e∈Q,Pq ρ' Q' e.1 e.2.1)(p:Pq ρ Q a b):Pq ρ' Q' a b:=λi f c d=>p _ f (λx y e=>c x y (h x y e)) λe m=>g e m _ f c d
theorem Pq.app(p:Pq ρ Q a b):Pq ρ (Q++Q') a b:=p.mono (λz' z' h=>h) λe m z' z' z' c=>c e (Zh _ m)
theorem Pq.RE(p:Pq ρ Q' a b):Pq ρ (Q++Q') a b:=p.mono (λz' z' h=>h) λe m z' z' z' c=>c e (fg _ m)
def QJ(fs:xh u9)(c:Dh->Ah Dh)(e:N9):Prop:=Kn c e.1/\Kn c e.2.1/\QT fs (F6 c) e.1 e.2.1 e.2.2
theorem QJ.mono{c:xh u9}{e:N9}(d:∀f∈fs,f∈c)(hs:∀a,Kn ρ a->Kn ρ' a)(h:∀x y,F6 ρ x y->F6 ρ' x y)(q:QJ fs ρ e):QJ c ρ' e:=⟨hs _ q.1,hs _ q.2.1,q.2.2.mono d h⟩
def aD(ρ:Dh->Ah Dh)(r:Dh)(us:xh Dh):Prop:=∀t∈us,Kn ρ t/\∃x,Ap t x/\ρ x=some r
theorem aD.tl(h:aD ρ r (t::us)):aD ρ r us:=λs m=>h s (.tail _ m)
def b1(o:Ah Dh):Mh:=cond o.isSome 1 0
def cT(tab:xh Dh->Ah Dh)(r:Dh):Mh:=b1 (tab [0,r])+b1 (tab [1,r])
theorem II{o:Ah Dh}:b1 o<=1:=by cases o<;>exact Jg rfl
theorem IR{t:xh Dh->Ah Dh}:cT t r<=2:=Cg II II
theorem EP{a b t c c1 d:Mh}(e:a+c<=t+c1)(h:b+c1<=a+d):b+c<=t+d:=Nat.le_of_add_le_add_right (by
 rw [Kb,af b a,<-Kb,af a c1,Kb t,af _ a];exact Cg e h)
theorem qq{b:Mh}:1+b=0+b+1:=(af 1 b).trans (yh _ (kf b).symm)
theorem SJ:sy t=0\/sy t=1:=by
 unfold sy;cases decide (t<9)<;>decide
theorem th:[0,r]≠[1,r]:=λe=>absurd (Dg e).1 (by decide)
theorem DE{c:xh Dh->Ah Dh}(h:c [sy t,r]=none):cT (f9 c [sy t,r] o) r=cT c r+1:=by
 unfold cT b1;exact SJ.elim (λe=>by rw [e] at h⊢;refine rL i9 (rL h ?_);exact qq) λe=>by rw [e] at h⊢;refine rL i9 (rL h ?_);rfl
theorem EE{c:xh Dh->Ah Dh}(h:c [sy t,r]=some o):cT (H9 c [sy t,r]) r+1=cT c r:=by
 unfold cT b1;exact SJ.elim (λe=>by rw [e] at h⊢;refine rL Z8 (rL h ?_);exact qq.symm) λe=>by rw [e] at h⊢;refine rL Z8 (rL h ?_);rfl
theorem Tab.key{tab:xh Dh->Ah Dh}(tb:Tab ρ tab)(ha:Ap t x)(hx:ρ x=some r){m:xh Dh}(h:tab m=some t):m=[sy t,r]:=(tb m t h).2.elim λx' h=>h.elim λr' h=>by
 rw [h.2.2,<-T2 ha h.1,hx] at*;rw [Bh h.2.1]
abbrev G9.off(E:G9)(tr:xh Ent)(d:xh Dh->Ah Dh):G9:={E with trail:=tr,tab:=d}
theorem Tw(ha:Ap t x)(hx:E.root x=some r)(hr:f7 r=true)(tb:Tab E.root E.tab)(hl:E.trail.length<=1000):∃tr tb',Mz 3 19 .st [iv t] E (.a9 .none) (E.off tr tb')/\h5 E (E.off tr tb')/\tr.length+cT tb' r<=E.trail.length+cT E.tab r/\∀m o,tb' m=some o↔E.tab m=some o/\o≠t:=by
 have hl:E.trail.length<=1000000:=vh hl (by decide);have no:E.tab [sy t,r]≠some t->∀m o,E.tab m=some o↔E.tab m=some o/\o≠t:=λn m o=>⟨λq=>⟨q,λe=>n (by rw [<-tb.key ha hx (e▸q)];exact e▸q)⟩,And.left⟩;cases h:E.tab [sy t,r] with
 |none=>exact⟨E.trail,E.tab,tu ha hx h,.refl,Oh _,no λe=>by rw [h] at e;exact(by nomatch e)⟩
 |some o=>
  by_cases e:o=t
  ·rw [e] at h;refine⟨E.trail++[.table [sy t,r] (some t)],H9 E.tab [sy t,r],su ha hx h hl,(tL h BP hr).e6 rfl (.no (λz'=>Sg) rfl rfl rfl),?_,λm o=> ?_⟩
   ·rw [Ch,Wg,af _ (cT _ r)];exact Sh (Ph (EE h)) _
   ·by_cases g:m=[sy t,r]
    ·rw [g,Z8,h];exact⟨(λq=>(by nomatch q)),λq=>(q.2 (Bh q.1).symm).elim⟩
    ·rw [a8 g];exact⟨λq=>⟨q,λe=>g (tb.key ha hx (e▸q))⟩,And.left⟩
  ·exact⟨E.trail,E.tab,uu ha hx h e,.refl,Oh _,no λg=>e (Bh (h.symm.trans g))⟩
theorem Sw(hr:f7 r=true):∀{E:G9},aD E.root r us->Tab E.root E.tab->E.trail.length+2<=1000->∃tr tb',U0 (λt E E'=>Mz 3 19 .st [iv t] E (.a9 .none) E') us E (E.off tr tb')/\h5 E (E.off tr tb')/\tr.length+cT tb' r<=E.trail.length+cT E.tab r/\∀m o,tb' m=some o↔E.tab m=some o/\o∉us:=by
 have go:∀{k:Mh} {E:G9},aD E.root r us->Tab E.root E.tab->E.trail.length+cT E.tab r<=1000->∃tr tb',U0 (λt E E'=>Mz 3 19 .st [iv t] E (.a9 .none) E') us E (E.off tr tb')/\h5 E (E.off tr tb')/\tr.length+cT tb' r<=E.trail.length+cT E.tab r/\∀m o,tb' m=some o↔E.tab m=some o/\o∉us:=by
  induction us with
  |nil=>exactλ{k E} z' z' z'=>⟨E.trail,E.tab,.nil,.refl,Oh _,λm o=>(and_iff_left (λh=>(by nomatch h))).symm⟩
  |cons t us ih=>
   intro k E hu tb hl;refine(hu t (.head _)).2.elim λx hx=>(Tw hx.1 hx.2 hr tb (vh (Qh _ _) hl)).elim λtr1 h=>h.elim λtb1 h=>((ih (k:=k) (E:=E.off tr1 tb1) hu.tl (λm o q=>tb m o ((h.2.2.2 m o).mp q).1) (vh h.2.2.1 hl)).imp λtr q=>q.imp λtb' q=>⟨.cons h.1 q.1,h.2.1.trans q.2.1,vh q.2.2.1 h.2.2.1,λm o=>(q.2.2.2 m o).trans ?_⟩);rw [h.2.2.2,yd,not_or];exact and_assoc
 exactλ{E} hu tb hl=>go (k:=0) hu tb (vh (Sh IR _) hl)
abbrev G9.lk(E:G9)(d:xh Dh->Ah Dh)(tr:xh Ent)(Q:xh N9):G9:={E with tab:=d,trail:=tr,queue:=E.queue++Q}
inductive Lk(fs:xh u9)(E:G9)(r:Dh)(us:xh Dh):Prop
 |mk (tb:xh Dh->Ah Dh) (tr:xh Ent) (Q:xh N9) (c:U0 (λt E E'=>Mz 3 13 .st [iv t] E (.a9 .none) E') us E (E.lk tb tr Q)) (s:h5 E (E.lk tb tr Q)) (len:tr.length+cT E.tab r<=E.trail.length+cT tb r) (l1:tr.length<=E.trail.length+us.length) (ql:Q.length<=us.length) (tab:Tab E.root tb)
  (ext:∀m t,E.tab m=some t->tb m=some t) (qj:∀e∈Q,QJ fs E.root e) (fd:∀t∈us,∃o,tb [sy t,r]=some o/\Pq E.root Q t o)
theorem OX:E.lk E.tab E.trail []=E:=by
 show({E with queue:=E.queue++[]})=E;rw [Th]
theorem uq(l:Kn E.root t)(i:Ap t x)(hx:E.root x=some r)(D:f7 r=true)(c:Tab E.root E.tab)(hl:E.trail.length<=1000)(B:E.queue.length<=1000):Lk fs E r [t]:=by
 cases h:E.tab [sy t,r] with
 |some o=>
   refine(c _ _ h).1.elim λs j=>(c _ _ h).2.elim λy q=>q.elim λH q=>l.elim λs' p=> ?_;haveI k:=Dg q.2.2;haveI e:=(Dg k.2).1;by_cases g:s=s'
   ·exact⟨E.tab,E.trail,[],.cons (wu i hx h j (g▸p)) (OX.symm▸ .nil),OX.symm▸ .refl,Oh _,Vg _,ng _,c,λz' z' h=>h,(λz' h=>(by nomatch h)),λz m=>by refine rL (List.mem_singleton.mp m) ?_;exact⟨o,h,λC f A z'=>A _ _ ⟨s,g▸p,j⟩⟩⟩
   ·exact⟨E.tab,E.trail,[(t,o,.args)],.cons (xu i hx h j p g (vh B (by decide))) .nil,⟨[],[],[],(Th _).symm,.same⟩,Oh _,Vg _,Oh _,c,λz' z' h=>h,λG m=>List.mem_singleton.mp m▸⟨l,⟨s,j⟩,x,y,i,q.1,k.1,r,hx,e▸q.2.1⟩,λz m=>by refine rL (List.mem_singleton.mp m) ?_;exact⟨o,h,λC f z' w=>w _ (.head _)⟩⟩
 |none=>
  refine⟨f9 E.tab [sy t,r] t,E.trail++[.table [sy t,r] none],[],.cons (yu i hx h D (vh hl (by decide))) ?_,?_,?_,Ph Ch,ng _,λm z hm=> ?_,λm z hm=> ?_,(λz' h=>(by nomatch h)),λz m=>by refine rL (List.mem_singleton.mp m) ?_;exact⟨t,i9,λz' z' z' z'=>rfl⟩⟩
  ·show U0 _ [] _ {E with tab:=_,trail:=_,queue:=E.queue++[]};rw [Th];exact .nil
  ·exact(uL h).e6 rfl (.no (λz'=>Sg) rfl rfl rfl)
  ·refine rL Ch ?_;rw [DE h,Wg];exact Ph (yh _ (af ..))
  ·by_cases e:m=[sy t,r]
   ·rw [e,i9] at hm;exact Bh hm▸⟨l,x,r,i,hx,e⟩
   ·rw [e9 e] at hm;exact c m z hm
  ·refine rL (e9 λe=>by rw [e,h] at hm;exact(by nomatch hm)) ?_;exact hm
theorem Al(R:f7 r=true):∀{E},Tab E.root E.tab->aD E.root r us->E.trail.length+2<=1000->E.queue.length+us.length<=1000->Lk fs E r us:=by
 haveI T:∀{E},Tab E.root E.tab->aD E.root r us->E.trail.length+2<=1000+cT E.tab r->E.queue.length+us.length<=1000->Lk fs E r us:=by
  induction us with
  |nil=>exactλ{E} k z' z' z'=>⟨E.tab,E.trail,[],OX.symm▸ .nil,OX.symm▸ .refl,Oh _,Oh _,Oh _,k,λz' z' h=>h,(λz' h=>(by nomatch h)),λz' h=>(by nomatch h)⟩
  |cons t us P=>
   intro E k C hl B;haveI M:=C t (.head _);refine M.2.elim λx hx=>(uq (fs:=fs) M.1 hx.1 hx.2 R k (Nat.le_of_add_le_add_right (vh hl (Sh IR _))) (vh (Qh _ _) B)).casesOn λj i Q c1 s1 l N q u w K G=> ?_;have w1:Mz 3 13 .st [iv t] E (.a9 .none) (E.lk j i Q):=by cases c1 with|cons c1 A=>cases A;exact c1
   refine(P (E:=E.lk j i Q) u C.tl (EP hl l) ?_).casesOn λc d D A s p m2 H n f F I=> ?_
   ·show(E.queue++Q).length+us.length<=1000;refine rL Ch ?_;rw [Wg];exact vh (Sh (vh (ef q _) (Ph (af 1 _))) _) B
   ·haveI e:(E.lk j i Q).lk c d D=E.lk c d (Q++D):=by show({E with tab:=c,trail:=d,queue:=E.queue++Q++D})=_;rw [ag]
    rw [e] at A s;exact⟨c,d,Q++D,.cons w1 A,s1.trans s,EP l p,vh m2 (vh (ef N _) (Ph (by rw [Wg,af [t].length];rfl))),Ch▸vh (Cg q H) (Ph (af ..)),n,λm z h=>f m z (w m z h),λe m=>(List.mem_append.mp m).elim (K e) (F e),λz m=>(List.mem_cons.mp m).elim (λg=>g▸(G t (.head _)).imp λo h=>⟨f _ _ h.1,h.2.app⟩) λm=>(I z m).imp λo h=>⟨h.1,h.2.RE⟩⟩
 exactλ{E} k C hl B=>T k C (vh hl (Qh _ _)) B
end
section
def Pa(ps:xh u9):xh u9:=(1,2,0)::ps
def UW:xh Dh:=[9,10,11,12,13,14,15,16,17,18,19,20]
def nS{c:Type}(σ:Dh->Ah c):Mh:=(UW.filter λt=>(σ t).isSome).length
section
variable{α:Type}{ρ ρ':Dh->Ah Dh}{f:Dh->Ah α}{p p':Dh->α->Prop}{k s l t r a b:Dh}{x:α}{l1 l2:xh Dh}{p1 p2:Dh->Prop}{T:xh Dh}{q q':Dh->Kh}{A B:xh Jh}{ps:xh u9}{σ:Dh->Ah (Dh×Dh)}{g:LK×Dh->Ah (xh Jh)}{κ:LK}{Ll Ls:LK->xh Jh}
def Of(ρ:Dh->Ah Dh)(f:Dh->Ah α)(p:Dh->α->Prop):Prop:=(∀t,ρ t=none->f t=none)/\∀r,ρ r=some r->∃a,f r=some a/\p r a
theorem Of.at(h:Of ρ f p)(c:ρ r=some r)(e:f r=some x):p r x:=(h.2 r c).elim λa q=>Bh (q.1.symm.trans e)▸q.2
theorem Of.set(h:Of ρ f p)(j:p' k x)(c:∀t,ρ' t=none->ρ t=none/\t≠k)(d:∀r,ρ' r=some r->r≠k->ρ r=some r/\∀a,p r a->p' r a):Of ρ' (f9 f k x) p':=
 ⟨λt q=>(e9 (c t q).2).trans (h.1 t (c t q).1),λr q=>by
  by_cases e:r=k
  ·exact⟨x,(yh _ e).trans i9,e.symm▸j⟩
  ·exact(h.2 r (d r q e).1).imp λb i=>⟨(e9 e).trans i.1,(d r q e).2 b i.2⟩⟩
def fL(l:xh Dh)(p:Dh->Prop):Prop:=l.Nodup/\∀t,t∈l↔p t
theorem fL.app(c:fL l1 p1)(h:fL l2 p2)(d:∀t,p1 t->p2 t->False):fL (l1++l2) λt=>p1 t\/p2 t:=
 ⟨List.nodup_append.mpr ⟨c.1,h.1,λa i b j e=>d a ((c.2 a).mp i) ((h.2 a).mp (e▸j))⟩,λt=>List.mem_append.trans (Yb (c.2 t) (h.2 t))⟩
theorem fL.congr(h:fL l1 p1)(e:∀t,p1 t↔p2 t):fL l1 p2:=⟨h.1,λt=>(h.2 t).trans (e t)⟩
theorem fL.len(h:fL l1 p1)(e:∀t,p1 t->t∈TT):l1.length<=11:=S8 h.1 λt m=>e t ((h.2 t).mp m)
def Lz(l:xh Jh)(p:Dh->Prop):Prop:=∃m,l=zs m/\fL m p
theorem pU{a b:xh Dh}(h:zs a=zs b):a=b:=(List.map_inj_right λz' z' e=>PyData.int.inj e).mp h
theorem Lz.app(c:Lz A p1)(h:Lz B p2)(d:∀t,p1 t->p2 t->False):Lz (A++B) λt=>p1 t\/p2 t:=c.elim λm c=>h.elim λn h=>⟨m++n,c.1▸h.1▸j1,c.2.app h.2 d⟩
theorem Lz.congr(h:Lz A p1)(e:∀t,p1 t↔p2 t):Lz A p2:=h.imp λz' h=>⟨h.1,h.2.congr e⟩
def Tr(c:Dh->Ah Dh)(r:Dh)(l:xh Jh):Prop:=Lz l λt=>c t=some r
def IM(c:Dh->Ah Dh)(r:Dh)(l:xh Jh):Prop:=Lz l λt=>Kn c t/\∃x,Ap t x/\c x=some r
def lY(c:Dh->Ah Dh)(r v:Dh):Prop:=(v=0/\∀t∈VV,c t≠some r)\/(v∈VV/\c v=some r)
def X2(ps:xh u9)(ρ:Dh->Ah Dh)(r:Dh)(l:xh Jh):Prop:=∃ts:xh o8,l=ts.map t4/\∀c,c∈ts↔c∈ps/\(ρ c.1=some r\/ρ c.2.1=some r)
def Sd(σ:Dh->Ah (Dh×Dh))(ρ:Dh->Ah Dh)(r t:Dh):Prop:=∃a b,σ t=some (a,b)/\(ρ a=some r\/ρ b=some r)
def U2(σ:Dh->Ah (Dh×Dh))(c:Dh->Ah Dh)(r:Dh)(l:xh Jh):Prop:=∃us,l=zs us/\∀t,t∈us↔Sd σ c r t
def jr(ρ:Dh->Ah Dh)(s l:Dh)(t:Dh):Ah Dh:=if ρ t=some s then some l else ρ t
theorem zV(h:ρ t=some s):jr ρ s l t=some l:=Lh h
theorem YO(h:ρ t≠some s):jr ρ s l t=ρ t:=Fh h
theorem j7:Kn (jr ρ s l) t↔Kn ρ t:=by
 by_cases h:ρ t=some s
 ·exact⟨λz'=>⟨s,h⟩,λz'=>⟨l,zV h⟩⟩
 ·exact ye λr=>by rw [YO h]
theorem MZ(h:F6 ρ a b):F6 (jr ρ s l) a b:=h.elim λr h=> .of (j7.mpr ⟨r,h.1⟩) (by unfold jr;rw [h.1,h.2])
theorem n6(hn:s≠l):jr ρ s l t=some l↔ρ t=some l\/ρ t=some s:=by
 by_cases h:ρ t=some s
 ·exact⟨λz'=> .inr h,λz'=>zV h⟩
 ·exact(YO h).symm▸(Xb h).symm
theorem W1(hn:r≠l):jr ρ s l t=some r↔ρ t=some r/\r≠s:=by
 by_cases h:ρ t=some s
 ·exact⟨λe=>(hn (Bh ((zV h).symm.trans e)).symm).elim,λe=>(e.2 (Bh (e.1.symm.trans h))).elim⟩
 ·exact(YO h).symm▸⟨λe=>⟨e,λq=>h (q▸e)⟩,And.left⟩
theorem vF(hn:s≠l)(e:F6 (jr ρ s l) a b):F6 ρ a b\/(ρ a=some s/\ρ b=some l)\/(ρ a=some l/\ρ b=some s):=e.elim λr e=>by
 by_cases z:r=l
 ·rw [z] at e;exact((n6 hn).mp e.1).elim (λp=>((n6 hn).mp e.2).elim (λq=> .inl ⟨l,p,q⟩) λq=> .inr (.inr ⟨p,q⟩)) λp=>((n6 hn).mp e.2).elim (λq=> .inr (.inl ⟨p,q⟩)) λq=> .inl ⟨s,p,q⟩
 ·exact .inl ⟨r,((W1 z).mp e.1).1,((W1 z).mp e.2).1⟩
theorem Of.join(h:Of ρ f p)(hl:ρ l=some l)(i:p' l x)(j:∀r,r≠l->r≠s->∀a,p r a->p' r a):Of (jr ρ s l) (f9 f l x) p':=
 h.set i (λt q=>by
  have z:ρ t=none:=by
   cases z:ρ t with
   |none=>rfl
   |some r=>exact(j7.mpr ⟨r,z⟩).elim λz' e=>by rw [q] at e;exact(by nomatch e)
  exact⟨z,λe=>by rw [e,hl] at z;exact(by nomatch z)⟩) λr q n=>haveI q:=(W1 n).mp q;⟨q.1,j r n q.2⟩
theorem ly:(λr=>A3 g l Ll Ls (κ,r))=f9 (λr=>g (κ,r)) l (Ll κ++Ls κ):=funext λz'=>D2
theorem Of.jx{p p':Dh->xh Jh->Prop}(h:Of ρ (λr=>g (κ,r)) p)(hl:ρ l=some l)(c:p' l (Ll κ++Ls κ))(d:∀r,r≠l->r≠s->∀a,p r a->p' r a):Of (jr ρ s l) (λr=>A3 g l Ll Ls (κ,r)) p':=by
 refine rL ly ?_;exact h.join hl c d
theorem X2.app(hn:s≠l)(e:X2 ps ρ l A)(d:X2 ps ρ s B):X2 ps (jr ρ s l) l (A++B):=e.elim λm e=>d.elim λn d=>⟨m++n,by rw [e.1,d.1,bg],λc=>by
 rw [Fd,e.2,d.2,n6 hn,n6 hn,<-and_or_left];exact xe Sg ⟨λh=>h.elim (λh=>h.imp .inl .inl) λh=>h.imp .inr .inr,λh=>h.elim (λh=>h.elim (λh=> .inl (.inl h)) λh=> .inr (.inl h)) λh=>h.elim (λh=> .inl (.inr h)) λh=> .inr (.inr h)⟩⟩
theorem Sd.join(hn:s≠l):Sd σ (jr ρ s l) l t↔Sd σ ρ l t\/Sd σ ρ s t:=
 ⟨λh=>h.elim λa h=>h.elim λb h=>h.2.elim (λe=>((n6 hn).mp e).imp (λe=>⟨a,b,h.1,.inl e⟩) λe=>⟨a,b,h.1,.inl e⟩) λe=>((n6 hn).mp e).imp (λe=>⟨a,b,h.1,.inr e⟩) λe=>⟨a,b,h.1,.inr e⟩,
 λh=>h.elim (λh=>h.imp λa h=>h.imp λb h=>⟨h.1,h.2.imp (λe=>(n6 hn).mpr (.inl e)) λe=>(n6 hn).mpr (.inl e)⟩) λh=>h.imp λa h=>h.imp λb h=>⟨h.1,h.2.imp (λe=>(n6 hn).mpr (.inr e)) λe=>(n6 hn).mpr (.inr e)⟩⟩
theorem U2.app(hn:s≠l)(c:U2 σ ρ l A)(h:U2 σ ρ s B):U2 σ (jr ρ s l) l (A++B):=c.elim λm c=>h.elim λn h=>⟨m++n,c.1▸h.1▸j1,λt=>List.mem_append.trans ((Yb (c.2 t) (h.2 t)).trans (Sd.join hn).symm)⟩
theorem X2.congr(h:X2 ps ρ r A)(e:∀c∈ps,(ρ c.1=some r↔ρ' c.1=some r)/\(ρ c.2.1=some r↔ρ' c.2.1=some r)):X2 ps ρ' r A:=h.imp λt h=>⟨h.1,λc=>(h.2 c).trans ⟨λq=>⟨q.1,q.2.imp (e c q.1).1.mp (e c q.1).2.mp⟩,λq=>⟨q.1,q.2.imp (e c q.1).1.mpr (e c q.1).2.mpr⟩⟩⟩
theorem U2.congr(h:U2 σ ρ r A)(e:∀t a b,σ t=some (a,b)->(ρ a=some r↔ρ' a=some r)/\(ρ b=some r↔ρ' b=some r)):U2 σ ρ' r A:=h.imp λus h=>⟨h.1,λt=>(h.2 t).trans (ye λa=>ye λb=>⟨λq=>⟨q.1,q.2.imp (e t a b q.1).1.mp (e t a b q.1).2.mp⟩,λq=>⟨q.1,q.2.imp (e t a b q.1).1.mpr (e t a b q.1).2.mpr⟩⟩)⟩
def nK(ρ:Dh->Ah Dh):Mh:=(TT.filter λt=>(ρ t).isSome).length
def nC(c:Dh->Ah Dh):Mh:=(TT.filter λt=>decide (c t=some t)).length
theorem Q2(j:q k=false)(c:q' k=true)(h:∀t,t≠k->q' t=q t):T.Nodup->k∈T->(T.filter q').length=(T.filter q).length+1:=by
 induction T with
 |nil=>exactλz' m=>(by nomatch m)
 |cons y T i=>
  intro hn hx;have hn:=List.nodup_cons.mp hn;by_cases e:y=k
  ·exact rL (Vf (e▸c)) (rL (Xf (by rw [e,j];exact wg)) (yh (λl=>Hd l+1) (ua λt m=>h t λz=>hn.1 ((e.trans z.symm)▸m))))
  ·haveI i:=i hn.2 ((List.mem_cons.mp hx).resolve_left (vd e));refine rL jd (rL jd (rL (h y e) ?_));split
   ·exact yh _ i
   ·exact i
theorem wE(h:∀t,q t=true->q' t=true):(T.filter q).length<=(T.filter q').length:=by
 induction T with
 |nil=>exact Oh _
 |cons y T i=>
  refine rL jd (rL jd ?_);cases e:q y with
  |true=>refine rL (Lh rfl) (rL (Lh (h y e)) ?_);exact Vh i
  |false=>
   refine rL (Fh wg) ?_;split
   ·exact vg i
   ·exact i
theorem TB:nC ρ<=nK ρ:=wE λt h=>by refine rL (Hh h) ?_;rfl
def p0(ps:xh u9)(ρ:Dh->Ah Dh)(a b:Dh)(o:Ah o8):Prop:=Ba o (F6 ρ a b) λc=>F6 ρ a c.1/\F6 ρ b c.2.1/\(c∈Pa ps\/(c.2.1,c.1,c.2.2)∈Pa ps)
theorem p0.mono{p:xh u9}{o:Ah o8}(h:∀x y,F6 ρ x y->F6 ρ' x y)(hp:∀c∈ps,c∈p)(q:p0 ps ρ a b o):p0 p ρ' a b o:=by
 haveI hp:∀c∈Pa _,c∈Pa p:=λc m=>List.mem_cons.mpr ((List.mem_cons.mp m).imp id (hp c));cases o with
 |none=>exact h _ _ q
 |some c=>exact⟨h _ _ q.1,h _ _ q.2.1,q.2.2.imp (hp _) (hp _)⟩
end
def nB(ps:xh u9)(C:Cor):Mh:=(nS C.P9+ps.length)*2^(nK C.root-nC C.root)
structure LI(fs ps)(C:Cor) tl(es Q):Prop where
 kn:∀t r,C.root t=some r->t∈TT/\C.root r=some r
 sub:∀t x,Kn C.root t->Ap t x->Kn C.root x
 mem:Of C.root (λr=>C.ls (.mem,r)) (Tr C.root)
 use:Of C.root (λr=>C.ls (.use,r)) (IM C.root)
 Z9:Of C.root (λr=>C.ls (.Z9,r)) (X2 ps C.root)
 C9:Of C.root (λr=>C.ls (.C9,r)) (U2 C.P9 C.root)
 bd:∀κ r l,κ= .Z9\/κ= .C9->C.ls (κ,r)=some l->l.length<=nB ps C
 val:Of C.root C.val (lY C.root)
 tb:Tab C.root C.tab
 P:mY fs C.up es
 c1:∀a b,F6 C.root a b->M5 es a b
 c2:∀e∈es,F6 C.root e.1 e.2.1
 tc:∀t x r,Kn C.root t->Ap t x->C.root x=some r->∃o,C.tab [sy t,r]=some o/\Pq C.root Q t o
 fx:∀f∈fs,Pq C.root Q f.1 f.2.1
 qj:∀e∈Q,QJ fs C.root e
 pk:∀f∈ps,Kn C.root f.1/\Kn C.root f.2.1
 sk:∀t a b,C.P9 t=some (a,b)->t∈UW/\Kn C.root a/\Kn C.root b
 tk:∀t o,C.d8 t=some o->∃a b,C.P9 t=some (a,b)/\p0 ps C.root a b o
 pl:ps.length<=20
 XJ:tl+6*nC C.root<=8*nK C.root+nS C.P9+nS C.d8+ps.length
section
variable{E:G9}{fs ps:xh u9}{es Q Q':xh N9}{C:Cor}{tl tl':Mh}{l0 r0 left right s l v1 v2 r:Dh}{y:F5}{us:xh Dh}{up':Up}{tb:xh Dh->Ah Dh}{Ll Ls:LK->xh Jh}{κ:LK}{A:xh Jh}
theorem EJ.snoc{e:N9}(j:EJ fs es)(h:QT fs (M5 es) e.1 e.2.1 e.2.2):EJ fs (es++[e]):=λp d q c=>
 (List.eq_nil_or_concat q).elim (λz=>by
  rw [z] at c;haveI:=List.append_inj' c rfl;refine rR this.1 (rR ((Dg this.2).1) ?_);exact h) λz=>z.elim λi z=>z.elim λw z=>by
  rw [z,List.concat_eq_append,<-Wc,<-ag] at c;exact j p _ _ (List.append_inj' c rfl).1
theorem vO{c:Type}{σ:Dh->Ah c}:nS σ<=12:=Rg _ _
theorem LI.mX(L:LI fs ps C tl es Q):tl<=132:=vh (vh (Qh _ _) L.XJ) (Cg (Cg (Cg (Zf 8 (Rg _ _)) vO) vO) L.pl)
theorem wO(h:ps.length<=20):nB ps C<=65536:=vh (Nat.mul_le_mul (Cg vO h) (Nat.pow_le_pow_right (by decide) (vh (dc _ _) (Rg _ _)))) (by decide)
theorem LI.ls(L:LI fs ps C tl es Q)(hr:C.root r=some r)(κ:LK):∃l,C.ls (κ,r)=some l/\l.length<=65536:=by
 have kT:∀{t},Kn C.root t->t∈TT:=λh=>h.elim λr h=>(L.kn _ _ h).1;have lz:∀{l:xh Jh} {p:Dh->Prop},Lz l p->(∀t,p t->t∈TT)->l.length<=65536:=λh e=>h.elim λm h=>by rw [h.1];exact b9 (vh (h.2.len e) (by decide))
 cases κ with
 |mem=>exact(L.mem.2 r hr).imp λl h=>⟨h.1,lz h.2 λt q=>kT ⟨r,q⟩⟩
 |use=>exact(L.use.2 r hr).imp λl h=>⟨h.1,lz h.2 λt q=>kT q.1⟩
 |Z9=>exact(L.Z9.2 r hr).imp λl h=>⟨h.1,vh (L.bd _ _ _ (.inl rfl) h.1) (wO L.pl)⟩
 |C9=>exact(L.C9.2 r hr).imp λl h=>⟨h.1,vh (L.bd _ _ _ (.inr rfl) h.1) (wO L.pl)⟩
theorem aN(L:LI fs ps C tl es Q)(h:C.root s=some s)(c:C.root l=some l)(hn:s≠l):nC (jr C.root s l)+1=nC C.root/\nK (jr C.root s l)=nK C.root:=
 ⟨(Q2 (Xh (by refine rL (zV h) ?_;exactλq=>hn (Bh q).symm)) (Rh h) (λt d=>decide_eq_decide.mpr (by
  by_cases e:t=l
  ·refine rL e ?_;rw [c,(n6 hn).mpr (.inl c)]
  ·exact((W1 e).trans (and_iff_left d)).symm)) (by decide) (L.kn _ _ h).1).symm,yh Hd (ua λt z'=>Bool.eq_iff_iff.mpr (Option.isSome_iff_exists.trans (j7.trans Option.isSome_iff_exists.symm)))⟩
theorem fG{a b w:Mh}(h:a+1=b){k:Mh}(c:b<=k):w*2^(k-b)+w*2^(k-b)=w*2^(k-a):=by
 refine rR h ?_;rw [show k-a=k-(a+1)+1 from(Nat.succ_pred_eq_of_pos (Lc (h▸c:a+1<=k))).symm,Nat.pow_succ,Nat.mul_comm _ 2,<-Nat.mul_assoc,Nat.mul_comm w 2,Nat.mul_assoc,Nat.two_mul]
theorem LI.join(L:LI fs ps C tl es ((l0,r0,y)::Q))(hs:C.root left=some s)(hl:C.root right=some l)(hn:s≠l)(r:∀{A:Type} {f:Dh->A},f left=f right->f l0=f r0)(h:QT fs (F6 C.root) left right y)
  (K:∀κ,C.ls (κ,l)=some (Ll κ)) (H:∀κ,C.ls (κ,s)=some (Ls κ)) (W:Ls .use=zs us) (Y:lY C.root l v1) (V:lY C.root s v2) (T:K8 up' (es++[(left,right,y)])) (m:bP up' TT)
  (tab:Tab (jr C.root s l) tb) (U:∀m t,C.tab m=some t->t∉us->tb m=some t) (q:∀e∈Q',QJ fs (jr C.root s l) e) (fd:∀t∈us,∃o,tb [sy t,l]=some o/\Pq (jr C.root s l) Q' t o) (R:tl'<=tl+6):
  LI fs ps {C with root:=jr C.root s l,ls:=A3 C.ls l Ll Ls,val:=f9 C.val l (if v1=0 then v2 else v1),up:=up',tab:=tb} tl' (es++[(left,right,y)]) (Q++Q'):=by
 have d:=(L.kn _ _ hl).2;have j:=(L.kn _ _ hs).2;haveI k:jr _ s l left=some l:=zV hs;haveI g:=(n6 hn).mpr (.inl hl);haveI w:∀e∈es,e∈es++[(left,right,y)]:=λe h=>Zh _ h;haveI J:=λx hx=>((n6 hn).mp hx).elim (λq=>(L.c1 x right ⟨l,q,hl⟩).mono w) λq=>((L.c1 x left ⟨s,q,hs⟩).mono w).trans (.one (.inl (fg _ (.head _))));have I:∀e∈(l0,r0,y)::Q,Pq _ (Q++Q') _ e.2.1:=λe m A f u v=>(List.mem_cons.mp m).elim (λz=>by refine rL z ?_;exact r (u _ _ ⟨l,k,g⟩)) λm=>v e (Zh _ m);have N:=aN L j d hn;have D:∀{r t},r≠l->r≠s->(C.root t=some r↔jr _ s l t=some r):=λn n2=>((W1 n).trans (and_iff_left n2)).symm;have E:=L.use.at j (H .use);refine⟨λt r h=> ?_,λt x h hx=>j7.mpr (L.sub t x (j7.mp h) hx),L.mem.jx d (((L.mem.at d (K .mem)).app (L.mem.at j (H .mem)) λt u v=>hn (Bh (v.symm.trans u))).congr λt=>(n6 hn).symm) λr n n2 a h=>Lz.congr h λt=>D n n2,L.use.jx d (((L.use.at d (K .use)).app E λt u v=> ?_).congr λt=> ?_) λr n n2 a h=>Lz.congr h λt=>xe j7.symm (ye λx=>xe Sg (D n n2)),
  L.Z9.jx d ((L.Z9.at d (K .Z9)).app hn (L.Z9.at j (H .Z9))) λr n n2 a h=>h.congr λc z'=>⟨D n n2,D n n2⟩,L.C9.jx d ((L.C9.at d (K .C9)).app hn (L.C9.at j (H .C9))) λr n n2 a h=>h.congr λt a b z'=>⟨D n n2,D n n2⟩,λκ r a hκ h=> ?_,
  L.val.join d ?_ λr n n2 a h=>h.imp (λh=>⟨h.1,λt m e=>h.2 t m ((W1 n).mp e).1⟩) λh=>⟨h.1,(W1 n).mpr ⟨h.2,n2⟩⟩,tab,⟨T,m,L.P.j.snoc (h.mono (λz' h=>h) L.c1)⟩,λa b h=>h.elim λr h=> ?_,λe m=> ?_,λt x r P hx B=> ?_,λf m=>(L.fx f m).mono (λz' z'=>MZ) I,λe m=>(List.mem_append.mp m).elim (λm=>(L.qj e (.tail _ m)).mono (λz' h=>h) (λz'=>j7.mpr) λz' z'=>MZ) (q e),λf m=>⟨j7.mpr (L.pk f m).1,j7.mpr (L.pk f m).2⟩,λt a b h=>haveI q:=L.sk t a b h;⟨q.1,j7.mpr q.2.1,j7.mpr q.2.2⟩,λt o h=>(L.tk t o h).imp λa q=>q.imp λb q=>⟨q.1,q.2.mono (λz' z'=>MZ) λz' h=>h⟩,L.pl,?_⟩
 ·by_cases e:r=l
  ·rw [e] at h⊢;exact⟨((n6 hn).mp h).elim (λq=>(L.kn _ _ q).1) λq=>(L.kn _ _ q).1,(n6 hn).mpr (.inl d)⟩
  ·have h:=(W1 e).mp h;exact⟨(L.kn _ _ h.1).1,(W1 e).mpr ⟨(L.kn _ _ h.1).2,h.2⟩⟩
 ·exact u.2.elim λx u=>v.2.elim λx v=>hn (Bh (v.2.symm.trans (T2 u.1 v.1▸u.2)))
 ·exact Iff.trans (⟨λh=>h.elim (λh=>⟨h.1,h.2.imp λx q=>⟨q.1,.inl q.2⟩⟩) λh=>⟨h.1,h.2.imp λx q=>⟨q.1,.inr q.2⟩⟩,λh=>h.2.elim λx q=>q.2.imp (λe=>⟨h.1,x,q.1,e⟩) λe=>⟨h.1,x,q.1,e⟩⟩) (xe j7.symm (ye λx=>xe Sg (n6 hn).symm))
 ·haveI b:=L.bd κ;show a.length<=(nS _+ps.length)*2^_;refine rL N.2 (rR (fG N.1 TB) ?_)
  replace h:A3 _ l Ll Ls _=some a:=h;rw [D2] at h;by_cases e:r=l
  ·rw [Lh e] at h;exact rR (Bh h) (rL Ch (Cg (b _ _ hκ (K κ)) (b _ _ hκ (H κ))))
  ·rw [Fh e] at h;exact vh (b _ _ hκ h) (Qh _ _)
 ·by_cases e:v1=0
  ·refine rL (Lh e) ?_;have z:=Y.resolve_right λh=>absurd (e▸h.1) (by decide);exact V.imp (λh=>⟨h.1,λt m q=>((n6 hn).mp q).elim (z.2 t m) (h.2 t m)⟩) λh=>⟨h.1,(n6 hn).mpr (.inr h.2)⟩
  ·exact rL (Fh e) (.inr (Y.elim (λh=>(e h.1).elim) λh=>⟨h.1,(n6 hn).mpr (.inl h.2)⟩))
 ·by_cases e:r=l
  ·rw [e] at h;exact(J a h.1).trans (J b h.2).symm
  ·exact(L.c1 a b ⟨r,((W1 e).mp h.1).1,((W1 e).mp h.2).1⟩).mono w
 ·exact(i8 m).elim (λm=>MZ (L.c2 e m)) λz=>z▸⟨l,k,g⟩
 ·refine(L.sub t x (j7.mp P) hx).elim λh i=> ?_;have X:∀z,z∈us↔Kn _ z/\∃x,Ap z x/\C.root x=some s:=λz=>E.elim λm q=>by
   haveI e:=pU (W.symm.trans q.1);refine rL e ?_;exact q.2.2 z
  by_cases e:h=s
  ·rw [e] at i;exact(Bh ((zV i).symm.trans B))▸(fd t ((X t).mpr ⟨j7.mp P,x,hx,i⟩)).imp λo h=>⟨h.1,h.2.RE⟩
  ·have z:=Bh (i.symm.trans ((YO λq=>e (Bh (i.symm.trans q))).symm.trans B));refine(L.tc t x r (j7.mp P) hx (z▸i)).imp λo h=>⟨U _ _ h.1 λm=> ?_,h.2.mono (λz' z'=>MZ) I⟩;refine((X o).mp m).2.elim λx q=> ?_;exact e (z.trans (Dg (Dg (L.tb.key q.1 q.2 h.1)).2).1)
 ·haveI:=L.XJ;refine rL N.2 ?_;rw [<-N.1] at this;exact vh (ef R _) (by rw [Gg];exact this)
end
end
section
variable{E E1 E2:G9}{fs ps:xh u9}{es Q:xh N9}{C:Cor}{tl:Mh}{t a b ra rb va vb x y r:Dh}{ρ:Dh->Ah Dh}{o:Ah o8}{ts:xh o8}{c:o8}{us:xh Dh}
theorem XQ{d:Type}{x:Ah d}{a:d}{p:Prop}(h:x=none)(q:x=some a):p:=by rw [h] at q;exact(by nomatch q)
structure Nw(E E':G9):Prop where
 up:∀t o,E.d8 t=some o->E'.d8 t=some o
 nw:∃new:xh Dh,E'.news=E.news++new/\new.Nodup/\∀t,t∈new↔E.d8 t=none/\∃o,E'.d8 t=some o
theorem Nw.of(h:E1.d8=E.d8)(g:E1.news=E.news):Nw E E1:=⟨λt o q=>h▸q,[],g.trans (Th _).symm,Ig,λt=>⟨(λh=>(by nomatch h)),λq=>q.2.elim λz' k=>XQ q.1 (h▸k)⟩⟩
theorem Nw.refl:Nw E E:= .of rfl rfl
theorem Nw.trans(h:Nw E E1)(g:Nw E1 E2):Nw E E2:=
 ⟨λt o q=>g.up t o (h.up t o q),h.nw.elim λn hn=>g.nw.elim λm f=>⟨n++m,by rw [f.1,hn.1,ag],List.nodup_append.mpr ⟨hn.2.1,f.2.1,λx hx y i e=>((hn.2.2 x).mp hx).2.elim λz' q=>XQ ((f.2.2 x).mp (e▸i)).1 q⟩,λt=>by
  rw [Fd,hn.2.2,f.2.2];refine⟨λq=>q.elim (λq=>⟨q.1,q.2.imp λo=>g.up t o⟩) λq=>⟨?_,q.2⟩,λq=> ?_⟩
  ·cases e:E.d8 t with
   |none=>rfl
   |some o=>exact XQ q.1 (h.up t o e)
  ·cases e:E1.d8 t with
   |none=>exact .inr ⟨rfl,q.2⟩
   |some o=>exact .inl ⟨q.1,o,rfl⟩⟩⟩
theorem Nw.no(h:Nw E E1)(q:E1.d8 t=none):E.d8 t=none:=by
 cases e:E.d8 t with
 |none=>rfl
 |some o=>exact XQ q (h.up t o e)
structure Tl(E E':G9):Prop where
 ex:E'={E with d8:=E'.d8,news:=E'.news,trail:=E'.trail}
 n:Nw E E'
 e6:h5 E E'
theorem Tl.refl:Tl E E:=⟨rfl,.refl,.refl⟩
theorem Tl.trans(h:Tl E E1)(g:Tl E1 E2):Tl E E2:=⟨by rw [g.ex,h.ex],h.n.trans g.n,h.e6.trans g.e6⟩
def NW(E:G9):Prop:=E.news.Nodup/\∀t∈E.news,∃o,E.d8 t=some o
theorem Nw.news(h:Nw E E1)(n:NW E):NW E1:=h.nw.elim λf q=>⟨by refine rL q.1 ?_;exact List.nodup_append.mpr ⟨n.1,q.2.1,λx hx y d e=>(n.2 x hx).elim λz' p=>XQ ((q.2.2 x).mp (e▸d)).1 p⟩,λt m=>by
 rw [q.1] at m;exact(List.mem_append.mp m).elim (λm=>(n.2 t m).imp λo=>h.up t o) λm=>((q.2.2 t).mp m).2⟩
theorem LI.news(L:LI fs ps E.toCor tl es Q)(n:NW E):E.news.length<=12:=S8 n.1 λt m=>(n.2 t m).elim λo h=>(L.tk t o h).elim λa h=>h.elim λb h=>(L.sk t a b h.1).1
theorem LI.told(L:LI fs ps C tl es Q)(h0:C.d8 t=none)(hs:C.P9 t=some (a,b))(q:p0 ps C.root a b o):LI fs ps {C with d8:=f9 C.d8 t o} (tl+1) es Q:=
 {L with
  tk:=λz o' h=>by
   by_cases e:z=t
   ·rw [e] at h⊢;have h:=Bh (i9.symm.trans h);exact⟨a,b,hs,h▸q⟩
   ·exact L.tk z o' ((e9 e).symm.trans h)
  XJ:=by
   have e:nS (f9 C.d8 t o)=nS C.d8+1:=Q2 (by rw [h0];rfl) (by rw [i9];rfl) (λz n=>by rw [e9 n]) (by decide) (L.sk t a b hs).1;rw [e,Gg,<-Wg,Gg _ 1];exact Vh L.XJ}
theorem lY.nz(V:lY ρ r x)(m:y∈VV)(h:ρ y=some r):x≠0:=V.elim (λq=>(q.2 _ m h).elim) λq e=>absurd (e▸q.1) (by decide)
theorem YJ:∀v∈VV,∀w∈VV,v≠w->(v,w,(0:Dh))=(1,2,0)\/(w,v,(0:Dh))=(1,2,0):=by decide
theorem qM(L:LI fs ps E.toCor tl es Q)(ha:E.root a=some ra)(hb:E.root b=some rb)(hn:ra≠rb)(h1:lY E.root ra va)(h2:lY E.root rb vb)(ht:∀c,c∈ts↔c∈ps/\(E.root c.1=some ra\/E.root c.2.1=some ra)):
  (∀c,cause E ra rb va vb ts=some c->p0 ps E.root a b (some c))/\(cause E ra rb va vb ts=none->∀o,¬p0 ps E.root a b o):=by
 unfold cause;rw [Fh hn];by_cases v:va≠0/\vb≠0
 ·rw [Lh v];have w1:=h1.resolve_left λq=>v.1 q.1;have w2:=h2.resolve_left λq=>v.2 q.1;refine⟨λc e=> ?_,λe=>(by nomatch e)⟩;rw [<-Bh e];exact⟨⟨ra,ha,w1.2⟩,⟨rb,hb,w2.2⟩,(YJ va w1.1 vb w2.1 λe=>hn (Bh (w1.2.symm.trans (e▸w2.2)))).imp (λe=>List.mem_cons.mpr (.inl e)) λe=>List.mem_cons.mpr (.inl e)⟩
 ·rw [Fh v];unfold UM;refine⟨λc e=> ?_,λe o q=> ?_⟩
  ·refine(List.exists_of_findSome?_eq_some e).elim λf q=> ?_;have m:=ve (1,2,0) ((ht f).mp q.1).1;have q:=q.2;unfold VU at q;by_cases p:E.root f.1=some ra/\E.root f.2.1=some rb
   ·rw [Lh p] at q;rw [<-Bh q];exact⟨⟨ra,ha,p.1⟩,⟨rb,hb,p.2⟩,.inl m⟩
   ·rw [Fh p] at q;by_cases p:E.root f.1=some rb/\E.root f.2.1=some ra
    ·rw [Lh p] at q;rw [<-Bh q];exact⟨⟨ra,ha,p.2⟩,⟨rb,hb,p.1⟩,.inr m⟩
    ·rw [Fh p] at q;exact(by nomatch q)
  ·have e:=List.findSome?_eq_none_iff.mp e;cases o with
   |none=>exact q.elim λr q=>hn (Bh (ha.symm.trans (q.1.trans (q.2.symm.trans hb))))
   |some c=>
    have k1:=q.1.elim λr q=>q.2.trans (q.1.symm.trans ha);have k2:=q.2.1.elim λr q=>q.2.trans (q.1.symm.trans hb);have no:c.1∈VV->c.2.1∈VV->False:=λm1 m2=>v ⟨h1.nz m1 k1,h2.nz m2 k2⟩;refine q.2.2.elim (λm=>(List.mem_cons.mp m).elim (λg=>no (by rw [g];decide) (by rw [g];decide)) λm=> ?_) λm=>(List.mem_cons.mp m).elim (λg=>no (by rw [(sf (sf g).2).1];decide) (by rw [(sf g).1];decide)) λm=> ?_
    ·have:=e c ((ht c).mpr ⟨m,.inl k1⟩);unfold VU at this;rw [Lh ⟨k1,k2⟩] at this;exact(by nomatch this)
    ·have:=e _ ((ht _).mpr ⟨m,.inr k1⟩);unfold VU at this;rw [Fh λz=>hn (Bh (k1.symm.trans z.2)),Lh ⟨k2,k1⟩] at this;exact(by nomatch this)
structure Te(fs ps:xh u9)(es Q:xh N9)(E:G9)(t:Dh)(E':G9):Prop where
 w:Mw 3 34 .all [iv t] E (.a9 .none) E'
 tl:Tl E E'
 li:LI fs ps E'.toCor E'.trail.length es Q
 cm:∀a b,E.P9 t=some (a,b)->E'.d8 t=none->∀o,¬p0 ps E.root a b o
theorem VL:∀t∈UW,f7 t=true:=by decide
theorem iS(L:LI fs ps E.toCor E.trail.length es Q)(n:NW E)(hs:E.P9 t=some (a,b)):∃E',Te fs ps es Q E t E':=by
 have k:=L.sk t a b hs;have I:=VL t k.1;have b1:E.news.length<=1000000:=vh (L.news n) (by decide);have b2:E.trail.length<=1000000:=vh L.mX (by decide);cases h:E.d8 t with
 |some o=>exact⟨E,(du (yh _ h)).lift,.refl,L,λa b z' q=>XQ q h⟩
 |none=>
  have J:∀{o},p0 _ _ a b o->Mw 3 34 .all [iv t] E _ {E with d8:=f9 E.d8 t o,news:=E.news++[t],trail:=E.trail++[.told t]}->∃E',Te fs ps es Q E t E':=λ{o} q w=>
   ⟨_,w,⟨rfl,⟨λz z' g=>(e9 λe=>XQ h (e▸g)).trans g,[t],rfl,List.nodup_cons.mpr ⟨(λh=>(by nomatch h)),Ig⟩,λz=>by
    rw [zf];refine⟨λe=>by refine rL e ?_;exact⟨h,o,i9⟩,λq=> ?_⟩;by_cases e:z=t
    ·exact e
    ·exact q.2.elim λo' g=>XQ q.1 ((e9 e).symm.trans g)⟩,(sL h).e6 rfl (.no (λz'=>Sg) rfl rfl rfl)⟩,(Ch)▸L.told h hs q,λa b z' q=>XQ q i9⟩
  refine k.2.1.elim λF p=>k.2.2.elim λN j=> ?_;by_cases e:F=N
  ·exact J (o:=none) ⟨F,p,e▸j⟩ (fu h hs p (e▸j) I b1 b2).lift
  ·have u:=(L.kn _ _ p).2;refine(L.Z9.2 _ u).elim λl hl=>hl.2.elim λR i=>(L.val.2 _ u).elim λU v=>(L.val.2 _ (L.kn _ _ j).2).elim λS A=> ?_;have M:=l5 p j v.1 A.1 (hl.1.trans (yh _ i.1)) λc m=>have q:=L.pk c ((i.2 c).mp m).1;q.1.elim λr K=>q.2.elim λs P=>⟨r,s,K,P⟩;have G:=qM L p j e v.2 A.2 i.2;cases g:cause E _ _ _ _ _ with
   |some c=>rw [g] at M;exact J (G.1 c g) (gu h hs p j e M I b1 b2)
   |none=>rw [g] at M;exact⟨E,eu h hs p j e M,.refl,L,λV z' q z'=>by rw [hs] at q;haveI q:=sf (Bh q);exact q.1▸q.2▸G.2 g⟩
theorem PW:∀{E:G9},LI fs ps E.toCor E.trail.length es Q->NW E->(∀t∈us,∃a b,E.P9 t=some (a,b))->∃E',U0 (λt E E'=>Mw 3 34 .all [iv t] E (.a9 .none) E') us E E'/\Tl E E'/\LI fs ps E'.toCor E'.trail.length es Q/\∀t∈us,∀a b,E.P9 t=some (a,b)->E'.d8 t=none->∀o,¬p0 ps E.root a b o:=by
 induction us with
 |nil=>exactλ{E} L z' z'=>⟨E,.nil,.refl,L,λz' h=>(by nomatch h)⟩
 |cons t us ih=>
  intro E L n h;refine(h t (.head _)).elim λa ha=>ha.elim λb hs=>(iS L n hs).elim λE1 T=> ?_;have e1:E1.P9=E.P9:=by rw [T.tl.ex]
  have e2:E1.root=E.root:=by rw [T.tl.ex]
  refine(ih T.li (T.tl.n.news n) (e1.symm▸λz m=>h z (.tail _ m))).imp λE2 q=>⟨.cons T.w q.1,T.tl.trans q.2.1,q.2.2.1,λz m a b g k=> ?_⟩;refine(List.mem_cons.mp m).elim (λe=> ?_) λm=>e2▸q.2.2.2 z m a b (e1.symm▸g) k;rw [e] at g k;exact T.cm a b g (q.2.1.n.no k)
end
section
variable{E E1:G9}{fs ps:xh u9}{es Q Q':xh N9}{l0 r0 left right s l v1 v2 r a b:Dh}{y:F5}{ρ:Dh->Ah Dh}{C:Cor}{us:xh Dh}
inductive Jo(fs ps:xh u9)(E:G9)(es Q:xh N9)(left right:Dh)(y:F5)(s l:Dh):Prop
 |mk (E4:G9) (Q':xh N9) (v1 v2:Dh) (us:xh Dh) (w:∀E1,JF left right (rZ y) s l us v2 v1 E4 E1->∀(P:w8) (g:q9) (K:O8),BK K->(∀κ t,false=false->g.z κ t=false)->(A9 P 4 tK).b (.st,[]) ⟨[(0,.g9 .house),(1,iv left),(2,iv right),(3,.a9 (rZ y))],[],hp P g K E⟩ (Ri (.a9 .none) (hp P g K E1)))
  (li:LI fs ps E4.toCor E4.trail.length (es++[(left,right,y)]) (Q++Q')) (nc:nC E4.root+1=nC E.root) (e6:h5 E E4) (qu:E4.queue=E.queue++Q') (ql:Q'.length<=11) (rt:E4.root=jr E.root s l) (V1:lY E.root l v1) (V2:lY E.root s v2) (rest:(E4.clash=E.clash/\E4.marks=E.marks)/\(E4.P9=E.P9/\E4.d8=E.d8/\E4.news=E.news)/\∀κ,E4.ls (κ,s)=E.ls (κ,s))
theorem Uy{m:xh Dh}(h:∀z,z∈m↔ρ z=some s):V4 m l ρ=jr ρ s l:=PU.trans (funext λz=>by
 unfold P0 jr;by_cases q:z∈m
 ·exact rL (Lh q) (rL (Lh ((h z).mp q)) rfl)
 ·refine rL (Fh q) ?_;rw [Fh λg=>q ((h z).mpr g)])
theorem wF(L:LI fs ps E.toCor E.trail.length es ((l0,r0,y)::Q))(hs:E.root left=some s)(hl:E.root right=some l)(hn:s≠l)(h0:∀{h:Type} {f:Dh->h},f left=f right->f l0=f r0)(hJ:QT fs (F6 E.root) left right y)(hq:E.queue.length<=900):Jo fs ps E es Q left right y s l:=by
 have A:=L.kn _ _ hs;have M:=L.kn _ _ hl;have k:=O1 _ (L.kn _ _ M.2).1;haveI cl:∃H:LK->xh _,∀κ,E.ls (κ,l)=some (H κ)/\(H κ).length<=65536:=⟨λκ=>Classical.choose _,λκ=>Classical.choose_spec (L.ls M.2 κ)⟩;haveI cs:∃Ls:LK->xh _,∀κ,E.ls (κ,s)=some (Ls κ)/\(Ls κ).length<=65536:=⟨λκ=>Classical.choose _,λκ=>Classical.choose_spec (L.ls A.2 κ)⟩;refine cl.elim λH q=>cs.elim λLs W=>((L.mem.at A.2 (W .mem).1).elim λms G=>(L.use.at A.2 (W .use).1).elim λus I=>(L.val.2 _ M.2).elim λv O=>(L.val.2 _ A.2).elim λv2 X=> ?_);have t:=L.mX;have Z:=I.2.len λt h=>(λh=>h.elim λr h=>(L.kn _ _ h).1) h.1;have hb:∀κ,(H κ++Ls κ).length<=1000000:=λκ=>Ch▸vh (Cg (q κ).2 (W κ).2) (by decide);have h:¬M5 es left right:=λc=>hn (Bh (hs.symm.trans ((c.keep (R:=λa b=>E.root a=E.root b) (λz'=>rfl) (λz' z'=>Eq.symm) (λz' z' z'=>Eq.trans) λx n y m=>(L.c2 _ m).elim λr h=>h.1.trans h.2.symm).trans hl)));refine(KK (w:=y) L.P.F L.P.u O1 (by decide) A.1 M.1 h (vh t (by decide))).elim λup' h=>h.elim λY h=> ?_;haveI g:(E.trail++[Ent.edge left Y]).length<=E.trail.length+1:=Ph Ch;have u:=λt m=>(I.2.2 t).mp m;refine(Sw (E:={E with up:=up',trail:=E.trail++[.edge left Y]}) (O1 _ (L.kn _ _ A.2).1) u L.tb (vh (ef (vh g (Vh t)) 2) (by decide))).elim λtr o=>o.elim λp o=> ?_;have t2:=vh (Qh _ _) (vh o.2.2.1 (Cg g IR));have t:=vh t2 (ef t 3);have g:V4 ms l _=jr _ s l:=Uy G.2.2;haveI hv:(if v=0 then f9 E.val l v2 else E.val)=f9 E.val l (if v=0 then v2 else v):=by
  by_cases e:v=0
  ·exact rL (Lh e) (rL (Lh e) rfl)
  ·refine rL (Fh e) ?_;rw [Fh e,CQ O.1]
 haveI j:(({E with up:=up',trail:=E.trail++[.edge left Y]}:G9).off tr p).jn s l ms H Ls v2 v={E with up:=up',trail:=tr++[.join s l (λκ=>(H κ).length) v],tab:=p,root:=jr E.root s l,ls:=A3 E.ls l H Ls,val:=f9 E.val l (if v=0 then v2 else v)}:=by
  show({E with up:=up',trail:=tr++_,tab:=_,root:=V4 ms l _,ls:=_,val:=if v=0 then f9 E.val l v2 else E.val})=_;exact rL g (rL hv rfl)
 haveI m:=vL (C:={E.toCor with up:=up',tab:=p}) (V:=f9 E.val l (if v=0 then v2 else v)) hn (λκ=>(q κ).1) (I7 O.1) ((W .mem).1.trans (yh some G.1)) (λt m=>(G.2.2 t).mp m) k (λt m=>O1 t (L.kn _ _ ((G.2.2 t).mp m)).1) hb;rw [show P0 _ ms l=jr _ s l from PU.symm.trans g] at m;haveI nE:∀m z,p m=some z->E.tab m=some z/\z∉us:=λm z h=>(o.2.2.2 m z).mp h;refine(Al (fs:=fs) (us:=us) (E:={E with up:=up',trail:=tr++[.join s l (λκ=>(H κ).length) v],tab:=p,root:=jr E.root s l,ls:=A3 E.ls l H Ls,val:=f9 E.val l (if v=0 then v2 else v)}) k (λm t hm=> ?_) (λt m=> ?_) ?_ ?_).casesOn λtb r Q c st g z' ql tab e qj fd=> ?_
 ·haveI q:=nE m t hm;refine(L.tb m t q.1).imp j7.mpr λh=>h.imp λx h=>h.imp λr h=>⟨h.1,(YO λg=>q.2 ((I.2.2 t).mpr ⟨(L.tb m t q.1).1,x,h.1,g⟩)).trans h.2.1,h.2.2⟩
 ·exact⟨j7.mpr (u t m).1,(u t m).2.imp λx h=>⟨h.1,zV h.2⟩⟩
 ·exact vh (ef (vh (Ph Ch) (Vh t)) 2) (by decide)
 ·exact vh (Cg hq Z) (by decide)
 refine⟨G9.lk {E with up:=up',trail:=tr++[.join s l (λκ=>(H κ).length) v],tab:=p,root:=jr _ s l,ls:=A3 E.ls l H Ls,val:=f9 _ l _} tb r Q,Q,v,v2,us,λE1 HF P g K hB hz=>vu hs hl h.1 ((W .use).1.trans (yh some I.1)) o.1 (λκ=>(q κ).1) (λκ=>(W κ).1) G.1 X.1 O.1 (λt m=>O1 t (L.kn _ _ ((G.2.2 t).mp m)).1) k hb (vh Z (by decide)) (vh t (by decide)) (j.symm▸c) HF hB hz,(L.join hs hl hn h0 hJ (λκ=>(q κ).1) (λκ=>(W κ).1) I.1 O.2 X.2 h.2.1 h.2.2.1 tab (λm t h n=>e m t ((o.2.2.2 m t).mpr ⟨h,n⟩)) qj fd (vh (Qh _ _) (vh g (vh (Sh IR _) (rL Ch (ef t2 3)))))),(aN L A.2 M.2 hn).1,?_,rfl,vh ql Z,rfl,O.2,X.2,⟨rfl,rfl⟩,⟨rfl,rfl,rfl⟩,λκ=>D2.trans (Fh hn)⟩;refine h5.trans ?_ (o.2.1.trans (h5.trans (m.e6 (E1:={E with up:=up',trail:=tr++[.join s l _ v],tab:=p,root:=jr E.root s l,ls:=A3 E.ls l H Ls,val:=f9 _ l _}) rfl (.no (λz'=>j7) rfl rfl rfl)) st));exact(zL h.2.2.2.1 h.2.2.2.2).e6 rfl (.no (λz'=>Sg) rfl rfl rfl)
variable{E2:G9}{tl:Mh}{rs:xh Dh}
def NT(ps:xh u9)(ρ:Dh->Ah Dh):Prop:=∀f∈Pa ps,¬F6 ρ f.1 f.2.1
def CT(ps:xh u9)(C:Cor):Prop:=∀t a b,C.P9 t=some (a,b)->C.d8 t=none->∀o,¬p0 ps C.root a b o
def r4(fs ps:xh u9)(l:xh Dh):Prop:=∃f c,f∈Pa ps/\Told fs f.1 f.2.1 c/\l=P7 c f.2.2
theorem Cl.symm{R:Dh->Dh->Prop}(c:Cl R a b):Cl R b a:=λe f d h=>(c _ f d h).symm
theorem Told.symm(h:Told fs a b rs):Told fs b a rs:=h.imp λf h=>⟨h.1,h.2.1,h.2.2.1,h.2.2.2.1,h.2.2.2.2.symm⟩
theorem Told.len(h:Told fs a b rs):rs.length<=11:=h.elim λf h=>by refine rL h.1 ?_;exact vh (Ph (Rc f).length_eq) h.2.2.1
def Vr(fs ps:xh u9)(E E':G9)(q:Prop):Prop:=(E'.clash=none/\(NT ps E'.root/\CT ps E'.toCor)/\q)\/∃l,E'.clash=some l/\E'.g0=E.marks.length/\r4 fs ps l
theorem h5.to(s:h5 E E1)(h:E2.toCor=E1.toCor)(t:E2.trail=E1.trail):h5 E E2:=s.casesOn λseg ent wt g b=>⟨seg,ent,wt,t.trans g,h▸b⟩
theorem first{α:Type}{p:α->Prop}(l:xh α):(∀x∈l,¬p x)\/∃l1 x l2,l=l1++x::l2/\p x/\∀z∈l1,¬p z:=by
 induction l with
 |nil=>exact .inl λz' h=>(by nomatch h)
 |cons y l ih=>
  by_cases h:p y
  ·exact .inr ⟨[],y,l,rfl,h,λz' h=>(by nomatch h)⟩
  ·refine ih.imp (λg x m=>(List.mem_cons.mp m).elim (λe=>e▸h) (g x)) λg=>g.elim λl1 g=>g.elim λx g=>g.elim λl2 g=>⟨y::l1,x,l2,yh (y::·) g.1,g.2.1,λz m=>(List.mem_cons.mp m).elim (λe=>e▸h) (g.2.2 z)⟩
theorem NT.join(n:NT ps ρ)(hn:s≠l)(c:lY ρ l v1)(V:lY ρ s v2)(h:v2=0\/v1=0)(t:∀f∈ps,ρ f.1=some s\/ρ f.2.1=some s->¬F6 (jr ρ s l) f.1 f.2.1):NT ps (jr ρ s l):=λf m e=>(vF hn e).elim (n f m) λq=>by
 refine(List.mem_cons.mp m).elim (λg=> ?_) λm=>t f m (q.elim (λq=> .inl q.1) λq=> .inr q.2) e;rw [g] at q;refine q.elim (λq=>h.elim (V.nz (by decide) q.1) (c.nz (by decide) q.2)) λq=>h.elim (V.nz (by decide) q.2) (c.nz (by decide) q.1)
theorem oT(hn:s≠l)(e:F6 (jr ρ s l) a b)(h:jr ρ s l a≠some l):F6 ρ a b:=e.elim λr e=>by
 have z:r≠l:=λz=>h (z▸e.1);exact⟨r,((W1 z).mp e.1).1,((W1 z).mp e.2).1⟩
structure Jd(fs ps:xh u9)(E:G9)(Q:xh N9)(E':G9)(es' Q':xh N9):Prop where
 li:LI fs ps E'.toCor E'.trail.length es' (Q++Q')
 nc:nC E'.root+1=nC E.root
 e6:h5 E E'
 qu:E'.queue=E.queue++Q'
 ql:Q'.length<=11
 z4:E'.marks=E.marks
 kn:∀z,Kn E'.root z↔Kn E.root z
 sd:E'.P9=E.P9
 nw:Nw E E'
 fl:Vr fs ps E E' True
theorem TY(L:LI fs ps E.toCor E.trail.length es ((l0,r0,y)::Q))(nw:NW E)(hs:E.root left=some s)(hl:E.root right=some l)(hn:s≠l)(q:∀{h:Type} {f:Dh->h},f left=f right->f l0=f r0)(h:QT fs (F6 E.root) left right y)(g:E.queue.length<=900)(r:NT ps E.root)(c:CT ps E.toCor)(hc:E.clash=none)(hm:E.marks.length<=1000):
  ∃E' J,(∀P g K,BK K->(∀κ t,false=false->g.z κ t=false)->(A9 P 4 tK).b (.st,[]) ⟨[(0,.g9 .house),(1,iv left),(2,iv right),(3,.a9 (rZ y))],[],hp P g K E⟩ (Ri (.a9 .none) (hp P g K E')))/\Jd fs ps E Q E' (es++[(left,right,y)]) J:=by
 refine(wF L hs hl hn q h g).casesOn λv J h v2 us w F n N k m B V g rest=> ?_;have mk:v.marks.length<=1000000:=by refine rL rest.1.2 ?_;exact vh hm (by decide)
 have D:Nw E v:= .of rest.2.1.2.1 rest.2.1.2.2;have e:∀{a b},F6 _ a b->∃x,Mz 2 25 .all [iv a,iv b] _ _ _/\Told _ a b x:=λe=>e.elim λr h=>C3 F.P h.1 h.2 (F.c1 _ _ ⟨r,h⟩) (F.kn _ _ h.1).1 (F.kn _ _ h.2).1;have W:∀{x},r4 _ _ x->JF left right (rZ y) s l _ _ _ _ {v with clash:=some x,g0:=v.marks.length}->∃E' J,(∀(P) (g) (K),BK K->(∀κ t,false=false->g.z κ t=false)->(A9 P 4 _).b _ ⟨[(0,.g9 .house),(1,iv left),(2,iv right),(3,.a9 _)],[],hp P g K E⟩ (Ri _ (hp P g K E')))/\Jd _ _ E Q E' _ J:=λ{x} c f=>
  ⟨{v with clash:=some x,g0:=v.marks.length},J,w _ f,F,n,N.to rfl rfl,k,m,rest.1.2,λz=>B▸j7,rest.2.1.1,D.trans (.of rfl rfl),.inr ⟨x,rfl,yh (λl=>((Hd l):Dh)) rest.1.2,c⟩⟩
 by_cases h:v2=0\/h=0
 ·refine(L.Z9.2 s ((L.kn _ _ hs).2)).elim λd hd=>hd.2.elim λt A=> ?_;have ha:=(rest.2.2 .Z9).trans (hd.1.trans (yh _ A.1));have U:∀c∈ps,∃r s,v.root _=some r/\v.root _=some s:=λc m=>haveI q:=F.pk c m;q.1.elim λr S=>q.2.elim λs R=>⟨r,s,S,R⟩;have u:∀c∈ps,¬v.root _=v.root _->∃r s,v.root _=some r/\v.root _=some s/\r≠s:=λc m n=>(U c m).imp λr h=>h.imp λs h=>⟨h.1,h.2,λe=>n (h.1.trans ((yh _ e).trans h.2.symm))⟩;refine(first (p:=λc=>v.root c.1=v.root c.2.1) t).elim (λq=> ?_) λq=>q.elim λt q=>q.elim λc q=>q.elim λt q=> ?_
  ·have Y:=B▸r.join hn V g h λf m k e=>q f ((A.2 f).mpr ⟨m,k⟩) (B▸e.elim λr e=>e.1.trans e.2.symm);have g:=B▸(n6 hn).mpr (.inl ((L.kn _ _ hl).2));refine(F.C9.2 l g).elim λd hd=>hd.2.elim λws I=> ?_;have hw:=hd.1.trans (yh _ I.1);refine(PW F (D.news nw) λt m=>((I.2 t).mp m).imp λa h=>h.imp λb h=>h.1).elim λE T=> ?_;have M:=T.2.1.ex;have X:E.root=v.root:=by rw [M]
   have r:E.P9=v.P9:=by rw [M]
   refine⟨E,J,w _ (Cs h (ru ha λc m=>u c ((A.2 c).mp m).1 (q c m)) (Fq hw T.1 (rL M hw))),T.2.2.1,by refine rL X ?_;exact n,N.trans T.2.1.e6,by refine rL M ?_;exact k,m,by refine rL M ?_;exact rest.1.2,λz=>by refine rL X (rL B ?_);exact j7,by refine rL r ?_;exact rest.2.1.1,D.trans T.2.1.n,.inl ⟨by refine rL M ?_;exact rest.1.1.trans hc,⟨X▸Y,λt a b k g o p=> ?_⟩,trivial⟩⟩;rw [r] at k;have p:=X▸p;by_cases z:t∈ws
   ·exact T.2.2.2 t z a b k g o p
   ·have s:∀{x},x=a\/x=b->jr _ s l x≠some l:=λ{x} (q) e=>z ((I.2 t).mpr ⟨a,b,k,q.imp (λ(h:x=a)=>((congrFun B a).trans (h▸e))) λ(h:x=b)=>((congrFun B b).trans (h▸e))⟩);rw [B] at p;refine c t a b (rest.2.1.1▸k) ((D.trans T.2.1.n).no g) o ?_;cases o with
    |none=>exact oT hn p (s (.inl rfl))
    |some c=>exact⟨oT hn p.1 (s (.inl rfl)),oT hn p.2.1 (s (.inr rfl)),p.2.2⟩
  ·have m:=((A.2 c).mp (q.1▸fg _ (.head _))).1;refine(U c m).elim λr k=>k.elim λg k=> ?_;have k2:=q.2.1.symm.trans k.1;exact(e ⟨r,k.1,k2⟩).elim λx hx=>(W ⟨c,x,ve _ m,hx.2,rfl⟩ (Bs h (pu (q.1▸ha) (λf z=>u f ((A.2 f).mp (q.1▸Zh _ z)).1 (q.2.2 f z)) k.1 k2 hx.1 (vh hx.2.len (by decide))) mk))
 ·have R:=g.resolve_left λq=>h (.inl q.1);have S:=V.resolve_left λq=>h (.inr q.1);refine(e ⟨l,(B▸zV R.2),(B▸(n6 hn).mpr (.inl S.2))⟩).elim λx hx=>W ?_ (Ds (λe=>h (.inl e)) (λe=>h (.inr e)) hx.1 mk);haveI z:x=P7 x 0:=(Lh (.inl rfl)).symm;exact(YJ _ R.1 _ S.1 λe=>hn (Bh (R.2.symm.trans (e▸S.2)))).elim (λe=>⟨(1,2,0),x,.head _,by refine rR e ?_;exact hx.2,z⟩) λe=>⟨(1,2,0),x,.head _,by refine rR e ?_;exact hx.2.symm,z⟩
theorem CK(L:LI fs ps E.toCor E.trail.length es ((l0,r0,y)::Q))(t:NW E)(hs:E.root l0=some s)(hl:E.root r0=some l)(hn:s≠l)(n:E.queue.length<=900)(o:NT ps E.root)(p:CT ps E.toCor)(j:E.clash=none)(hm:E.marks.length<=1000):
  ∃E' d i,Me 5 16 .st [iv l0,iv r0,.a9 (rZ y)] E (.a9 .none) E'/\Jd fs ps E Q E' i d:=by
 haveI k:=(L.qj _ (.head _)).2.2;refine(L.ls (L.kn _ _ hs).2 .mem).elim λm g=>(L.ls (L.kn _ _ hl).2 .mem).elim λu f=> ?_;haveI b1:m.length<=1000000:=vh g.2 (by decide);haveI b2:u.length<=1000000:=vh f.2 (by decide);by_cases h:u.length<m.length
 ·refine(TY L t hl hs (vd hn) (λe=>e.symm) (k.symm λz' z'=>F6.symm) n o p j hm).imp λE' q=>q.imp λd q=>⟨_,Hq hs hl g.1 f.1 b1 b2 λx y c=>c.elim (λc=> ?_) λc=>(c.1 h).elim,q.2⟩;refine rL c.2.1 (rL c.2.2 ?_);exact q.1
 ·refine(TY L t hs hl hn (λe=>e) k n o p j hm).imp λE' q=>q.imp λd q=>⟨_,Hq hs hl g.1 f.1 b1 b2 λx y c=>c.elim (λc=>(h c.1).elim) λc=> ?_,q.2⟩;refine rL c.2.1 (rL c.2.2 ?_);exact q.1
theorem LI.skip(L:LI fs ps C tl es ((a,b,y)::Q))(h:F6 C.root a b):LI fs ps C tl es Q:=
 have m:∀{x z},Pq _ _ x z->Pq _ Q x z:=λp=>p.mono (λz' z' h=>h) λe m=>(List.mem_cons.mp m).elim (λz z' z' d z'=>by refine rL z ?_;exact d _ _ h) λm z' z' z' c=>c e m
 {L with tc:=λt x r d c g=>(L.tc t x r d c g).imp λo q=>⟨q.1,m q.2⟩,fx:=λf h=>m (L.fx f h),qj:=λe h=>L.qj e (.tail _ h)}
theorem iJ{q d k c c1:Mh}(e:d=q+k)(f:k<=11)(h:c1+1=c):d+12*c1+1<=q+12*c:=by
 refine rL e ?_;rw [<-h,Wg q,af k];exact Sh (Sh (Vh f) _) q
structure Cd(fs ps:xh u9)(E E':G9)(es' Q':xh N9):Prop where
 li:LI fs ps E'.toCor E'.trail.length es' Q'
 e6:h5 E E'
 z4:E'.marks=E.marks
 kn:∀z,Kn E'.root z↔Kn E.root z
 sd:E'.P9=E.P9
 nw:Nw E E'
 fl:Vr fs ps E E' (Q'=[])
theorem yE{N:Mh}:∀{spot E es},LI fs ps E.toCor E.trail.length es (E.queue.drop spot)->NW E->NT ps E.root->CT ps E.toCor->E.clash=none->E.marks.length<=1000->E.queue.length+12*nC E.root<=900->E.queue.length+12*nC E.root<N+spot->spot<=E.queue.length->
  ∃E' j Q,RI spot E E'/\Cd fs ps E E' j Q:=by
 induction N with
 |zero=>exactλz' z' z' z' z' z' z' h q=>absurd (dg h (vh (Ph (kf _)) q)) (Nat.not_lt.mpr (Qh _ _))
 |succ N D=>
  intro spot E es L x v w m hm t A _;haveI F:=vh (Qh _ _) t;have g:E.queue.length<=1000000:=vh F (by decide);by_cases c:E.queue.length<=spot
  ·exact⟨E,es,_,.stop g (.inl c),L,.refl,rfl,λz'=>Sg,rfl,.refl,.inl ⟨m,⟨v,w⟩,List.drop_eq_nil_of_le c⟩⟩
  have c:=Xc c;haveI u:=Fg c;rw [List.drop_eq_getElem_cons c] at L;generalize E.queue[spot]=e at u L;have k:=L.qj _ (.head _);refine k.1.elim λr p=>k.2.1.elim λH o=> ?_;by_cases d:r=H
  ·exact(D (L.skip ⟨r,p,d▸o⟩) x v w m hm t (Nat.lt_of_lt_of_eq A (Og N _)) c).imp λE' h=>h.imp λj h=>h.imp λQ h=>⟨.same g m u p (d▸o) h.1,h.2⟩
  ·refine(CK L x p o d F v w m hm).elim λE1 h=>h.elim λI h=>h.elim λn h=> ?_;haveI B:=(yh _ h.2.qu).trans Ch;haveI i:=iJ B h.2.ql h.2.nc;refine h.2.fl.elim (λf=> ?_) λf=> ?_
   ·refine(D (es:=n) ?_ (h.2.nw.news x) f.2.1.1 f.2.1.2 f.1 (h.2.z4▸hm) (vh (cf i) t) (Mf (eg i (Mc (Nat.lt_of_lt_of_eq A (Og N _))))) (B▸vh c (Qh _ _))).imp λE' q=>q.imp λj q=>q.imp λQ q=>⟨.join g m u p o d h.1 q.1,q.2.li,h.2.e6.trans q.2.e6,q.2.z4.trans h.2.z4,λz=>(q.2.kn z).trans (h.2.kn z),q.2.sd.trans h.2.sd,h.2.nw.trans q.2.nw,?_⟩
    ·refine rL h.2.qu (rL (List.drop_append_of_le_length c) ?_);exact h.2.li
    ·haveI:=q.2.fl;unfold Vr at this⊢;refine rR h.2.z4 ?_;exact this
   ·refine⟨E1,n,_,.join g m u p o d h.1 (.stop (vh (vh (vh (Qh _ _) (cf i)) t) (by decide)) (.inr (f.elim λl f=>by refine rL f.1 ?_;rfl))),h.2.li,h.2.e6,h.2.z4,h.2.kn,h.2.sd,h.2.nw,.inr f⟩
theorem UV(L:LI fs ps E.toCor E.trail.length es E.queue)(nw:NW E)(nt:NT ps E.root)(ct:CT ps E.toCor)(hc:E.clash=none)(hm:E.marks.length<=1000)(hq:E.queue.length<=700):
  ∃E' es' Q',Me 6 15 .st [] E (.a9 .none) E'/\Cd fs ps E E' es' Q'/\E'.queue=[]:=by
 have hn:nC E.root<=11:=Rg _ TT;exact(yE L nw nt ct hc hm (vh (Cg hq (Zf 12 hn)) (by decide)) (uf _) (ng _)).elim λE' h=>h.elim λes' h=>h.elim λQ' h=>⟨{E' with queue:=[]},es',Q',Yl h.1,⟨h.2.li,h.2.e6.to rfl rfl,h.2.z4,h.2.kn,h.2.sd,h.2.nw.trans (.of rfl rfl),h.2.fl⟩,rfl⟩
end
section
section
variable{ρ:Dh->Ah Dh}{t r z a b:Dh}
theorem e8:Kn (f9 ρ t t) z↔Kn ρ z\/z=t:=by
 by_cases e:z=t
 ·exact⟨λz'=> .inr e,λz'=>⟨t,e▸i9⟩⟩
 ·unfold Kn;refine rL (e9 e) ?_;exact(Xb e).symm
theorem G7(h:ρ t=none)(k:Kn ρ z):z≠t:=λe=>k.elim λr q=>by rw [e,h] at q;exact(by nomatch q)
theorem iZ(h:ρ t=none)(e:F6 ρ a b):F6 (f9 ρ t t) a b:=e.imp λr e=>⟨(e9 (G7 h ⟨r,e.1⟩)).trans e.1,(e9 (G7 h ⟨r,e.2⟩)).trans e.2⟩
theorem g8(h:ρ t=none)(n:r≠t):f9 ρ t t z=some r↔ρ z=some r:=by
 by_cases e:z=t
 ·exact⟨λq=>(n (Bh ((e▸i9:f9 _ t t z=some t).symm.trans q)).symm).elim,λq=>(G7 h ⟨r,q⟩ e).elim⟩
 ·rw [e9 e]
theorem V3(kn:∀z r,ρ z=some r->ρ r=some r)(h:ρ t=none):f9 ρ t t z=some t↔z=t:=by
 by_cases e:z=t
 ·exact⟨λz'=>e,λz'=>e▸i9⟩
 ·refine rL (e9 e) ?_;exact⟨λq=>(G7 h ⟨t,kn _ _ q⟩ rfl).elim,λq=>(e q).elim⟩
def cP(ρ ρ':Dh->Ah Dh):Prop:=∀a b,F6 ρ' a b->a=b\/F6 ρ a b
end
variable{E E1:G9}{fs ps:xh u9}{es Q Q':xh N9}{t v x s r:Dh}{y:F5}{C C':Cor}{tl tl':Mh}{tb:xh Dh->Ah Dh}{u:xh Dh}{L' g:LK×Dh->Ah (xh Jh)}{κ:LK}{A:xh Jh}
theorem cP.eq{c ρ':Dh->Ah Dh}{a b:Dh}(n:cP c ρ')(k:Kn c a)(e:F6 ρ' a b):F6 c a b:=(n a b e).elim (λe=>e▸F6.of k rfl) id
theorem NT.wD{c ρ':Dh->Ah Dh}(h:NT ps c)(n:cP c ρ')(k:∀f∈ps,Kn c f.1/\Kn c f.2.1):NT ps ρ':=λf m e=>(n _ _ e).elim (λq=>(List.mem_cons.mp m).elim (λz=>by rw [z] at q;exact absurd q (by decide)) λz=>h f m (q▸F6.of (k f z).1 rfl)) (h f m)
theorem CT.wD(h:CT ps C)(n:cP C.root C'.root)(k:∀t a b,C.P9 t=some (a,b)->t∈UW/\Kn C.root a/\Kn C.root b)(s:C'.P9=C.P9)(d:C'.d8=C.d8):CT ps C':=λt a b q g o p=>by
 rw [s] at q;rw [d] at g;refine h t a b q g o ?_;cases o with
 |none=>exact n.eq (k t a b q).2.1 p
 |some c=>exact⟨n.eq (k t a b q).2.1 p.1,n.eq (k t a b q).2.2 p.2.1,p.2.2⟩
theorem vI:(λr=>Z1 g t (κ,r))=f9 (λr=>g (κ,r)) t (mK t κ):=funext λz'=>G4
theorem aj:(λr=>f9 g (κ,s) A (κ,r))=f9 (λr=>g (κ,r)) s A:=funext λr=>by
 by_cases e:r=s
 ·exact rL e (rL i9 (rL i9 rfl))
 ·exact rL (e9 e) (rL (e9 (xX e)) rfl)
def Pr(C:Cor)(t r:Dh)(l:xh Jh):Prop:=Lz l λz=>Kn C.root z/\∃x,Ap z x/\f9 C.root t t x=some r
theorem LI.jv(L:LI fs ps C tl es Q)(h:C.root t=none):¬(Kn C.root r/\∃x,Ap r x/\f9 C.root t t x=some t):=λq=>q.2.elim λx e=>G7 h (L.sub r x q.1 e.1) ((V3 (λz' z' h=>(L.kn _ _ h).2) h).mp e.2)
theorem LI.QB(h:C.root t=none):∀z,f9 C.root t t z=none->C.root z=none/\z≠t:=λz q=>by
 by_cases e:z=t
 ·rw [e,i9] at q;exact(by nomatch q)
 ·rw [e9 e] at q;exact⟨q,e⟩
theorem LI.iH(L:LI fs ps C tl es Q)(h:C.root t=none):Of (f9 C.root t t) (λr=>Z1 C.ls t (.use,r)) (Pr C t):=by
 exact rL vI (L.use.set ⟨[],rfl,Ig,λz=>⟨(λh=>(by nomatch h)),λq=>(L.jv h q).elim⟩⟩ (LI.QB h) λr q n=>⟨(g8 h n).mp q,λa A=>A.congr λz=>xe Sg (ye λx=>xe Sg (g8 h n).symm)⟩)
theorem LI.dw(L:LI fs ps C tl es Q)(h:C.root t=none)(n:∀x,¬Ap t x):Of (f9 C.root t t) (λr=>Z1 C.ls t (.use,r)) (IM (f9 C.root t t)):=
 ⟨(L.iH h).1,λr q=>((L.iH h).2 r q).imp λl A=>⟨A.1,Lz.congr A.2 λz=>⟨λk=>⟨e8.mpr (.inl k.1),k.2⟩,λk=>⟨(e8.mp k.1).resolve_right λe=>k.2.elim λx a=>n x (e▸a.1),k.2⟩⟩⟩⟩
theorem LI.ew(L:LI fs ps C tl es Q)(h:C.root t=none)(hx:Ap t x)(c:f9 C.root t t x=some r)(hn:r≠t)(U:IM C.root r (zs u)):Of (f9 C.root t t) (λz=>f9 (Z1 C.ls t) (.use,r) (zs (u++[t])) (.use,z)) (IM (f9 C.root t t)):=by
 have U:=U.elim λm q=>pU q.1▸q.2;refine rL aj ?_;refine(L.iH h).set ⟨u++[t],rfl,b7 U.1 λm=>G7 h ((U.2 t).mp m).1 rfl,λz=> ?_⟩ (λz q=>⟨q,λe=>by rw [e,((g8 h hn).mpr (L.kn _ _ ((g8 h hn).mp c)).2)] at q;exact(by nomatch q)⟩) λi q n=>⟨q,λa A=>Lz.congr A λz=>⟨λk=>⟨e8.mpr (.inl k.1),k.2⟩,λk=>⟨(e8.mp k.1).resolve_right λe=>k.2.elim λj a=>n ?_,k.2⟩⟩⟩
 ·refine List.mem_append.trans ⟨λm=>m.elim (λm=> ?_) λm=>by refine rL (List.mem_singleton.mp m) ?_;exact⟨e8.mpr (.inr rfl),x,hx,c⟩,λk=>(e8.mp k.1).elim (λd=> .inl ?_) λe=> .inr (e▸ .head _)⟩
  ·haveI m:=(U.2 z).mp m;exact⟨e8.mpr (.inl m.1),m.2.imp λx q=>⟨q.1,(g8 h hn).mpr q.2⟩⟩
  ·exact(U.2 z).mpr ⟨d,k.2.imp λx q=>⟨q.1,(g8 h hn).mp q.2⟩⟩
 ·haveI f:=T2 hx (e▸a.1);exact Bh (a.2.symm.trans (f▸c))
theorem LI.enter(L:LI fs ps C tl es Q)(F:t∈TT)(h:C.root t=none)(w:∀x,Ap t x->Kn C.root x)(M:∀κ r,κ≠ .use->L' (κ,r)=Z1 C.ls t (κ,r))(H:Of (f9 C.root t t) (λr=>L' (.use,r)) (IM (f9 C.root t t)))(U:(v=0/\t∉VV)\/(v=t/\t∈VV))(tab:Tab (f9 C.root t t) tb)(I:∀m z,C.tab m=some z->tb m=some z)
  (J:∀x r,Ap t x->f9 C.root t t x=some r->∃o,tb [sy t,r]=some o/\Pq (f9 C.root t t) Q' t o) (R:∀e∈Q',QJ fs (f9 C.root t t) e) (hl:tl'<=tl+2):
  LI fs ps {C with root:=f9 C.root t t,ls:=L',val:=f9 C.val t v,tab:=tb} tl' es (Q++Q'):=by
 have j:∀z r,C.root z=some r->C.root r=some r:=λz' z' h=>(L.kn _ _ h).2;haveI B:=LI.QB h;have P:∀{a b},Pq _ Q a b->Pq _ (Q++Q') a b:=λp=>p.mono (λz' z'=>iZ h) λe m z' z' z' T=>T e (Zh _ m);have O:nK (f9 C.root t t)=nK C.root+1:=Q2 (rL h rfl) (rL i9 rfl) (λz n=>by rw [e9 n]) (by decide) F;have N:nC _=nC C.root+1:=Q2 (Xh (rL h (λq=>(by nomatch q)))) (Rh i9) (λz n=>by rw [e9 n]) (by decide) F;haveI G:=λκ n=>(funext λr=>M κ r n).trans vI;have kn:∀{z},Kn _ z->f9 _ t t z≠some t:=λk e=>G7 h k ((V3 j h).mp e);refine⟨λz r q=> ?_,λz x k a=> ?_,G .mem LK.noConfusion▸L.mem.set ⟨[t],rfl,List.nodup_cons.mpr ⟨(λh=>(by nomatch h)),Ig⟩,λz=>List.mem_singleton.trans (V3 j h).symm⟩ B λr q n=>⟨(g8 h n).mp q,λa A=>Lz.congr A λz=>(g8 h n).symm⟩,H,
  G .Z9 LK.noConfusion▸L.Z9.set ⟨[],rfl,λc=>⟨(λh=>(by nomatch h)),λq=>(q.2.elim (kn (L.pk c q.1).1) (kn (L.pk c q.1).2)).elim⟩⟩ B λr q n=>⟨(g8 h n).mp q,λa A=>A.congr λc z'=>⟨(g8 h n).symm,(g8 h n).symm⟩⟩,
  G .C9 LK.noConfusion▸L.C9.set ⟨[],rfl,λz=>⟨(λh=>(by nomatch h)),λq=>q.elim λa q=>q.elim λb q=>(q.2.elim (kn (L.sk z a b q.1).2.1) (kn (L.sk z a b q.1).2.2)).elim⟩⟩ B λr q n=>⟨(g8 h n).mp q,λa A=>A.congr λz c d z'=>⟨(g8 h n).symm,(g8 h n).symm⟩⟩,λκ r a hκ q=> ?_,
  L.val.set (U.imp (λ(q)=>⟨q.1,λz m e=>q.2 ((V3 j h).mp e▸m)⟩) λ(q:v=t/\t∈VV)=>q.1.symm▸⟨q.2,i9⟩) B λr q n=>⟨(g8 h n).mp q,λa A=>A.imp (λA=>⟨A.1,λz m e=>A.2 z m ((g8 h n).mp e)⟩) λA=>⟨A.1,(g8 h n).mpr A.2⟩⟩,tab,L.P,λa b e=>e.elim λr e=> ?_,λe m=>iZ h (L.c2 e m),λz x r k a q=> ?_,λf m=>P (L.fx f m),λe m=>(List.mem_append.mp m).elim (λm=>(L.qj e m).mono (λz' h=>h) (λz' k=>e8.mpr (.inl k)) λz' z'=>iZ h) (R e),λf m=>⟨e8.mpr (.inl (L.pk f m).1),e8.mpr (.inl (L.pk f m).2)⟩,λz a b q=>haveI k:=L.sk z a b q;⟨k.1,e8.mpr (.inl k.2.1),e8.mpr (.inl k.2.2)⟩,λz o q=>(L.tk z o q).imp λa q=>q.imp λb q=>⟨q.1,q.2.mono (λz' z'=>iZ h) λz' h=>h⟩,L.pl,?_⟩
 ·by_cases e:r=t
  ·rw [e] at q⊢;exact⟨(V3 j h).mp q▸F,i9⟩
  ·haveI q:=L.kn _ _ ((g8 h e).mp q);exact⟨q.1,(g8 h e).mpr q.2⟩
 ·exact e8.mpr (.inl ((e8.mp k).elim (λk=>L.sub z x k a) λe=>w x (e▸a)))
 ·show a.length<=(nS _+ps.length)*2^_;refine rL O ?_;rw [N,Nat.add_sub_add_right];haveI q:=(M _ r (λe=>hκ.elim (λz=>LK.noConfusion (z.symm.trans e)) λz=>LK.noConfusion (z.symm.trans e))).symm.trans q;rw [G4] at q;by_cases e:r=t
  ·rw [Lh e] at q;refine rR (Bh q) (rL (show mK t _=[] from hκ.elim (λz=>z▸rfl) λz=>z▸rfl) ?_);exact ng _
  ·rw [Fh e] at q;exact L.bd _ r a hκ q
 ·by_cases z:r=t
  ·rw [z] at e;refine rL ((V3 j h).mp e.1) (rL ((V3 j h).mp e.2) ?_);exact .refl _
  ·exact L.c1 a b ⟨r,(g8 h z).mp e.1,(g8 h z).mp e.2⟩
 ·by_cases e:z=t
  ·rw [e] at a⊢;exact(J x r a q).imp λo h=>⟨h.1,h.2.RE⟩
  ·haveI k:=(e8.mp k).resolve_right e;exact(L.tc z x r k a ((e9 (G7 h (L.sub z x k a))).symm.trans q)).imp λo h=>⟨I _ _ h.1,P h.2⟩
 ·haveI:=L.XJ;show tl'+6*nC _<=8*nK _+nS C.P9+nS C.d8+ps.length;refine rL O (rL N ?_);refine vh (ef hl _) ?_;omega
theorem dh:∀t∈TT,t∈t8.map (·.1)\/(t∈VV/\∀p∈t8,p.1≠t)\/(t∈[3,4,5]/\t∉VV/\∀p∈t8,p.1≠t):=by decide
theorem NS(h:∀p∈t8,p.1≠t)(x:Dh):¬Ap t x:=λa=>h _ a rfl
theorem Lr(h:Ap t x):t∉VV:=λm=>(by decide:∀p∈t8,p.1∉VV) _ h m
inductive Eo(fs ps:xh u9)(E:G9)(es Q:xh N9)(t:Dh):Prop
 |mk (E':G9) (Q':xh N9) (w:Me 4 11 .st [iv t] E (.a9 .none) E') (li:LI fs ps E'.toCor E'.trail.length es (Q++Q')) (e6:h5 E E') (qu:E'.queue=E.queue++Q') (ql:Q'.length<=1) (rt:E'.root=f9 E.root t t) (sd:E'.P9=E.P9/\E'.d8=E.d8/\E'.news=E.news) (rest:E'.clash=E.clash/\E'.marks=E.marks)
theorem ZZ(L:LI fs ps E.toCor E.trail.length es Q)(y:E.queue.length<=900)(F:t∈TT)(h:E.root t=none)(i:∀x,Ap t x->Kn E.root x):
  Eo fs ps E es Q t:=by
 have W:=L.mX;have tl':E.trail.length<=1000000:=vh W (by decide);have S:∀κ,E.ls (κ,t)=none:=λκ=>by
  cases κ with
  |mem=>exact L.mem.1 _ h
  |use=>exact L.use.1 _ h
  |Z9=>exact L.Z9.1 _ h
  |C9=>exact L.C9.1 _ h
 have P:=L.val.1 _ h;have l2:∀{x},(E.trail++[x]).length<=E.trail.length+1:=Ph Ch;have w:Tab _ E.tab:=λm z q=>(L.tb m z q).imp (λk=>e8.mpr (.inl k)) λq=>q.imp λx q=>q.imp λr q=>⟨q.1,(e9 (G7 h ⟨r,q.2.1⟩)).trans q.2.1,q.2.2⟩;haveI D:∀{v} _ _ (M:Me 4 11 .st [iv t] E _ {E.ent t v with trail:=E.trail++[.enter t []]}),Eo _ _ E _ Q t:=λ{v} U g M=>
  ⟨_,[],M,L.enter F h i (λz' z' z'=>rfl) (L.dw h U) g w (λz' z' h=>h) (λx z' a=>(U x a).elim) (λz' m=>(by nomatch m)) (vh l2 (Vg _)),(yL h S P).e6 rfl (.en t rfl rfl rfl (λz=>e8) h F i),(Th _).symm,ng _,rfl,⟨rfl,rfl,rfl⟩,rfl,rfl⟩
 refine(dh t F).elim (λk=>(List.mem_map.mp k).elim λp k=> ?_) λk=>k.elim (λk=>D (NS k.2) (.inr ⟨rfl,k.1⟩) (zu k.1 (O1 t F) tl')) λk=>D (NS k.2.2) (.inl ⟨rfl,k.2.1⟩) (Au k.1 (O1 t F) tl');have hx:Ap t p.2:=k.2▸k.1;generalize p.2=x at hx;refine(i x hx).elim λs hs=> ?_;have G:=(L.kn _ _ hs).2;haveI sn:=G7 h ⟨_,G⟩;have B:f9 _ t t x=some s:=(e9 (G7 h ⟨_,hs⟩)).trans hs;refine(L.use.2 _ G).elim λd hd=>hd.2.elim λu O=> ?_;haveI b:u.length<=1000000:=vh (O.2.len λz q=>q.1.elim λr q=>(L.kn _ _ q).1) (by decide);haveI I:=hd.1.trans (yh _ O.1);refine(uq (E:={E.ent t 0 with ls:=f9 _ _ _,trail:=E.trail++[.enter t [s]]}) (e8.mpr (.inr rfl)) hx B (O1 _ ((L.kn _ _ G).1)) w (vh l2 (vh (Vh W) (by decide))) (vh y (by decide))).casesOn λk tr Q c g z' N q w K A fd=>(⟨G9.lk {E.ent t 0 with ls:=f9 _ _ _,trail:=E.trail++[.enter t [s]]} k _ _,Q,Bu hx (O1 t F) B (G4.trans ((Fh sn).trans I)) b tl' (by cases c with|cons c1 X=>cases X;exact c1.lift),L.enter F h i (λκ r n=>e9 (uV n)) (L.ew h hx B sn (O.1▸hd.2)) (.inl ⟨rfl,Lr hx⟩) w K (λx r a q=> ?_) A ?_,h5.trans ((wL h S P sn I b).e6 (E1:={E.ent t 0 with ls:=f9 _ _ _,trail:=E.trail++[.enter t [s]]}) rfl (.en t rfl rfl rfl (λz=>e8) h F i)) g,rfl,q,rfl,⟨rfl,rfl,rfl⟩,rfl,rfl⟩)
 ·rw [T2 a hx] at q;exact Bh (q.symm.trans B)▸fd t (.head _)
 ·exact vh N (Vh l2)
end
section
variable{m tl:Mh}{E E1 E2:G9}{fs ps:xh u9}{es Q Q':xh N9}{t x z a b:Dh}{ρ:Dh->Ah Dh}{C:Cor}{R R':Dh->Dh->Prop}{l:xh Dh}
def Dp:Mh->Dh->Prop
 |0,_=>False
 |m+1,t=>t∈TT/\∀x,Ap t x->Dp m x
theorem Sq(h:t∈TT):Dp 3 t:=⟨h,λz' hx=>⟨(o0 hx).2.1,λz' c=>⟨(o0 c).2.1,λz' hw=>(by decide:∀p∈t8,∀q∈t8,∀r∈t8,p.2=q.1->q.2=r.1->False) _ hx _ c _ hw rfl rfl⟩⟩⟩
theorem MI(t:Dh):(∃x,Ap t x)\/∀p∈t8,p.1≠t:=by
 by_cases h:t∈t8.map (·.1)
 ·exact(List.mem_map.mp h).elim λp q=> .inl ⟨p.2,q.2▸q.1⟩
 ·exact .inr λp m e=>h (List.mem_map.mpr ⟨p,m,e⟩)
theorem nN(h:t∈TT):∃as,(∀E,Mz 2 9 .all [iv t] E (.a9 (.tuple (zs as))) E)/\((as=[]/\∀p∈t8,p.1≠t)\/∃x,as=[x]/\Ap t x):=
 (dh t h).elim (λk=>(List.mem_map.mp k).elim λp k=>⟨[p.2],λE P g K hB z'=>Px (hB.a _ _ (k.2▸k.1)) hB f5 rfl,.inr ⟨p.2,rfl,k.2▸k.1⟩⟩) λk=>k.elim (λk=>⟨[],λE P g K hB z'=>(hB.v t k.1).elim λd T=>ip k.1 T hB f5 rfl,.inl ⟨rfl,k.2⟩⟩) λk=>⟨[],λE P g K hB z'=>(hB.c t k.1).elim λd T=>Px T hB f5 rfl,.inl ⟨rfl,k.2.2⟩⟩
inductive Ao(fs ps:xh u9)(E:G9)(es:xh N9)(t:Dh)(m:Mh):Prop
 |mk (E':G9) (li:LI fs ps E'.toCor E'.trail.length es E'.queue) (e6:h5 E E') (rest:E'.clash=E.clash/\E'.marks=E.marks) (sd:E'.P9=E.P9/\E'.d8=E.d8/\E'.news=E.news) (ql:E'.queue.length<=E.queue.length+m) (wD:cP E.root E'.root) (add:∀st E2,st.length+m<=100->Add st E' E2->Add (st++[t]) E E2) (kt:Kn E'.root t) (lt:∀z,Kn E'.root z->Kn E.root z\/z<=t)
theorem AZ{s:xh Dh}{k:Mh}(h:s.length+(m+1)<=100)(c:100<=k):(s++[t]).length+m<=k:=by
 refine rL Ch ?_;rw [Wg,af _ m];exact vh h c
theorem KX(L:LI fs ps E.toCor E.trail.length es Q)(h:E.root t=none)(c:ρ=f9 E.root t t):cP E.root ρ:=λa b e=>e.elim λr e=>by
 rw [c] at e;by_cases z:r=t
 ·rw [z] at e;haveI k:∀z r,E.root z=some r->E.root r=some r:=λz' z' h=>(L.kn _ _ h).2;exact .inl (((V3 k h).mp e.1).trans ((V3 k h).mp e.2).symm)
 ·exact .inr ⟨r,(g8 h z).mp e.1,(g8 h z).mp e.2⟩
theorem cP.trans{f d c:Dh->Ah Dh}(h:cP f d)(g:cP d c):cP f c:=λa b e=>(g a b e).elim .inl (h a b)
theorem VE{m:Mh}:∀{t E},Dp m t->LI fs ps E.toCor E.trail.length es E.queue->E.queue.length+m<=100->Ao fs ps E es t m:=by
 induction m with
 |zero=>exactλh=>h.elim
 |succ m U=>
  intro t E hd L B;cases f:E.root t with
  |some r=>exact⟨E,L,.refl,⟨rfl,rfl⟩,⟨rfl,rfl,rfl⟩,Qh _ _,λz' z'=> .inr,λH z' hs A=> .known (vh (Qh _ _) (AZ hs (by decide))) (yh _ f) A,⟨r,f⟩,λz'=> .inl⟩
  |none=>
   have F:=hd.1;refine(nN F).elim λas I=> ?_;have is:∀{x} {E:G9},Kn _ x->(E.root x).isSome=true:=λk=>k.elim λr k=>yh _ k;by_cases c:∀x,Ap t x->Kn E.root x
   ·refine(ZZ L (vh (vh (Qh _ _) B) (by decide)) F f c).casesOn λE' z' w D d j G g o rest=> ?_;refine⟨E',j▸D,d,rest,o,?_,KX L f g,λH z' hs A=> .new (vh (Qh _ _) (AZ hs (by decide))) (yh _ f) (I.1 E) (I.2.imp And.left λh=>h.imp λx h=>⟨h.1,is (c x h.2)⟩) w A,g▸e8.mpr (.inr rfl),λz k=>(e8.mp (g▸k)).imp id λe=>Int.le_of_eq e⟩;refine rL j (rL Ch ?_);exact Sh (vh G (Vh (ng _))) _
   ·refine(MI t).elim (λh=>h.elim λx a=> ?_) λh=>(c λx a=>(NS h x a).elim).elim;have v:E.root x=none:=by
     cases q:E.root x with
     |none=>rfl
     |some r=>exact(c λy b=>T2 a b▸⟨r,q⟩).elim
    refine(U (hd.2 x a) L (vh (Sh (Vg m) _) B)).casesOn λE1 O s1 J p M P T k1 l=> ?_;have i:E1.root t=none:=by
     cases q:E1.root t with
     |none=>rfl
     |some r=>exact((l t ⟨r,q⟩).elim (λk=>G7 f k rfl) λh=>Int.not_le.mpr (o0 a).2.2 h).elim
    refine(ZZ O (vh M (vh (vh (Sh (Vg m) _) B) (by decide))) F i λy b=>T2 a b▸k1).casesOn λE' z' w D d j G g o rest=> ?_;haveI K:as=[x]:=I.2.elim (λe=>(NS e.2 x a).elim) λh=>h.elim λy h=>by refine rL (T2 a h.2) ?_;exact h.1
    refine⟨E',j▸D,s1.trans d,⟨rest.1.trans J.1,rest.2.trans J.2⟩,⟨o.1.trans p.1,o.2.1.trans p.2.1,o.2.2.trans p.2.2⟩,?_,P.trans (KX O i g),λH z' hs A=> .more (vh (Vh (vh (Qh _ _) (AZ hs (Oh _)))) (by decide)) (yh _ f) (K▸I.1 E) (yh _ v) (T _ _ (AZ hs (Oh _)) (.new (vh (Qh _ _) (AZ hs (by decide))) (yh _ i) (I.1 _) (.inr ⟨x,K,is k1⟩) w A)),g▸e8.mpr (.inr rfl),λz k=>(e8.mp (g▸k)).elim (λk=>(l z k).imp id λh=>Ge (Rf h (o0 a).2.2)) λe=> .inr (Int.le_of_eq e)⟩;refine rL j (rL Ch ?_);exact(Cg M G:_<=E.queue.length+m+1)
theorem Cl.mono(h:∀x y,R x y->R' x y)(c:Cl R a b):Cl R' a b:=λg f d e=>c _ f (λx y q=>d x y (h x y q)) e
def sY(fs:xh u9)(a b:Dh):Prop:=∃m,(a,b,m)∈fs
def p4(fs ps:xh u9):Prop:=∀f∈Pa ps,¬Cl (sY fs) f.1 f.2.1
theorem Told.all(h:Told fs a b l):Cl (sY fs) a b:=h.elim λf h=>h.2.2.2.2.mono λx y q=>q.imp λm q=>q.1
theorem r4.not(h:r4 fs ps l)(c:p4 fs ps):False:=h.elim λf h=>h.elim λd h=>c f h.1 h.2.1.all
structure Good(fs ps:xh u9)(E:G9):Prop where
 li:∃es,LI fs ps E.toCor E.trail.length es []
 nt:NT ps E.root
 ct:CT ps E.toCor
 cl:E.clash=none
 qu:E.queue=[]
 nw:NW E
structure KM(E E':G9):Prop where
 e6:h5 E E'
 z4:E'.marks=E.marks
 nw:Nw E E'
theorem KM.trans(h:KM E E1)(g:KM E1 E2):KM E E2:=⟨h.e6.trans g.e6,g.z4.trans h.z4,h.nw.trans g.nw⟩
theorem h5.kn(s:h5 E E1):Kn E.root z->Kn E1.root z:=s.casesOn λz' z' z' z' b=>b.mono z
theorem eY(L:LI fs ps E.toCor E.trail.length es E.queue)(nw:NW E)(nt:NT ps E.root)(ct:CT ps E.toCor)(hc:E.clash=none)(hm:E.marks.length<=1000)(hq:E.queue.length<=700)(c:p4 fs ps):
  ∃E',Me 6 15 .st [] E (.a9 .none) E'/\Good fs ps E'/\KM E E'/\(∀z,Kn E'.root z↔Kn E.root z)/\E'.P9=E.P9:=
 (UV L nw nt ct hc hm hq).imp λE' h=>h.elim λes' h=>h.elim λQ' h=>⟨h.1,h.2.1.fl.elim (λf=>⟨⟨es',f.2.2▸h.2.1.li⟩,f.2.1.1,f.2.1.2,f.1,h.2.2,h.2.1.nw.news nw⟩) λf=>f.elim λl f=>(f.2.2.not c).elim,⟨h.2.1.e6,h.2.1.z4,h.2.1.nw⟩,h.2.1.kn,h.2.1.sd⟩
theorem M7(G:Good fs ps E)(c:p4 fs ps)(ht:t∈TT)(hm:E.marks.length<=1000):
  ∃E',Me 7 10 .st [iv t] E (.a9 .none) E'/\Good fs ps E'/\KM E E'/\Kn E'.root t/\E'.P9=E.P9:=by
 refine G.li.elim λes L=>((VE (Sq ht) (G.qu.symm▸L) (by rw [G.qu];decide)).casesOn λE1 L1 s1 r1 d1 q1 n1 a1 k1 lt1=> ?_);rw [G.qu] at q1;have w:Nw E E1:= .of d1.2.1 d1.2.2;exact(eY L1 (w.news G.nw) (G.nt.wD n1 L.pk) (G.ct.wD n1 L.sk d1.1 d1.2.1) (r1.1.trans G.cl) (r1.2▸hm) (vh q1 (by decide)) c).imp λE' h=>⟨ak (a1 [] E1 (by decide) .nil) h.1,h.2.1,⟨s1.trans h.2.2.1.e6,h.2.2.1.z4.trans r1.2,w.trans h.2.2.1.nw⟩,(h.2.2.2.1 t).mpr k1,h.2.2.2.2.trans d1.1⟩
theorem LI.fact{m:Dh}(L:LI fs ps C tl es [])(ha:Kn C.root a)(hb:Kn C.root b):LI (fs++[(a,b,m)]) ps C tl es [(a,b,.mk m)]:=
 have mo:∀{x z},Pq C.root [] x z->Pq C.root [(a,b,.mk m)] x z:=λp=>p.mono (Q:=[]) (λz' z' h=>h) (λz' m=>(by nomatch m))
 {L with
  P:=⟨L.P.F,L.P.u,λp e q h=>(L.P.j p e q h).mono (λz'=>Zh _) λz' z' h=>h⟩
  tc:=λt x r h1 h2 h3=>(L.tc t x r h1 h2 h3).imp λo q=>⟨q.1,mo q.2⟩
  fx:=λf h=>(i8 h).elim (λh=>mo (L.fx f h)) λe=>e▸λz' z' z' h2=>h2 _ (.head _)
  qj:=λe h=>List.mem_singleton.mp h▸⟨ha,hb,.inl (fg _ (.head _))⟩}
def Dd(fs ps:xh u9)(E E':G9):Prop:=KM E E'/\E'.P9=E.P9/\(∃ps' es Q,LI fs ps' E'.toCor E'.trail.length es Q)/\NW E'/\(Good fs ps E'\/∃l,E'.clash=some l/\E'.g0=E.marks.length/\r4 fs ps l)
theorem BO{m:Dh}(G:Good fs ps E)(c:p4 fs ps)(ha:a∈TT)(hb:b∈TT)(hm:E.marks.length<=1000):
  ∃E',Me 8 14 .st [iv a,iv b,.a9 (.int m)] E (.a9 .none) E'/\Dd (fs++[(a,b,m)]) ps E E':=by
 refine(M7 G c ha hm).elim λE1 h1=>(M7 h1.2.1 c hb (h1.2.2.1.z4▸hm)).elim λE2 h2=> ?_;have G2:=h2.2.1;have k2:=h1.2.2.1.trans h2.2.2.1;refine G2.li.elim λes L2=>((UV (E:={E2 with queue:=E2.queue++[(a,b,.mk m)]}) (by show LI _ _ _ _ _ (E2.queue++_);rw [G2.qu];exact L2.fact (h2.2.2.1.e6.kn h1.2.2.2.1) h2.2.2.2.1) G2.nw G2.nt G2.ct G2.cl (k2.z4.symm▸hm) (by show(E2.queue++_).length<=_;rw [G2.qu];exact Jg rfl)).imp λE3 h=>h.elim λes3 h=>h.elim λQ3 h=>⟨Zl h1.1 h2.1 (by rw [G2.qu];exact ng _) h.1,k2.trans ⟨h.2.1.e6.from rfl rfl,h.2.1.z4,(Nw.of (E:=E2) (E1:={E2 with queue:=E2.queue++[(a,b,.mk m)]}) rfl rfl).trans h.2.1.nw⟩,h.2.1.sd.trans (h2.2.2.2.2.trans h1.2.2.2.2),⟨ps,es3,Q3,h.2.1.li⟩,h.2.1.nw.news G2.nw,?_⟩);exact h.2.1.fl.elim (λf=> .inl ⟨⟨es3,f.2.2▸h.2.1.li⟩,f.2.1.1,f.2.1.2,f.1,h.2.2,h.2.1.nw.news G2.nw⟩) λf=> .inr<|f.imp λl f=>⟨f.1,f.2.1.trans (yh (λl=>((Hd l):Dh)) k2.z4),f.2.2⟩
end
section
variable{m t x z u a b one other r:Dh}{E E1 E2:G9}{fs ps:xh u9}{es:xh N9}{ρ:Dh->Ah Dh}{C C1:Cor}{tl:Mh}{l l1 l2:xh Jh}{f:u9}{κ:LK}{g:LK×Dh->Ah (xh Jh)}
theorem Oq(h:κ≠κ'){A:xh Jh}:(λr=>f9 g (κ',one) A (κ,r))=λr=>g (κ,r):=funext λr=>e9 (uV h)
theorem X2.zD(h:X2 ps ρ r l)(q:ρ f.1=some r\/ρ f.2.1=some r):X2 (ps++[f]) ρ r (l++[t4 f]):=h.elim λts h=>⟨ts++[f],by rw [h.1,bg];rfl,λc=>by
 rw [Fd,Fd,h.2,zf];exact⟨λk=>k.elim (λk=>⟨.inl k.1,k.2⟩) λk=>⟨.inr k,k.symm▸q⟩,λk=>k.1.elim (λk'=> .inl ⟨k',k.2⟩) .inr⟩⟩
theorem X2.Rw(h:X2 ps ρ r l)(q:ρ f.1≠some r)(d:ρ f.2.1≠some r):X2 (ps++[f]) ρ r l:=h.imp λt h=>⟨h.1,λc=>(h.2 c).trans (by
 rw [Fd,zf];exact⟨λk=>⟨.inl k.1,k.2⟩,λk=>⟨k.1.elim id λe=>(k.2.elim (e▸q) (e▸d)).elim,k.2⟩⟩)⟩
theorem tB{w j n:Mh}(h:n<=w*2^j):n+1<=(w+1)*2^j:=by rw [Nat.succ_mul];exact Cg h (Nat.one_le_two_pow)
theorem LI.apart(L:LI fs ps C tl es [])(s:C.root f.1=some one)(k:C.root f.2.1=some other)(hn:one≠other)(B:C.ls (.Z9,one)=some l1)(A:C.ls (.Z9,other)=some l2)(hp:ps.length<20):
  LI fs (ps++[f]) {C with ls:=f9 (f9 C.ls (.Z9,one) (l1++[t4 f])) (.Z9,other) (l2++[t4 f])} (tl+1) es []:=by
 have y:=(L.kn _ _ s).2;haveI w:=(L.kn _ _ k).2;haveI v:(ps++[f]).length=ps.length+1:=Ch;haveI u:∀{p} {κ:LK},κ≠ .Z9->Of _ _ p->Of C.root (λr=>f9 (f9 C.ls (.Z9,one) (l1++[t4 f])) (.Z9,other) (l2++[t4 f]) _) p:=λn h=>by refine rL (Oq n) (rL (Oq n) ?_);exact h
 refine⟨L.kn,L.sub,u LK.noConfusion L.mem,u LK.noConfusion L.use,⟨λt h=> ?_,λr D=> ?_⟩,u LK.noConfusion L.C9,λκ r l hκ h=> ?_,L.val,L.tb,L.P,L.c1,L.c2,L.tc,L.fx,L.qj,λg m=>(i8 m).elim (L.pk g) λe=>by refine rL e ?_;exact⟨⟨_,s⟩,_,k⟩,L.sk,λt o h=>(L.tk t o h).imp λa q=>q.imp λb q=>⟨q.1,q.2.mono (λz' z' h=>h) λz'=>Zh _⟩,by refine rL v ?_;exact hp,by refine rL v ?_;exact Vh L.XJ|>(vh (Ph (Gg ..)))⟩
 ·have n:∀{x},C.root x=some x->t≠x:=λq e=>by rw [e,q] at h;exact(by nomatch h)
  exact((e9 (xX (n w))).trans (e9 (xX (n y)))).trans (L.Z9.1 t h)
 ·by_cases j:r=other
  ·exact⟨_,j▸i9,j▸(L.Z9.at w A).zD (.inr k)⟩
  ·by_cases e1:r=one
   ·exact⟨_,(e9 (xX j)).trans (e1▸i9),e1▸(L.Z9.at y B).zD (.inl s)⟩
   ·exact(L.Z9.2 r D).imp λl q=>⟨(e9 (xX j)).trans ((e9 (xX e1)).trans q.1),q.2.Rw (λz=>e1 (Bh (z.symm.trans s))) λz=>j (Bh (z.symm.trans k))⟩
 ·show l.length<=(nS C.P9+(ps++[f]).length)*2^(nK C.root-nC C.root);refine rL v ?_;have up:∀{l},C.ls (.Z9,one)=some l\/C.ls (.Z9,other)=some l->(l++[t4 f]).length<=(nS C.P9+ps.length+1)*2^(nK C.root-nC C.root):=λh=>Ch▸tB (h.elim (L.bd _ _ _ (.inl rfl)) (L.bd _ _ _ (.inl rfl)));by_cases j:(κ,r)=(.Z9,other)
  ·haveI h:f9 _ _ _ (κ,r)=some l:=h;rw [j,i9] at h;exact Bh h▸up (.inr A)
  ·haveI h:f9 _ _ _ (κ,r)=some l:=h;rw [e9 j] at h;by_cases e1:(κ,r)=(.Z9,one)
   ·rw [e1,i9] at h;exact Bh h▸up (.inl B)
   ·rw [e9 e1] at h;exact vh (L.bd _ r l hκ h) (Nat.mul_le_mul_right _ (Vg _))
theorem CT.tell{c:xh u9}(d:CT ps C)(s:C1.P9=C.P9)(r:C1.root=C.root)(n:∀t,C1.d8 t=none->C.d8 t=none)(w:∀t a b,C.P9 t=some (a,b)->C1.d8 t=none->(∃o,p0 c C.root a b o)->∃o,p0 ps C.root a b o):CT c C1:=λt a b q g o p=>by
 rw [s] at q;rw [r] at p;exact(w t a b q g ⟨o,p⟩).elim λo' p'=>d t a b q (n t g) _ p'
theorem ZW(G:Good fs ps E)(c:p4 fs ps)(ha:a∈TT)(hb:b∈TT)(hm:E.marks.length<=1000)(hp:ps.length<20):
  ∃E',Me 8 26 .st [iv a,iv b,iv m] E (.a9 .none) E'/\Dd fs (ps++[(a,b,m)]) E E':=by
 refine(M7 G c ha hm).elim λE1 h1=>(M7 h1.2.1 c hb (h1.2.2.1.z4▸hm)).elim λE2 h2=> ?_;have G2:=h2.2.1;have k2:=h1.2.2.1.trans h2.2.2.1;have sd2:=h2.2.2.2.2.trans h1.2.2.2.2;have mk2:E2.marks.length<=1000000:=k2.z4.symm▸vh hm (by decide);refine G2.li.elim λes L=>(h2.2.2.1.e6.kn h1.2.2.2.1).elim λone ra=>h2.2.2.2.1.elim λother rb=> ?_;have o1:=(L.kn _ _ ra).2;have o2:=(L.kn _ _ rb).2;refine(L.ls o1 .Z9).elim λl1 a1=>(L.ls o2 .Z9).elim λl2 a2=> ?_;have b1:l1.length<=1000000:=vh a1.2 (by decide);have b2:l2.length<=1000000:=vh a2.2 (by decide);have b3:E2.trail.length<=1000000:=vh L.mX (by decide);by_cases e:one=other
 ·have rb:=e.symm▸rb;refine(C3 L.P ra rb (L.c1 _ _ ⟨one,ra,rb⟩) ha hb).elim λx hx=>(⟨{E2 with clash:=some (P7 x m),g0:=E2.marks.length},ku h1.1 h2.1 G2.cl ra rb hx.1 (vh hx.2.len (by decide)) mk2,⟨k2.e6.to rfl rfl,k2.z4,k2.nw.trans (.of rfl rfl)⟩,sd2,⟨ps,es,[],L⟩,G2.nw,.inr ⟨_,rfl,yh (λl=>((Hd l):Dh)) k2.z4,(a,b,m),x,ve _ (fg _ (.head _)),hx.2,rfl⟩⟩)
 ·have L3:=L.apart (f:=(a,b,m)) ra rb e a1.1 a2.1 hp;have ln:(E2.trail++[Ent.apart one other]).length=E2.trail.length+1:=Ch;refine(L3.C9.2 one o1).elim λd hd=>hd.2.elim λws hws=> ?_;have hw:=hd.1.trans (yh some hws.1);refine(PW (E:={E2 with ls:=f9 (f9 E2.ls (.Z9,one) (l1++[t4 (a,b,m)])) (.Z9,other) (l2++[t4 (a,b,m)]),trail:=E2.trail++[.apart one other]}) (ln.symm▸L3) G2.nw λt m=>((hws.2 t).mp m).imp λa h=>h.imp λb h=>h.1).elim λE5 T=> ?_;have x5:=T.2.1.ex;have r5:E5.root=E2.root:=by rw [x5]
  have s5:E5.P9=E2.P9:=by rw [x5]
  have nw5:Nw E2 E5:=Nw.trans (E1:={E2 with ls:=f9 (f9 E2.ls (.Z9,one) (l1++[t4 (a,b,m)])) (.Z9,other) (l2++[t4 (a,b,m)]),trail:=E2.trail++[.apart one other]}) (.of rfl rfl) T.2.1.n;refine⟨E5,lu h1.1 h2.1 G2.cl ra rb e a1.1 a2.1 b1 b2 b3 (Fq hw T.1 (by rw [x5];exact hw)),k2.trans ⟨h5.trans ((vP e a1.1 a2.1 b1 b2).e6 (E1:={E2 with ls:=f9 (f9 E2.ls (.Z9,one) (l1++[t4 (a,b,m)])) (.Z9,other) (l2++[t4 (a,b,m)]),trail:=E2.trail++[.apart one other]}) rfl (.no (λz'=>Sg) rfl rfl rfl)) T.2.1.e6,by rw [x5],nw5⟩,s5.trans sd2,⟨_,es,[],T.2.2.1⟩,nw5.news G2.nw,.inl ⟨⟨es,T.2.2.1⟩,λf m e'=> ?_,?_,by rw [x5];exact G2.cl,by rw [x5];exact G2.qu,nw5.news G2.nw⟩⟩
  ·rw [r5] at e';refine(List.mem_cons.mp m).elim (λz=>G2.nt f (z▸ .head _) e') λm=>(i8 m).elim (λm=>G2.nt f (ve _ m) e') λz=> ?_;rw [z] at e';exact e'.elim λr q=>e (Bh ((ra.symm.trans q.1).trans (q.2.symm.trans rb)))
  ·refine G2.ct.tell s5 r5 (λt g=>nw5.no g) λt a' b' q g k=> ?_;refine Classical.byContradiction λno=>k.elim λo p=> ?_;have sdn:¬Sd E2.P9 E2.root one t:=λz=>T.2.2.2 t ((hws.2 t).mpr z) a' b' q g o p;refine no ⟨o,?_⟩;cases o with
   |none=>exact p
   |some c=>
    have old:∀{w:u9},w∈Pa (ps++[(a,b,m)])->w≠(a,b,m)->w∈Pa ps:=λk n=>List.mem_cons.mpr ((List.mem_cons.mp k).imp id λk=>(i8 k).resolve_right n);refine⟨p.1,p.2.1,p.2.2.imp (λk=>old k λz=> ?_) λk=>old k λz=> ?_⟩
    ·rw [z] at p;exact sdn ⟨a',b',q,.inl (p.1.elim λr h=>h.1.trans (h.2.symm.trans ra))⟩
    ·have z:=(sf z).1;exact sdn ⟨a',b',q,.inr (p.2.1.elim λr h=>h.1.trans (h.2.symm.trans (z▸ra)))⟩
variable{p:Dh}{Q Q':xh N9}{seg:xh Ent}{ent us vs:xh Dh}{wt:xh o8}{σ:Dh->Ah (Dh×Dh)}
theorem Sd.ne(n:z≠t):Sd (f9 σ t (a,b)) ρ r z↔Sd σ ρ r z:=by unfold Sd;rw [e9 n]
theorem U2.zD(h:U2 σ ρ r (zs us))(c:σ t=none)(q:ρ a=some r\/ρ b=some r):U2 (f9 σ t (a,b)) ρ r (zs (us++[t])):=h.elim λm h=>⟨us++[t],rfl,λz=>by
 rw [Fd,zf,pU h.1,h.2];by_cases e:z=t
 ·refine rL e ?_;exact⟨λz'=>⟨a,b,i9,q⟩,λz'=> .inr rfl⟩
 ·rw [Sd.ne e];exact Xb e⟩
theorem U2.Rw(h:U2 σ ρ r l)(d:σ t=none)(c:ρ a≠some r)(q:ρ b≠some r):U2 (f9 σ t (a,b)) ρ r l:=h.imp λus h=>⟨h.1,λz=>(h.2 z).trans (by
 by_cases e:z=t
 ·refine rL e ?_;exact⟨λk=>k.elim λz' k=>k.elim λz' k=>XQ d k.1,λk=>k.elim λf k=>k.elim λb' k=>by
   haveI g:=sf (Bh (i9.symm.trans k.1));exact(k.2.elim (g.1▸c) (g.2▸q)).elim⟩
 ·exact(Sd.ne e).symm)⟩
theorem aZ{f:LK×Dh->Ah (xh Jh)}{κ:LK}:L4 f t one other us vs (κ,r)=if κ= .C9/\r=one/\one=other then some (zs (us++[t])) else if κ= .C9/\r=other/\one≠other then some (zs (vs++[t])) else if κ= .C9/\r=one then some (zs (us++[t])) else f (κ,r):=by
 unfold L4;by_cases k:κ= .C9
 ·refine rL k ?_;by_cases e:one=other
  ·rw [Lh e];by_cases g:r=one
   ·exact rL (Lh ⟨rfl,g,e⟩) (rL g (rL i9 rfl))
   ·refine rL (Fh λz=>g z.2.1) ?_;rw [Fh λz=>z.2.2 e,Fh λz=>g z.2,e9 (xX g)]
  ·refine rL (Fh e) (rL (Fh λz=>e z.2.2) ?_);by_cases g:r=other
   ·exact rL (Lh ⟨rfl,g,e⟩) (rL g (rL i9 rfl))
   ·refine rL (Fh λz=>g z.2.1) (rL (e9 (xX g)) ?_);by_cases g:r=one
    ·exact rL (Lh ⟨rfl,g⟩) (rL g (rL i9 rfl))
    ·exact rL (Fh λz=>g z.2) (rL (e9 (xX g)) rfl)
 ·haveI n:∀{p} [ub (κ= .C9/\p)] {x y:Ah (xh Jh)},(if κ= .C9/\p then x else y)=y:=λ{p _ x y}=>Fh λz=>k z.1;refine rL n (rL n (rL n ?_));by_cases e:one=other
  ·refine rL (Lh e) ?_;exact e9 (uV k)
  ·refine rL (Fh e) ?_;exact(e9 (uV k)).trans (e9 (uV k))
theorem fH{f:LK×Dh->Ah (xh Jh)}{κ:LK}(n:κ≠ .C9):(λr=>L4 f t one other us vs (κ,r))=λr=>f (κ,r):=funext λr=>aZ.trans (rL (Fh λz=>n z.1) (rL (Fh λz=>n z.1) (rL (Fh λz=>n z.1) rfl)))
theorem LI.watch(L:LI fs ps C B es Q)(j:C.P9 t=none)(F:t∈UW)(k:C.root a=some one)(y:C.root b=some other)(v:C.ls (.C9,one)=some (zs us))(G:one≠other->C.ls (.C9,other)=some (zs vs)):
  LI fs ps {C with P9:=f9 C.P9 t (a,b),ls:=L4 C.ls t one other us vs} (B+1) es Q:=by
 haveI D:=(L.kn _ _ k).2;have ns:nS (f9 C.P9 t (a,b))=nS C.P9+1:=Q2 (rL j rfl) (rL i9 rfl) (λz n=>by rw [e9 n]) (by decide) F;haveI A:∀{p} {κ:LK},κ≠ .C9->Of _ _ p->Of C.root (λr=>L4 C.ls t one other us vs _) p:=λn h=>by refine rL (fH n) ?_;exact h
 refine⟨L.kn,L.sub,A LK.noConfusion L.mem,A LK.noConfusion L.use,A LK.noConfusion L.Z9,⟨λz h=> ?_,λr u=> ?_⟩,λκ r l hκ h=> ?_,L.val,L.tb,L.P,L.c1,L.c2,L.tc,L.fx,L.qj,L.pk,λz c d q=> ?_,λz o q=>(L.tk z o q).imp λc q=>q.imp λd q=>⟨(e9 λe=>by rw [e,j] at q;exact(by nomatch q.1)).trans q.1,q.2⟩,L.pl,?_⟩
 ·haveI n:∀{x},C.root x=some x->z≠x:=λq e=>by rw [e,q] at h;exact(by nomatch h)
  refine aZ.trans ?_;exact rL (Fh λq=>n D q.2.1) (rL (Fh λq=>n ((L.kn _ _ y).2) q.2.1) (rL (Fh λq=>n D q.2) (L.C9.1 z h)))
 ·show∃l,L4 _ t _ _ _ _ _=some l/\_;refine rL aZ ?_;by_cases e1:r=one
  ·by_cases e:one=other
   ·refine rL (Lh ⟨rfl,e1,e⟩) ?_;exact⟨_,rfl,(L.C9.at u (e1▸v)).zD j (.inl (e1▸k))⟩
   ·refine rL (Fh λq=>e q.2.2) (rL (Fh λq=>e (e1.symm.trans q.2.1)) (rL (Lh ⟨rfl,e1⟩) ?_));exact⟨_,rfl,(L.C9.at u (e1▸v)).zD j (.inl (e1▸k))⟩
  ·by_cases i:r=other
   ·haveI e:one≠other:=λe=>e1 (i.trans e.symm);refine rL (Fh λq=>e1 q.2.1) (rL (Lh ⟨rfl,i,e⟩) ?_);exact⟨_,rfl,(L.C9.at u (i▸G e)).zD j (.inr (i▸y))⟩
   ·exact rL (Fh λq=>e1 q.2.1) (rL (Fh λq=>i q.2.1) (rL (Fh λq=>e1 q.2) ((L.C9.2 r u).imp λl q=>⟨q.1,q.2.Rw j (λz=>e1 (Bh (z.symm.trans k))) λz=>i (Bh (z.symm.trans y))⟩)))
 ·show l.length<=(nS _+ps.length)*2^(nK C.root-nC C.root);refine rL ns ?_;rw [Gg];have up:∀{l r},C.ls (.C9,r)=some _->(zs _).length<=(nS _+ps.length+1)*2^_:=λ{l r} h=>by
   exact rL (show(zs (l++[t])).length=(zs l).length+1 by rw [<-j1,Ch];rfl) (tB (L.bd _ _ _ (.inr rfl) h))
  replace h:L4 _ t _ _ _ _ _=some l:=h;rw [aZ] at h;split at h
  ·exact Bh h▸up v
  ·split at h
   ·rename_i q;exact Bh h▸up (G q.2.2)
   ·split at h
    ·exact Bh h▸up v
    ·exact vh (L.bd _ r l hκ h) (Nat.mul_le_mul_right _ (Vg _))
 ·by_cases e:z=t
  ·haveI g:=sf (Bh (i9.symm.trans (e▸q)));exact⟨e▸F,g.1▸⟨_,k⟩,g.2▸⟨_,y⟩⟩
  ·exact L.sk z c d ((e9 e).symm.trans q)
 ·show B+1+6*nC _<=8*nK _+nS _+nS _+ps.length;refine rL ns ?_;rw [Gg,<-Wg,Gg _ 1,Gg _ 1];exact Vh L.XJ
theorem UP(G:Good fs ps E)(h0:E.P9 t=none)(ht:t∈UW)(ka:Kn E.root a)(kb:Kn E.root b):
  ∃E',Me 4 32 .st [iv t,iv a,iv b] E (.a9 .none) E'/\Good fs ps E'/\KM E E'/\E'.P9=f9 E.P9 t (a,b)/\E'.root=E.root:=by
 refine G.li.elim λes L=>ka.elim λone ra=>kb.elim λother rb=> ?_;have o1:=(L.kn _ _ ra).2;have o2:=(L.kn _ _ rb).2;have bl:∀{us:xh Dh} {r:Dh},E.ls (.C9,r)=some (zs us)->us.length<=1000000:=λh=>by
  have:=vh (L.bd _ _ _ (.inr rfl) h) (wO L.pl);exact vh (Ph (Eh _).symm) (vh this (by decide))
 refine(L.C9.2 one o1).elim λd1 w1=>w1.2.elim λus hu=>(L.C9.2 other o2).elim λd2 w2=>w2.2.elim λvs hv=> ?_;have h1:=w1.1.trans (yh some hu.1);have h2:=w2.1.trans (yh some hv.1);have LW:=L.watch h0 ht ra rb h1 λz'=>h2;have ln:(E.trail++[Ent.watch t one other]).length=E.trail.length+1:=Ch;refine(iS (E:={E with P9:=f9 E.P9 t (a,b),ls:=L4 E.ls t one other us vs,trail:=E.trail++[.watch t one other]}) (ln.symm▸LW) G.nw i9).imp λE' T=> ?_;have x5:=T.tl.ex;have nw5:Nw E E':=Nw.trans (E1:={E with P9:=f9 E.P9 t (a,b),ls:=L4 E.ls t one other us vs,trail:=E.trail++[.watch t one other]}) (.of rfl rfl) T.tl.n;have r5:E'.root=E.root:=by rw [x5]
 refine⟨Ql ra rb (VL t ht) h1 (λz'=>h2) (bl h1) (λz'=>bl h2) (vh L.mX (by decide)) T.w,⟨⟨es,T.li⟩,r5.symm▸G.nt,λz c d q g o k=> ?_,by rw [x5];exact G.cl,by rw [x5];exact G.qu,nw5.news G.nw⟩,⟨h5.trans ((uP h1 (λz'=>h2) h0 (bl h1) λz'=>bl h2).e6 (E1:={E with P9:=f9 E.P9 t (a,b),ls:=L4 E.ls t one other us vs,trail:=E.trail++[.watch t one other]}) rfl (.wt t a b rfl rfl rfl (λz'=>Sg) h0)) T.tl.e6,by rw [x5],nw5⟩,by rw [x5],r5⟩;have q:f9 E.P9 t (a,b) z=some (c,d):=by rw [x5] at q;exact q
 rw [r5] at k;by_cases e:z=t
 ·exact T.cm c d (e▸q) (e▸g) o k
 ·exact G.ct z c d ((e9 e).symm.trans q) (nw5.no g) o k
theorem gP(G:Good fs ps E)(c:p4 fs ps)(h0:E.P9 t=none)(ht:t∈UW)(ha:a∈TT)(hb:b∈TT)(hm:E.marks.length<=1000):
  ∃Ea Eb E',Me 7 10 .st [iv a] E (.a9 .none) Ea/\Me 7 10 .st [iv b] Ea (.a9 .none) Eb/\Me 4 32 .st [iv t,iv a,iv b] Eb (.a9 .none) E'/\Good fs ps E'/\KM E E'/\E'.P9=f9 E.P9 t (a,b):=by
 refine(M7 G c ha hm).elim λE1 h1=>(M7 h1.2.1 c hb (h1.2.2.1.z4▸hm)).elim λE2 h2=> ?_;have sd:=h2.2.2.2.2.trans h1.2.2.2.2;exact(UP h2.2.1 (sd▸h0) ht (h2.2.2.1.e6.kn h1.2.2.2.1) h2.2.2.2.1).elim λE3 h3=>⟨E1,E2,E3,h1.1,h2.1,h3.1,h3.2.1,(h1.2.2.1.trans h2.2.2.1).trans h3.2.2.1,h3.2.2.2.1.trans (sd▸rfl)⟩
theorem U0.app{d:Type}{T:d->G9->G9->Prop}{l1 l2:xh d}(h:U0 T l1 E E1)(g:U0 T l2 E1 E2):U0 T (l1++l2) E E2:=by
 induction h with
 |nil=>exact g
 |cons s _ i=>exact .cons s (i g)
theorem IQ(b:oU C C1 seg ent wt):∀{E:G9},LI fs ps E.toCor E.trail.length es E.queue->(∀z,Kn E.root z↔Kn C.root z)->E.queue.length+ent.length<=500->
  ∃E',U0 (λt E E'=>Me 4 11 .st [iv t] E (.a9 .none) E') ent E E'/\LI fs ps E'.toCor E'.trail.length es E'.queue/\h5 E E'/\(E'.clash=E.clash/\E'.marks=E.marks)/\(E'.P9=E.P9/\E'.d8=E.d8/\E'.news=E.news)/\cP E.root E'.root/\(∀z,Kn E'.root z↔Kn C1.root z)/\E'.queue.length<=E.queue.length+ent.length:=by
 induction b with
 |same=>exactλ{E} L k z'=>⟨E,.nil,L,.refl,⟨rfl,rfl⟩,⟨rfl,rfl,rfl⟩,λz' z'=> .inr,k,Oh _⟩
 | @snoc C1 C2 seg ent en wt wl x b u q ih=>
  intro E L k hq;rw [Ch] at hq⊢;refine(ih L k (vh (Sh (Qh _ _) _) hq)).elim λE1 h=> ?_;have kz:=h.2.2.2.2.2.2.1;have old:en=[]->(∀z,Kn C2.root z↔Kn C1.root z)->∃E',U0 (λt E E'=>Me 4 11 .st [iv t] E (.a9 .none) E') (ent++en) E E'/\LI fs ps E'.toCor E'.trail.length es E'.queue/\h5 E E'/\(E'.clash=E.clash/\E'.marks=E.marks)/\(E'.P9=E.P9/\E'.d8=E.d8/\E'.news=E.news)/\cP E.root E'.root/\(∀z,Kn E'.root z↔Kn C2.root z)/\E'.queue.length<=E.queue.length+(ent.length+en.length):=λe w=>by
   rw [e,Th];exact⟨E1,h.1,h.2.1,h.2.2.1,h.2.2.2.1,h.2.2.2.2.1,h.2.2.2.2.2.1,λz=>(kz z).trans (w z).symm,h.2.2.2.2.2.2.2⟩
  cases q with
  |no w _ e _=>exact old e w
  |wt _ _ _ e _ _ w _=>exact old e w
  |en t e _ _ w hn ht hx=>
   have h1:E1.root t=none:=by
    cases z:E1.root t with
    |none=>rfl
    |some r=>exact(G7 hn ((kz t).mp ⟨r,z⟩) rfl).elim
   rw [e] at hq⊢;have ql:=h.2.2.2.2.2.2.2;refine(ZZ h.2.1 (vh ql (vh (vh (Sh (Qh _ _) _) hq) (by decide))) ht h1 λx a=>(kz x).mpr (hx x a)).casesOn λE' Q' w' li e6 qu ql' rt sd rest=>⟨E',h.1.app (.cons w' .nil),qu▸li,h.2.2.1.trans e6,⟨rest.1.trans h.2.2.2.1.1,rest.2.trans h.2.2.2.1.2⟩,⟨sd.1.trans h.2.2.2.2.1.1,sd.2.1.trans h.2.2.2.2.1.2.1,sd.2.2.trans h.2.2.2.2.1.2.2⟩,h.2.2.2.2.2.1.trans (KX h.2.1 h1 rt),λz=> ?_,?_⟩
   ·rw [rt,w];exact e8.trans (Yb (kz z) Sg)
   ·rw [qu,Ch];exact vh (Cg ql ql') (Ph (Wg ..))
theorem xU(b:oU C C1 seg ent wt):∀{E:G9},Good fs ps E->E.P9=C.P9->(∀t a b,C1.P9 t=some (a,b)->t∈UW/\Kn E.root a/\Kn E.root b)->
  ∃E',U0 (λc E E'=>Me 4 32 .st [iv c.1,iv c.2.1,iv c.2.2] E (.a9 .none) E') wt E E'/\Good fs ps E'/\KM E E'/\E'.P9=C1.P9/\E'.root=E.root:=by
 induction b with
 |same=>exactλ{E} G s z'=>⟨E,.nil,G,⟨.refl,rfl,.refl⟩,s,rfl⟩
 | @snoc C1 C2 seg ent en wt wl x b u q ih=>
  intro E G s k;have old:wl=[]->C2.P9=C1.P9->∃E',U0 (λc E E'=>Me 4 32 .st [iv c.1,iv c.2.1,iv c.2.2] E (.a9 .none) E') (wt++wl) E E'/\Good fs ps E'/\KM E E'/\E'.P9=C2.P9/\E'.root=E.root:=λw g=>by
   rw [w,Th,g];exact ih G s λt a b h=>k t a b (g▸h)
  cases q with
  |no _ g _ w=>exact old w g
  |en _ _ w g _ _ _ _=>exact old w g
  |wt t c d _ w g _ h0=>
   refine(ih G s λz a b h=>k z a b (by rw [g,e9 λe=>by rw [e,h0] at h;exact(by nomatch h)];exact h)).elim λE1 h=> ?_;have kt:=k t c d (by rw [g];exact i9);have r1:=h.2.2.2.2;refine(UP h.2.1 (h.2.2.2.1▸h0) kt.1 (r1▸kt.2.1) (r1▸kt.2.2)).imp λE2 h2=> ?_;rw [w,g];exact⟨h.1.app (.cons h2.1 .nil),h2.2.1,h.2.2.1.trans h2.2.2.1,h2.2.2.2.1.trans (h.2.2.2.1▸rfl),h2.2.2.2.2.trans r1⟩
end
section
variable{m tl:Mh}{S E E1 E2:G9}{fs fs' ps ps':xh u9}{es Q:xh N9}{t x z a b r v w p:Dh}{ρ:Dh->Ah Dh}{tab:xh Dh->Ah Dh}{C:Cor}{mk0 mk1 l l1 l2:xh Dh}{o:Ah o8}{c:o8}
theorem gG(G:Good fs ps S)(c:p4 fs ps)(s:h5 S E)(hp_:p=mk1.length+1)(hk:E.marks=mk0++(S.trail.length:Dh)::mk1)(hm:E.marks.length<=1000)(L':LI fs' ps' E.toCor E.trail.length es Q)(nw:NW E)(hc:E.clash=none\/(mk0.length:Dh)<E.g0):
  ∃E',(∀(P:w8) (g:q9) (K:O8),BK K->(∀κ t,false=false->g.z κ t=false)->∃g',g'.r=g.r/\g'.z=g.z/\e7 P 7 .s2 38 [.g9 .house,iv p] (hp P g K E) (.a9 .none) (hp P g' K E'))/\Good fs ps E'/\h5 S E'/\E'.marks=mk0/\E'.P9=E.P9/\∃E0,E0.d8=S.d8/\E0.news=EZ S.toCor E.news/\Nw E0 E':=by
 refine G.li.elim λes L=>s.casesOn λseg ent wt tr b=> ?_;have tl:=L'.mX;have sg:=vh (vh (ib _ _) (Ph (tr▸List.length_append.symm))) tl;have sl:=vh b.len.1 sg;have sw:=vh b.len.2 sg;have hc':(if(mk0.length)<E.g0 then none else E.clash)=none:=by
  by_cases q:(mk0.length)<E.g0
  ·exact Lh q
  ·exact(Fh q).trans (hc.resolve_right q)
 have m0:=Bi (hk▸hm);have nw0:NW {E with toCor:=S.toCor,trail:=S.trail,marks:=mk0,queue:=[],news:=EZ S.toCor E.news,clash:=if(mk0.length)<E.g0 then none else E.clash}:=⟨nw.1.filter _,λt m=>Option.isSome_iff_exists.mp (List.mem_filter.mp m).2⟩;refine(IQ (E:={E with toCor:=S.toCor,trail:=S.trail,marks:=mk0,queue:=[],news:=EZ S.toCor E.news,clash:=if(mk0.length:Dh)<E.g0 then none else E.clash}) b L (λz'=>Sg) (vh (Ph (kf _)) (vh sl (by decide)))).elim λE1 h=> ?_;have d1:=h.2.2.2.2.1;have w1:Nw {E with toCor:=S.toCor,trail:=S.trail,marks:=mk0,queue:=[],news:=EZ S.toCor E.news,clash:=if(mk0.length:Dh)<E.g0 then none else E.clash} E1:= .of d1.2.1 d1.2.2;refine(eY h.2.1 (w1.news nw0) (G.nt.wD h.2.2.2.2.2.1 L.pk) (G.ct.wD h.2.2.2.2.2.1 L.sk d1.1 d1.2.1) (h.2.2.2.1.1.trans hc') (h.2.2.2.1.2▸m0) (vh h.2.2.2.2.2.2.2 (vh (Ph (kf _)) (vh sl (by decide)))) c).elim λE2 h2=> ?_;have kn:∀z,Kn E2.root z↔Kn E.root z:=λz=>(h2.2.2.2.1 z).trans (h.2.2.2.2.2.2.1 z);refine(xU b h2.2.1 (h2.2.2.2.2.trans d1.1) λt a b q=>have k:=L'.sk t a b q;⟨k.1,(kn a).mpr k.2.1,(kn b).mpr k.2.2⟩).imp λE3 h3=>⟨λP g K hB hz=> ?_,h3.2.1,((h.2.2.1.trans h2.2.2.1.e6).trans h3.2.2.1.e6).from rfl rfl,h3.2.2.1.z4.trans (h2.2.2.1.z4.trans h.2.2.2.1.2),h3.2.2.2.1,{E with toCor:=S.toCor,trail:=S.trail,marks:=mk0,queue:=[],news:=EZ S.toCor E.news,clash:=if(mk0.length:Dh)<E.g0 then none else E.clash},rfl,rfl,(w1.trans h2.2.2.1.nw).trans h3.2.2.1.nw⟩;have w:=Ol (P:=P) hp_ b (vh sl (by decide)) (vh sw (by decide)) (vh (hk▸hm) (by decide)) (tr▸vh tl (by decide)) (vh (L'.news nw) (by decide)) h.1 h2.1 h3.1 hB hz;rw [<-hk,<-tr] at w;exact w
def er(e:Dh->Ah Dh)(t:xh Dh->Ah Dh)(s:Dh)(w:Mh×Dh):Mh×Dh:=match w.1 with
 |0=>match(t [s,w.2]).bind e with
  |some q=>(0,q)
  |none=>(1,w.2)
 |k+1=>(k+2,w.2)
def Dn(e:Dh->Ah Dh)(d:xh Dh->Ah Dh):Mh->Dh->Mh×Dh
 |0,t=>(0,t)
 |m+1,t=>match e t with
  |some r=>(0,r)
  |none=>match t8.lookup t with
   |some x=>er e d (sy t) (Dn e d m x)
   |none=>(0,t)
theorem zA(h:Ap t x):t8.lookup t=some x:=(by decide:∀p∈t8,t8.lookup p.1=some p.2) _ h
theorem xA(h:∀p∈t8,p.1≠t):t8.lookup t=none:=List.lookup_eq_none_iff.mpr λp m=>bne_iff_ne.mpr (vd (h p m))
theorem o4(h:ρ t=some r):Dn ρ tab (m+1) t=(0,r):=by unfold Dn;rw [h]
theorem NM(h:ρ t=none)(a:Ap t x):Dn ρ tab (m+1) t=er ρ tab (sy t) (Dn ρ tab m x):=by
 conv=>lhs;unfold Dn
 exact rL h (rL (zA a) rfl)
theorem fU(h:ρ t=none)(a:∀p∈t8,p.1≠t):Dn ρ tab (m+1) t=(0,t):=by unfold Dn;rw [h,xA a]
theorem px:∀{m t},Dp m t->Dn ρ tab m t=Dn ρ tab (m+1) t:=by
 intro m;induction m with
 |zero=>exactλh=>h.elim
 |succ m i=>
  intro t h;cases q:ρ t with
  |some r=>rw [o4 q,o4 q]
  |none=>exact(MI t).elim (λh'=>h'.elim λx a=>by rw [NM q a,NM q a,i (h.2 x a)]) λa=>by rw [fU q a,fU q a]
theorem TR(L:LI fs ps C tl es [])(a:Ap t x):Dn C.root C.tab 3 t=er C.root C.tab (sy t) (Dn C.root C.tab 3 x):=by
 cases q:C.root t with
 |none=>rw [px (Sq (o0 a).1),NM q a]
 |some r=>
  refine(L.sub t x ⟨r,q⟩ a).elim λf hx=>(L.tc t x _ ⟨r,q⟩ a hx).elim λo h=>(L.tb _ _ h.1).1.elim λg d=> ?_;refine rL (h.2 _ (Dn _ _ 3) (λx y e=>e.elim λr e=>by rw [o4 e.1,o4 e.2]) (λz' h=>(by nomatch h))) ?_;rw [o4 d,o4 hx];show _=match(C.tab [sy t,f]).bind _ with
   |some q=>(0,q)
   |none=>(1,f)
  refine rL h.1 ?_;rw [Option.bind_some,d]
theorem LI.dn(L:LI fs ps C tl es [])(c:Cl (sY fs) a b):Dn C.root C.tab 3 a=Dn C.root C.tab 3 b:=
 c _ _ (λx y h=>h.elim λm h=>L.fx _ h _ _ (λx y e=>e.elim λr e=>by rw [o4 e.1,o4 e.2]) λz' h=>(by nomatch h)) λa b x y f d s e=>by rw [TR L f,TR L d,s,e]
theorem LI.HD(L:LI fs ps C tl es [])(c:Cl (sY fs) a b)(ha:Kn C.root a)(hb:Kn C.root b):F6 C.root a b:=ha.elim λr ha=>hb.elim λs hb=>by
 have h:=L.dn c;rw [o4 ha,o4 hb] at h;exact⟨r,ha,(sf h).2▸hb⟩
theorem qP:∀v∈VV,∀p∈t8,p.1≠v:=by decide
theorem LI.num(L:LI fs ps C tl es [])(c:Cl (sY fs) a v)(ha:Kn C.root a)(hv:v∈VV):Kn C.root v:=ha.elim λr ha=>by
 have h:=L.dn c;cases q:C.root v with
 |some s=>exact⟨s,q⟩
 |none=>
  rw [o4 ha,fU q (qP v hv)] at h;have z:=(L.kn _ _ ha).2;rw [(sf h).2,q] at z;exact(by nomatch z)
theorem LI.end(L:LI fs ps C tl es [])(c:Cl (sY fs) a v)(h:Kn C.root a)(d:Kn C.root v\/v∈VV):F6 C.root a v:=L.HD c h (d.elim id (L.num c h))
theorem LI.pe(L:LI fs ps C tl es Q){f:u9}(m:f∈Pa ps):(Kn C.root f.1\/f.1∈VV)/\(Kn C.root f.2.1\/f.2.1∈VV):=(List.mem_cons.mp m).elim (λe=>e▸⟨.inr (by decide),.inr (by decide)⟩) λm=>⟨.inl (L.pk f m).1,.inl (L.pk f m).2⟩
theorem Good.cons(G:Good fs ps E):p4 fs ps:=λf m c=>G.li.elim λes L=>by
 haveI e:=L.pe m;cases q:E.root _ with
 |some r=>exact G.nt f m (L.end c ⟨r,q⟩ e.2)
 |none=>cases i:E.root _ with
  |some s=>exact G.nt f m (L.end c.symm ⟨s,i⟩ e.1).symm
  |none=>
   have n:∀{v},E.root v=none->Kn _ v\/v∈VV->v∈VV:=λh k=>k.resolve_left λk=>k.elim λr k=>XQ h k;haveI h:=L.dn c;rw [fU q (qP _ (n q e.1)),fU i (qP _ (n i e.2))] at h;refine(List.mem_cons.mp m).elim (λz=> ?_) λm=>(L.pk f m).1.elim λr k=>XQ q k;rw [z] at h;exact absurd (sf h).2 (by decide)
theorem Good.why(G:Good fs ps E)(h:F6 E.root a b):∃l,Mz 2 25 .all [iv a,iv b] E (.a9 (.list (zs l))) E/\Told fs a b l:=
 G.li.elim λes L=>h.elim λr h=>C3 L.P h.1 h.2 (L.c1 _ _ ⟨r,h⟩) (L.kn _ _ h.1).1 (L.kn _ _ h.2).1
theorem Good.rr(G:Good fs ps E)(h:F6 E.root a b):Cl (sY fs) a b:=(G.why h).elim λz' h=>h.2.all
def OT(fs ps:xh u9)(a b:Dh)(o:Ah o8):Prop:=Ba o (Cl (sY fs) a b) λc=>Cl (sY fs) a c.1/\Cl (sY fs) b c.2.1/\(c∈Pa ps\/(c.2.1,c.1,c.2.2)∈Pa ps)
theorem Good.tY(G:Good fs ps E)(hs:E.P9 t=some (a,b))(h:E.d8 t=some o):OT fs ps a b o:=G.li.elim λes L=>(L.tk t o h).elim λa' q=>q.elim λb' q=>by
 have e:=sf (Bh (hs.symm.trans q.1));rw [e.1,e.2];cases o with
 |none=>exact G.rr q.2
 |some c=>exact⟨G.rr q.2.1,G.rr q.2.2.1,q.2.2.2⟩
theorem Good.tells(G:Good fs ps E)(hs:E.P9 t=some (a,b))(h:OT fs ps a b o):∃o',E.d8 t=some o':=G.li.elim λes L=>by
 cases q:E.d8 t with
 |some o=>exact⟨o,rfl⟩
 |none=>
  have k:=L.sk t a b hs;cases o with
  |none=>exact(G.ct t a b hs q none (L.HD h k.2.1 k.2.2)).elim
  |some c=>
   have e:=h.2.2.elim (λm=>L.pe m) λm=>(L.pe m).symm;exact(G.ct t a b hs q (some c) ⟨L.end h.1 k.2.1 e.1,L.end h.2.1 k.2.2 e.2,h.2.2⟩).elim
def Zy(fs ps:xh u9)(a b:Dh)(l:xh Dh)(o:Ah o8):Prop:=Ba o (Told fs a b l) λc=>∃l1 l2,Told fs a c.1 l1/\Told fs b c.2.1 l2/\l=P7 (Fi l1 l2) c.2.2/\(c∈Pa ps\/(c.2.1,c.1,c.2.2)∈Pa ps)
theorem Good.zP(G:Good fs ps E)(hs:E.P9 t=some (a,b))(h:E.d8 t=some o):∃l,Mz 4 36 .all [iv t] E (.a9 (.list (zs l))) E/\Zy fs ps a b l o:=G.li.elim λes L=>(L.tk t o h).elim λd q=>q.elim λb' q=>by
 have e:=sf (Bh (hs.symm.trans q.1));have q:=q.2;rw [<-e.1,<-e.2] at q;cases o with
 |none=>exact(G.why q).imp λl k=>⟨au hs h k.1,k.2⟩
 |some c=>
  refine(G.why q.1).elim λl1 k1=>(G.why q.2.1).elim λl2 k2=>⟨P7 _ _,bu hs h (Sl k1.1 k2.1 (vh k1.2.len (by decide)) (vh k2.2.len (by decide)) ?_),l1,l2,k1.2,k2.2,rfl,q.2.2⟩;unfold Fi;exact rL ((Rc _).length_eq) (rL Ch (vh (Cg k1.2.len (vh (Rg ..) k2.2.len)) (by decide)))
end
section
variable{P:w8}{n D j i:Mh}{K:O8}{b:Tg->Ah d9}{β:Mh->Ah d9}{fl rest:xh (Mh×AV)}{o:d9}{op nm:Str}{as:xh Dh}{s:Dh}{d:Jh}{dk:KI}
def j0(fl:xh (Mh×AV))(D:Mh)(β:Mh->Ah d9)(b:Tg->Ah d9):Tg->Ah d9
 | .bank=>some (.inst D fl)
 | .bk k=>β k
 |τ=>b τ
def pY(β:Mh->Ah d9)(j:Mh)(o:d9)(i:Mh):Ah d9:=if i=j then some o else β i
theorem bY:up (j0 fl D β b) (.bk j) o=j0 fl D (pY β j o) b:=B9 (λτ h=>by
 cases τ with
 |bk k=>exact(Fh λe=>h (yh _ e)).symm
 |_=>rfl) (Lh rfl)
def rW(rest:xh (Mh×AV)):xh (Mh×AV):=[(17,.g9 (.bk 0)),(18,.g9 (.bk 1)),(19,.g9 (.bk 2)),(20,.g9 (.bk 3)),(21,.g9 (.bk 4)),(22,iv 0),(23,.g9 (.bk 5)),(24,.g9 (.bk 6)),(25,.g9 (.bk 7)),(26,.g9 (.bk 8)),(27,.g9 (.bk 9))]++rest
def O8.mk'(K:O8)(o:Str)(as:xh Dh)(s:Dh)(d:Jh)(dk:KI):O8:={K with ops:=K.ops++[o],args:=K.args++[as],sorts:=K.sorts++[s],t6:=K.t6++[d],num:=f9 K.num [.str o,.tup as,.int s,dk] (iv K.ops.length)}
theorem RJ{l:xh Dh}(h:op∈[S "true",S "false",S "app",S "num",S "="])(c:l∈kY)(a:s∈[(0),3])(e:dk∈Dy):[KI.str op,.tup l,.int s,dk]∈TK:=fg _ (List.mem_flatMap.mpr ⟨op,h,List.mem_flatMap.mpr ⟨l,c,List.mem_flatMap.mpr ⟨s,a,List.mem_map.mpr ⟨dk,e,rfl⟩⟩⟩⟩)
theorem JP{a:Type}{f:a->Jh}{l:xh a}{x:a}:some (d9.list true ((l.map f).map AV.a9++[.a9 (f x)]))=ls ((l++[x]).map f):=yh (λl=>some _) s7
def zK:KI->Jh
 | .int i=> .int i
 | .str s=> .str s
 | .tup l=> .tuple (zs l)
abbrev kR(op:Str)(as:xh Dh)(s:Dh)(dk:KI):xh (Mh×AV):=[(0,.g9 .bank),(1,.a9 (.str op)),(2,.a9 (.tuple (zs as))),(3,iv s),(4,.a9 (zK dk)),(5,.a9 (.tuple [.str op,.tuple (zs as),.int s,zK dk]))]
variable{kk:M}{K':KB}{u:Mo}{f:xh KI->Ah AV}{v:AV}
theorem Zz(h:b (.bk 9)=some (.W9 f))(hB:b .bank=some (.inst D (rW rest)))(a:f [.str op,.tup as,.int s,dk]=none)(q:(A9 P n kk).b u ⟨kR op as s dk++[(6,iv 0)],[],b⟩ K'):(A9 P n (.set 6 (.lm (.D6 (.var 0) 27) .get (.cons (.var 5) (.cons (.con (.int 0)) (.nil)))) kk)).b u ⟨kR op as s dk,[],b⟩ K':=by
 cases dk with
 |tup l=>exact k9 hB (k9 (x:=b _) h (k9 (x:=b _) h ⟨as,rfl,l,rfl,ES a q⟩))
 |_=>exact k9 hB (k9 (x:=b _) h (k9 (x:=b _) h ⟨as,rfl,ES a q⟩))
theorem uC(a:b (.bk 9)=some (.W9 f))(hB:b .bank=some (.inst D (rW rest)))(h:[KI.str op,.tup as,.int s,dk]∈TK){i j:Dh}(c:i=j)(q:K' .next ⟨kR op as s dk++[(6,iv j)],[],up b (.bk 9) (.W9 (f9 f [.str op,.tup as,.int s,dk] (iv j)))⟩):(A9 P n (.M1 (.var 6) (.D6 (.var 0) 27) (.var 5) (.nil))).b u ⟨kR op as s dk++[(6,iv i)],[],b⟩ K':=by
 subst c;cases dk with
 |tup l=>exact k9 hB (k9 (x:=b _) a ⟨as,rfl,l,rfl,h,_,rfl,q⟩)
 |_=>exact k9 hB (k9 (x:=b _) a ⟨as,rfl,h,_,rfl,q⟩)
theorem WB:pY (pY (pY (pY (pY (O0 K) 5 (.list true ((K.ops.map .str).map .a9++[.a9 (.str op)]))) 6 (.list true ((K.args.map λl=> .tuple (zs l)).map .a9++[.a9 (.tuple (zs as))]))) 7 (.list true ((zs K.sorts).map .a9++[iv s]))) 8 (.list true (K.t6.map .a9++[.a9 (zK dk)]))) 9 (.W9 (f9 K.num [.str op,.tup as,.int s,dk] (iv K.ops.length)))=O0 (K.mk' op as s (zK dk) dk):=funext λi=>by
 match i with
 |5=>exact JP
 |6=>exact JP
 |7=>exact yh (λl=>some _) X9
 |8=>exact yh (λl=>some _) (bg (l₂:=[zK _])).symm
 |9|0|1|2|3|4|_+10=>rfl
def yv:M:=jT 6 (jL (Ya 27) .get (Y2 J5 (Yi 0))) (jI (jE .eq J6 (Yi 0)) (jT 6 (jB .len (Y1 (Ya 23))) (jX (jL (Ya 23) .append (Y1 J1)) (jX (jL (Ya 24) .append (Y1 J2)) (jX (jL (Ya 25) .append (Y1 J3)) (jX (jL (Ya 26) .append (Y1 J4)) (jY J6 (Ya 27) J5 jN)))))) jN (Yr J6))
theorem jq(q:(A9 P 0 yv).b (.all,[]) ⟨kR op as s dk,[],b⟩ K'):(A9 P 0 sq).b (.all,[]) ⟨ar 0 [.g9 .bank,.a9 (.str op),.a9 (.tuple (zs as)),iv s,.a9 (zK dk)],[],b⟩ K':=q
theorem AD(hl:K.ops.length<=1000/\K.args.length<=1000/\K.sorts.length<=1000/\K.t6.length<=1000)(c:K.num [.str op,.tup as,.int s,dk]=none)(e:[KI.str op,.tup as,.int s,dk]∈TK):
  e7 P 1 .all 62 [.g9 .bank,.a9 (.str op),.a9 (.tuple (zs as)),iv s,.a9 (zK dk)] (j0 (rW rest) P.B (O0 K) b) (iv K.ops.length) (j0 (rW rest) P.B (O0 (K.mk' op as s (zK dk) dk)) b):=by
 haveI a:∀{k},k<=1000->k<=1000000:=λh=>vh h (by decide);refine enter Yq rt rt (jq ?_);refine Zz rfl rfl c (⟨b9 (b9 (a hl.1)),?_⟩);refine⟨b9 (b9 (a hl.1)),j9 bY ?_⟩;refine⟨b9 (b9 (a hl.2.1)),j9 bY ?_⟩;refine⟨b9 (b9 (a hl.2.2.1)),j9 bY ?_⟩;exact⟨b9 (a hl.2.2.2),j9 bY (uC rfl rfl e (yh Nat.cast ((Eh _).trans (Eh _))) (⟨rfl,(bY).trans (yh (λβ=>j0 (rW rest) P.B β b) WB)⟩))⟩
theorem ay(hb:b (.bk 9)=some (.W9 f))(hB:b .bank=some (.inst D (rW rest)))(hk:f [.str op,.tup as,.int s,dk]=some v)(q:(A9 P n kk).b u ⟨kR op as s dk++[(6,v)],[],b⟩ K'):(A9 P n (.set 6 (.lm (.D6 (.var 0) 27) .get (.cons (.var 5) (.cons (.con (.int 0)) (.nil)))) kk)).b u ⟨kR op as s dk,[],b⟩ K':=by
 cases dk with
 |tup l=>exact k9 hB (k9 (x:=b (.bk 9)) hb (k9 (x:=b (.bk 9)) hb ⟨as,rfl,l,rfl,MY hk q⟩))
 |_=>exact k9 hB (k9 (x:=b (.bk 9)) hb (k9 (x:=b (.bk 9)) hb ⟨as,rfl,MY hk q⟩))
theorem Lv{t:Dh}(h:K.num [.str op,.tup as,.int s,dk]=some (iv t))(a:t≠0):e7 P 1 .all 62 [.g9 .bank,.a9 (.str op),.a9 (.tuple (zs as)),iv s,.a9 (zK dk)] (j0 (rW rest) P.B (O0 K) b) (iv t) (j0 (rW rest) P.B (O0 K) b):=by
 exact enter Yq rt rt (jq (ay rfl rfl h (v9 (E8 a) done)))
variable{ds:xh Jh}{τ:Tg}
def O8.fn(K:O8)(nm:Str)(ds:xh Jh)(s:Dh):O8:={K with eT:=K.eT++[.str nm],yD:=K.yD++[.tuple ds],vD:=K.vD++[.int s]}
theorem fy:pY (pY (pY (O0 K) 2 (.list true (K.eT.map .a9++[.a9 (.str nm)]))) 3 (.list true (K.yD.map .a9++[.a9 (.tuple ds)]))) 4 (.list true (K.vD.map .a9++[iv s]))=O0 (K.fn nm ds s):=funext λi=>by
 haveI z:∀{l x},some _=ls (l++[x]):=λ{l x}=>yh (λl=>some _) (bg).symm
 match i with
 |2=>exact z
 |3=>exact z
 |4=>exact z
 |0|1|5|6|7|8|9|_+10=>rfl
theorem Ov(hl:K.eT.length<=1000/\K.yD.length<=1000/\K.vD.length<=1000):e7 P 1 .all 49 [.g9 .bank,.a9 (.str nm),.a9 (.tuple ds),iv s] (j0 (rW rest) P.B (O0 K) b) (iv K.eT.length) (j0 (rW rest) P.B (O0 (K.fn nm ds s)) b):=by
 haveI a:∀{k},k<=1000->k<=1000000:=λh=>vh h (by decide);refine enter Fj rt rt (⟨b9 (a hl.1),j9 bY ?_⟩);refine⟨b9 (a hl.2.1),j9 bY ?_⟩;refine⟨b9 (a hl.2.2),j9 bY ?_⟩;haveI e:(K.eT.map AV.a9++[AV.a9 (.str nm)]).length=K.eT.length+1:=List.length_append.trans (yh _ (Eh _));refine⟨vh (Ph e) (vh (Vh hl.1) (by decide)),?_⟩;refine⟨yh (λi=>AV.a9 _) ?_,yh (λβ=>j0 _ _ β b) fy⟩;refine rL e ?_;rw [Int.natCast_add];exact ia ..
theorem Nv(hl:K.eT.length<=1000/\K.yD.length<=1000/\K.vD.length<=1000)(h:K.ops.length<=1000/\K.args.length<=1000/\K.sorts.length<=1000/\K.t6.length<=1000)(a:K.num [.str (S "app"),.tup [],.int s,.int K.eT.length]=none)(c:[KI.str (S "app"),.tup [],.int s,.int K.eT.length]∈TK):
  e7 P 2 .all 51 [.g9 .bank,.a9 (.str nm),iv s] (j0 (rW rest) P.B (O0 K) b) (iv K.ops.length) (j0 (rW rest) P.B (O0 ((K.fn nm [] s).mk' (S "app") [] s (.int K.eT.length) (.int K.eT.length))) b):=by
 exact enter Ej rt rt (V8 (Ov hl) rt (V8 (AD (K:=K.fn nm [] s) h a c) rt done))
theorem xR:up (j0 fl D β b) .bank (.inst D rest)=j0 rest D β b:=B9 (λτ h=>by
 cases τ with
 |bank=>exact(h rfl).elim
 |_=>rfl) rfl
theorem Z4:up (up (j0 fl D β b) (.bk j) o) .bank (.inst D rest)=j0 rest D (pY β j o) b:=(yh (λb=>up b .bank _) bY).trans xR
theorem qW(h:b .bank=some (.inst D fl))(c:∀j,b (.bk j)=β j):b=j0 fl D β b:=funext λτ=>by
 cases τ with
 |bank=>exact h
 |bk j=>exact c j
 |_=>rfl
theorem z3{w:Kh}(ds:xh Jh):w6 τ (.list w (ds.map .a9)):=λz' m=>(List.mem_map.mp m).elim λz' e=>e.2▸trivial
def bq:O8:=⟨[.str (S "Bool"),.str (S "Int"),.str (S "Real")],[.int 0,.int 0,.int 0],[S ""],[[]],[0],[.int 0],[],[],[],λz'=>none,0,0⟩
def KJ:O8:={(bq.mk' (S "true") [] 0 (.int 0) (.int 0)).mk' (S "false") [] 0 (.int 0) (.int 0) with tY:=1,WF:=2}
theorem bU:[]∈kY:= .head _
theorem Hz(h:∀j,b (.bk j)=none):pY (pY (pY (pY (pY (pY (pY (pY (pY (pY (λj=>b (.bk j)) 0 (.list true [.a9 (.str (S "Bool")),.a9 (.str (S "Int")),.a9 (.str (S "Real"))])) 1 (.list true [iv 0,iv 0,iv 0])) 2 (.list true [])) 3 (.list true [])) 4 (.list true [])) 5 (.list true [.a9 (.str (S ""))])) 6 (.list true [.a9 (.tuple [])])) 7 (.list true [iv 0])) 8 (.list true [iv 0])) 9 (.W9 λz'=>none)=O0 bq:=funext λi=>by
 match i with
 |0|1|2|3|4|5|6|7|8|9=>rfl
 |k+10=>exact h _
theorem Ml(h:b .bank=some (.inst P.B []))(a:∀j,b (.bk j)=none):e7 P 2 .lU 43 [.g9 .bank] b (.a9 .none) (j0 (hY KJ) P.B (O0 KJ) b):=by
 refine enter Hj rt rt ((yh (λz=>(A9 P 1 _).b _ _ _) (qW h λz'=>rfl)).mpr ?_);refine⟨z3 (w:=true) [.str _,.str _,.str _],j9 Z4 ?_⟩;refine⟨z3 (w:=true) [.int 0,.int 0,.int 0],j9 Z4 ?_⟩;refine⟨x6 (w:=true),j9 Z4 ?_⟩;refine⟨x6 (w:=true),j9 Z4 ?_⟩;refine⟨x6 (w:=true),j9 Z4 ?_⟩;refine j9 xR (⟨z3 (w:=true) [.str _],j9 Z4 ?_⟩);refine⟨z3 (w:=true) [.tuple []],j9 Z4 ?_⟩;refine⟨z3 (w:=true) [.int 0],j9 Z4 ?_⟩;refine⟨z3 (w:=true) [.int 0],j9 Z4 ?_⟩;refine⟨(λt v e=>(by nomatch e)),j9 (Z4.trans (yh (λβ=>j0 _ _ β b) (Hz a))) ?_⟩;exact V8 (AD (by decide) rfl (RJ (.head _) bU (.head _) (.head _))) rt (j9 xR (V8 (AD (by decide) (by kernel_rfl) (RJ (.tail _ (.head _)) bU (.head _) (.head _))) rt (j9 xR E9)))
def O8.VQ(K:O8)(nm:Str):O8:={K with sn:=K.sn++[.str nm],sw:=K.sw++[.int 0]}
theorem wH:pY (pY (O0 K) 0 (.list true (K.sn.map .a9++[.a9 (.str nm)]))) 1 (.list true (K.sw.map .a9++[iv 0]))=O0 (K.VQ nm):=funext λi=>by
 haveI z:∀{l x},some _=ls (l++[x]):=λ{l x}=>yh (λl=>some _) (bg).symm
 match i with
 |0=>exact z
 |1=>exact z
 |2|3|4|5|6|7|8|9|_+10=>rfl
theorem Kl(hl:K.sn.length<=1000/\K.sw.length<=1000):e7 P 1 .all 45 [.g9 .bank,.a9 (.str nm)] (j0 (rW rest) P.B (O0 K) b) (iv K.sn.length) (j0 (rW rest) P.B (O0 (K.VQ nm)) b):=by
 haveI a:∀{k},k<=1000->k<=1000000:=λh=>vh h (by decide);refine enter Gj rt rt (⟨b9 (a hl.1),j9 bY ?_⟩);refine⟨b9 (a hl.2),j9 bY ?_⟩;haveI e:(K.sn.map AV.a9++[AV.a9 (.str nm)]).length=K.sn.length+1:=List.length_append.trans (yh _ (Eh _));refine⟨vh (Ph e) (vh (Vh hl.1) (by decide)),?_⟩;refine⟨yh (λi=>AV.a9 _) ?_,yh (λβ=>j0 _ _ β b) wH⟩;refine rL e ?_;rw [Int.natCast_add];exact ia ..
variable{g:q9}{E:G9}{τ:Tg}
def BG(t:Dh):Str:=cond (decide (t<9)) (S "f") (S "p")
def xi(t:Dh):Dh:=cond (decide (t<3)) (t+8) (t-3)
def Rx(p:Dh×Dh):AV:= .a9 (.tuple [.str (BG p.1),.int (xi p.2),.int (xi p.1)])
theorem DK{c:IC}{u:Mo}{Q:xh AV->Prop}(q:Q (t8.map Rx)):CD c u (.a9 BM) Q:=by unfold BM;exact q
theorem yT{is k:xh Mh}{body kk:M}{u:Mo}{c:IC}{K:KB}(q:lp ((A9 P n body).b u) (N5 false is) (IC.keep k) (zW (kB (A9 P n kk) u K) K) (t8.map Rx) c):(A9 P n (.UZ false is false (.tI 3) body k kk)).b u c K:=DK (c:=c) (u:=u) q
def vi:O8:=((KJ.VQ (S "U")).fn (S "f") [.int 3] 3).fn (S "p") [.int 3] 0
def Kc(K:O8)(nm:Str):O8:=(K.fn nm [] 3).mk' (S "app") [] 3 (.int K.eT.length) (.int K.eT.length)
def Ke(K:O8)(x s d:Dh):O8:=K.mk' (S "app") [x] s (.int d) (.int d)
def KA:O8:=Kc (Kc (Kc vi (S "a")) (S "b")) (S "c")
def KZ:O8:=Ke (Ke (Ke (Ke (Ke (Ke KA 3 3 0) 4 3 0) 6 3 0) 3 0 1) 4 0 1) 6 0 1
theorem SQ(k:Mh)(h:k<60):[(k:Dh)]∈kY:= .tail _ (Zh _ (List.mem_map.mpr ⟨k,List.mem_map.mpr ⟨k,List.mem_range.mpr h,rfl⟩,rfl⟩))
theorem HE:j0 (rW [(28,iv 1),(29,iv 2)]) P.B (O0 KZ) (hp P g KJ E)=hp P g KZ E:=funext λτ=>by
 cases τ with
 |ls k t=>cases k<;>rfl
 |w7 k=>cases k<;>rfl
 |_=>rfl
theorem JV:S "app"∈[S "true",S "false",S "app",S "num",S "="]:= .tail _ (.tail _ (.head _))
theorem xx:(3)∈[(0:Dh),3]:= .tail _ (.head _)
theorem kq:(0)∈[(0:Dh),3]:= .head _
def mA(m m2:M):M:= .ex (.lm (.var 4) .append (.cons (.met (.var 0) 62 (.cons (.con (.str (S "app"))) (.cons (.tup (.cons (.sub (.var 4) (.var 6)) (.nil))) (.cons m (.cons m2 (.nil)))))) (.nil))) (.nil)
def DO:M:=jI (jE .eq J5 (Ys "f")) (mA J1 J2) (mA (jJ 2) J3) jN
abbrev tx(P:w8)(K:O8)(vs:xh AV)(b:Tg->Ah d9):IC:=⟨[(0,.g9 .bank),(1,iv 3),(2,iv 0),(3,iv 1),(4,.g9 (.W8 0))],[(0,.list true vs)],j0 (rW [(28,iv 1),(29,iv 2)]) P.B (O0 K) b⟩
theorem pF{x y:Dh}{i:Mh}{vs ws:xh AV}{k:KB}(hx:vs[i]? =some (iv x))(a:vs.length<=1000)(hl:K.ops.length<=1000/\K.args.length<=1000/\K.sorts.length<=1000/\K.t6.length<=1000)(c:K.num [.str (S "app"),.tup [x],.int 3,.int 0]=none)(d:[x]∈kY)
  (q:lp ((A9 P 2 DO).b (.all,[])) (N5 false [5,6,7]) (IC.keep [0,1,2,3,4]) k ws (tx P (Ke K x 3 0) (vs++[iv K.ops.length]) b)):lp ((A9 P 2 DO).b (.all,[])) (N5 false [5,6,7]) (IC.keep [0,1,2,3,4]) k (.a9 (.tuple [.str (S "f"),.int i,.int y])::ws) (tx P K vs b):=by
 haveI h:vs.length<=1000000:=vh a (by decide);haveI l1:(lay (.str (S "f"))&&lay (.str (S "f")))=true:=by kernel_rfl
 haveI e1:Y0 (.str (S "f")) (.str (S "f"))=true:=by kernel_rfl
 refine L8 l1 (D9 e1 ?_);refine k9 ((Lh (Af _)).trans hx) ⟨h,?_⟩;exact p8 (AD hl c (RJ JV d xx (.head _))) rt rt (⟨h,(k8 q rfl)⟩)
theorem oF{x y:Dh}{i:Mh}{vs ws:xh AV}{k:KB}(hx:vs[i]? =some (iv x))(a:vs.length<=1000)(hl:K.ops.length<=1000/\K.args.length<=1000/\K.sorts.length<=1000/\K.t6.length<=1000)(c:K.num [.str (S "app"),.tup [x],.int 0,.int 1]=none)(d:[x]∈kY)
  (q:lp ((A9 P 2 DO).b (.all,[])) (N5 false [5,6,7]) (IC.keep [0,1,2,3,4]) k ws (tx P (Ke K x 0 1) (vs++[iv K.ops.length]) b)):lp ((A9 P 2 DO).b (.all,[])) (N5 false [5,6,7]) (IC.keep [0,1,2,3,4]) k (.a9 (.tuple [.str (S "p"),.int i,.int y])::ws) (tx P K vs b):=by
 haveI h:vs.length<=1000000:=vh a (by decide);haveI l1:(lay (.str (S "p"))&&lay (.str (S "f")))=true:=by kernel_rfl
 haveI e1:Y0 (.str (S "p")) (.str (S "f"))=false:=by kernel_rfl
 refine L8 l1 (v9 e1 ?_);refine k9 ((Lh (Af _)).trans hx) ⟨h,?_⟩;exact p8 (AD hl c (RJ JV d kq (.tail _ (.head _)))) rt rt (⟨h,(k8 q rfl)⟩)
theorem ji{x y:Dh}(h:b .bank=some (.inst P.B (rW [(28,iv x),(29,iv y)]))):e7 P 1 .all 67 [.g9 .bank] b (iv x) b:=enter Xq rt rt (k9 h done)
theorem gi{x y:Dh}(h:b .bank=some (.inst P.B (rW [(28,iv x),(29,iv y)]))):e7 P 1 .all 68 [.g9 .bank] b (iv y) b:=enter Aj rt rt (k9 h done)
def xv:M:=jH false [5,6,7] false (jJ 3) DO [0,1,2,3,4] (Yr (jO .add J4 (jP (Y2 (jM J0 67 jN) (jM J0 68 jN)))))
def TL:xh Dh:=[3,4,5,6,7,8,9,10,11,1,2]
theorem Hl:e7 P 3 .all 73 [.g9 .bank] (hp P g KJ E) (.a9 (.list (zs TL))) (hp P g KZ E):=by
 refine enter xj rt rt ((yh (λz=>(A9 P 2 _).b _ _ _) (qW rfl λz'=>rfl)).mpr ?_);refine p8 (Kl (by decide)) rt rt (p8 (Ov (by decide)) rt rt ?_);refine p8 (Ov (by decide)) rt rt (⟨(by decide),?_⟩);refine V8 (Nv (by decide) (by decide) (by kernel_rfl) (RJ JV bU xx (by decide))) rt (V8 (Nv (by decide) (by decide) (by kernel_rfl) (RJ JV bU xx (by decide))) rt ?_);refine V8 (Nv (by decide) (by decide) (by kernel_rfl) (RJ JV bU xx (by decide))) rt (⟨z3 [.int 3,.int 4,.int 5],?_⟩);suffices q:(A9 P 2 xv).b _ _ _ from q;refine yT (k8 ?_ rfl);refine pF rfl (by decide) (by decide) (by kernel_rfl) (SQ 3 (by decide)) (pF rfl (by decide) (by decide) (by kernel_rfl) (SQ 4 (by decide)) ?_);refine pF rfl (by decide) (by decide) (by kernel_rfl) (SQ 6 (by decide)) (oF rfl (by decide) (by decide) (by kernel_rfl) (SQ 3 (by decide)) ?_);refine oF rfl (by decide) (by decide) (by kernel_rfl) (SQ 4 (by decide)) (oF rfl (by decide) (by decide) (by kernel_rfl) (SQ 6 (by decide)) ?_);exact NY (p8 (ji rfl) rt rt (p8 (gi rfl) rt rt (⟨zs [3,4,5,6,7,8,9,10,11],rfl,(by decide),rfl,HE⟩)))
end
section
variable{P:w8}{K:O8}{g:q9}{E:G9}{t x:Dh}{o:Str}{as:xh Dh}{d:Jh}{qs:xh (Dh×Dh)}{q:Dh×Dh}{i:Mh}
theorem qT{b:Type}{l r:xh b}{a:b}(c:0<=t)(h:H8 t l=some a):H8 t (l++r)=some a:=by
 unfold H8 at h⊢;rw [Lh c] at h⊢;refine rL (se (List.getElem?_eq_some_iff.mp h).1) ?_;exact h
theorem pT{b:Type}{l:xh b}{a:b}:H8 l.length (l++[a])=some a:=by
 show(l++[a])[l.length]? =_;refine rL (Yg (Oh _)) ?_;rw [pd];rfl
theorem AW.mk'{o':Str}{as':xh Dh}{s:Dh}{d':Jh}{dk:KI}(a:0<=t)(h:AW K t o as d):AW (K.mk' o' as' s d' dk) t o as d:=by
 refine⟨?_,?_,?_⟩
 ·show H8 t ((K.ops++[o']).map _)=_;refine rL bg ?_;exact qT a h.o
 ·show H8 t ((K.args++[as']).map _)=_;refine rL bg ?_;exact qT a h.a
 ·show H8 t ((K.t6++[d']).map _)=_;refine rL bg ?_;exact qT a h.d
def fk(k:KI):Str:=KI.casesOn k (λz'=>S "") (λs=>s) λz'=>S ""
def ek(k:KI):xh Dh:=KI.casesOn k (λz'=>[]) (λz'=>[]) λl=>l
def UK(q:Dh×Dh):xh KI:=[.str (S "="),.tup [q.1,q.2],.int 0,.int 0]
def dr(K:O8)(q:Dh×Dh):O8:=K.mk' (S "=") [q.1,q.2] 0 (.int 0) (.int 0)
theorem GX{o':Str}{as':xh Dh}{s:Dh}{d':Jh}{dk:KI}(h:o'≠S "="):(K.mk' o' as' s d' dk).num (UK q)=K.num (UK q):=e9 λe=>h (yh fk (Dg e).1).symm
structure EB(qs:xh (Dh×Dh))(K:O8):Prop where
 a:∀t x,Ap t x->AW K t (S "app") [x] (.int (sy t))
 v:∀t∈VV,∃d,AW K t (gH t) [] d
 c:∀t∈[3,4,5],∃d,AW K t (S "app") [] d
 tr:K.tY=1
 l:K.ops.length=12+qs.length/\K.args.length=12+qs.length/\K.sorts.length=12+qs.length/\K.t6.length=12+qs.length
 n0:∀q,q∉qs->K.num (UK q)=none
 n1:∀(i:Mh) (q:Dh×Dh),qs[i]? =some q->K.num (UK q)=some (iv ((12+i:Mh):Dh))/\AW K ((12+i:Mh):Dh) (S "=") [q.1,q.2] (.int 0)
 nd:qs.length<=100
theorem EB.bk(B:EB qs K):BK K:=⟨⟨by refine rL B.l.1 ?_;exact vh (Sh B.nd _) (by decide),by refine rL B.l.2.1 ?_;exact vh (Sh B.nd _) (by decide),by refine rL B.l.2.2.2 ?_;exact vh (Sh B.nd _) (by decide)⟩,B.a,B.v,B.c,B.tr⟩
theorem EB.zero:EB [] KZ:=by
 refine⟨λt x h=>(List.forall_mem_cons.mpr ⟨⟨rfl,rfl,rfl⟩,List.forall_mem_cons.mpr ⟨⟨rfl,rfl,rfl⟩,List.forall_mem_cons.mpr ⟨⟨rfl,rfl,rfl⟩,List.forall_mem_cons.mpr ⟨⟨rfl,rfl,rfl⟩,List.forall_mem_cons.mpr ⟨⟨rfl,rfl,rfl⟩,List.forall_mem_cons.mpr ⟨⟨rfl,rfl,rfl⟩,λz' h=>(by nomatch h)⟩⟩⟩⟩⟩⟩:∀p∈t8,AW _ p.1 _ [p.2] (.int (sy p.1))) _ h,List.forall_mem_cons.mpr ⟨⟨_,rfl,rfl,rfl⟩,List.forall_mem_cons.mpr ⟨⟨_,rfl,rfl,rfl⟩,λz' h=>(by nomatch h)⟩⟩,List.forall_mem_cons.mpr ⟨⟨_,rfl,rfl,rfl⟩,List.forall_mem_cons.mpr ⟨⟨_,rfl,rfl,rfl⟩,List.forall_mem_cons.mpr ⟨⟨_,rfl,rfl,rfl⟩,λz' h=>(by nomatch h)⟩⟩⟩,rfl,⟨rfl,rfl,rfl,rfl⟩,λq z'=> ?_,λi q h=>((by nomatch h)),ng _⟩;have a:S "app"≠S "=":=by decide
 haveI e1:∀{K x s d},(Ke K x s d).num _=K.num (UK q):=GX a;haveI e:∀{K nm},(Kc K nm).num _=K.num (UK q):=λ{K _}=>(GX a);haveI b:=(GX (o':=S "false") (as':=[]) (s:=0) (d':= .int 0) (dk:= .int 0) (by decide)).trans (GX (q:=q) (K:=bq) (o':=S "true") (as':=[]) (s:=0) (d':= .int 0) (dk:= .int 0) (by decide));exact e1.trans (e1.trans (e1.trans (e1.trans (e1.trans (e1.trans (e.trans (e.trans (e.trans b))))))))
theorem EB.snoc(B:EB qs K)(h:q∉qs)(hl:qs.length<100):EB (qs++[q]) (dr K q):=by
 have c:∀{p},p≠q->UK p≠UK q:=λ{p} n e=>n (by
  haveI e:=yh ek (Dg (Dg e).2).1;exact Ac (Dg e).1 (Dg (Dg e).2).1)
 refine⟨λt x a=>(B.a t x a).mk' ((λh=>(by decide:∀p∈t8,0<=p.1) _ h) a),λt m=>(B.v t m).imp λd T=>T.mk' ((by decide:∀t∈VV,0<=t) t m),λt m=>(B.c t m).imp λd T=>T.mk' ((by decide:∀t∈[3,4,5],(0:Dh)<=t) t m),B.tr,⟨?_,?_,?_,?_⟩,λp n=> ?_,λi p e=> ?_,?_⟩
 ·show(K.ops++_).length=_;refine rL Ch (rL Ch (rL B.l.1 ?_));rfl
 ·show(K.args++_).length=_;refine rL Ch (rL Ch (rL B.l.2.1 ?_));rfl
 ·show(K.sorts++_).length=_;refine rL Ch (rL Ch (rL B.l.2.2.1 ?_));rfl
 ·show(K.t6++_).length=_;refine rL Ch (rL Ch (rL B.l.2.2.2 ?_));rfl
 ·have n:=not_or.mp λz=>n (List.mem_append.mpr z);exact(e9 (c λe=>n.2 (e▸ .head _))).trans (B.n0 p n.1)
 ·by_cases l:i<qs.length
  ·rw [se l] at e;haveI w:=B.n1 i p e;exact⟨(e9 (c λz=>h (z▸Bf e))).trans w.1,w.2.mk' (Af _)⟩
  ·haveI b:i=qs.length:=by
    haveI:=(List.getElem?_eq_some_iff.mp e).1;rw [Ch] at this;exact ue (Yf this) (me l)
   rw [b,Yg (Oh _),pd] at e;refine rL b (rR (Bh e) ?_);refine⟨?_,?_,?_,?_⟩
   ·show f9 _ (UK q) _ _=_;exact rL i9 (rL B.l.1 rfl)
   ·show H8 _ ((K.ops++_).map _)=_;refine rL bg ?_;rw [<-B.l.1,<-Eh _];exact pT
   ·show H8 _ ((K.args++_).map _)=_;refine rL bg ?_;rw [<-B.l.2.1,<-Eh _];exact pT
   ·show H8 _ ((K.t6++_).map _)=_;refine rL bg ?_;rw [<-B.l.2.2.2,<-Eh _];exact pT
 ·refine rL Ch ?_;exact hl
theorem Rz{K':O8}(a:K'.tY=K.tY)(h:K'.WF=K.WF):j0 (hY K) P.B (O0 K') (hp P g K E)=hp P g K' E:=funext λτ=>by
 cases τ with
 |bank=>show some (d9.inst _ _)=some _;unfold hY;rw [a,h]
 |ls k t=>cases k<;>rfl
 |w7 k=>cases k<;>rfl
 |_=>rfl
theorem VK(B:EB qs K)(hl:qs.length<100)(hq:[q.1,q.2]∈kY):∃(i:Mh) (qs':xh (Dh×Dh)) (K':O8),EB qs' K'/\qs'[i]? =some q/\(∀(j:Mh) (p:Dh×Dh),qs[j]? =some p->qs'[j]? =some p)/\(∀p∈qs',p∈qs\/p=q)/\(qs.Nodup->qs'.Nodup)/\∀(P:w8) (g:q9) (E:G9),e7 P 1 .all 62 [.g9 .bank,.a9 (.str (S "=")),.a9 (.tuple (zs [q.1,q.2])),iv 0,.a9 (.int 0)] (hp P g K E) (iv ((12+i:Mh):Dh)) (hp P g K' E):=by
 have s:∀{P:w8} {g:q9} {E:G9},hp P g K E=j0 (rW [(28,iv K.tY),(29,iv K.WF)]) P.B (O0 K) (hp P g K E):=λ{P g E}=>qW rfl λz'=>rfl;by_cases m:q∈qs
 ·refine(List.getElem?_of_mem m).elim λi e=>⟨i,qs,K,B,e,λz' z' h=>h,λz'=> .inl,id,λP g E=> ?_⟩;have w:=Lv (P:=P) (b:=hp P g K E) (rest:=[(28,iv K.tY),(29,iv K.WF)]) (B.n1 i q e).1 (by
   intro z;exact absurd (Int.ofNat_eq_zero.mp z) (we (dg (by decide) (Qh 12 i))))
  rw [<-s] at w;exact w
 ·refine⟨qs.length,qs++[q],dr K q,B.snoc m hl,by rw [Yg (Oh _),pd];rfl,λj p h=>(se (List.getElem?_eq_some_iff.mp h).1).trans h,λp h=>i8 h,λn=>b7 n m,λP g E=> ?_⟩;have k:∀{n:Mh},n=12+qs.length->n<=1000:=λe=>e▸vh (Sh (lf hl) _) (by decide);have w:=AD (P:=P) (b:=hp P g K E) (rest:=[(28,iv K.tY),(29,iv K.WF)]) ⟨k B.l.1,k B.l.2.1,k B.l.2.2.1,k B.l.2.2.2⟩ (B.n0 q m) (RJ (.tail _ (.tail _ (.tail _ (.tail _ (.head _))))) hq kq (.head _));rw [<-s,B.l.1] at w;exact(Rz (K:=K) (K':=dr K q) rfl rfl)▸w
end
section
structure Lw where
 cells:xh Dh
 spot:Mh
 ids:xh Mh
 lv:Mh->Ah (xh Jh)
 terms:xh Dh
 C9:xh (Dh×(Dh×Dh))
 told:xh (Dh×(Dh×Dh))
 fresh:xh Dh
 zw:Kh
 zt:Kh
def mR(c:xh Dh)(s:Mh):d9:= .s8 (Y8 (λz'=>none) [(S "cells",.a9 (.list (zs c))),(S "spot",iv s)])
def W4(l:xh (Dh×(Dh×Dh))):xh (Dh×AV):=l.map λp=>(p.1,.a9 (qY p.2))
def sD(L:xh Dh):Str->Ah AV:=Y8 (λz'=>none) [(S "terms",.a9 (.list (zs L))),(S "levels",.g9 .levels),(S "watched",.g9 .lwat),(S "told",.g9 .ltold),(S "fresh",.g9 .fresh)]
def kU(L:Lw):Tg->Ah d9
 | .feed=>some (mR L.cells L.spot)
 | .state=>some (.s8 (sD L.terms))
 | .levels=>some (.list true (L.ids.map λi=> .g9 (.lvl i)))
 | .lwat=>some (.M9 (!L.zw) (W4 L.C9))
 | .ltold=>some (.M9 (!L.zt) (W4 L.told))
 | .fresh=>Mine.Internal.ls (zs L.fresh)
 | .lvl i=>(L.lv i).bind Mine.Internal.ls
 |_=>none
def hl(P:w8)(g:q9)(K:O8)(E:G9)(L:Lw):Tg->Ah d9:=hp P {g with r:=kU L} K E
variable{P:w8}{n:Mh}{g:q9}{K:O8}{E:G9}{L:Lw}{wide x:Dh}{o':d9}
def i7(cells:xh Dh)(spot:Mh)(wide:Dh):Dh:=match cells[spot]? with
 |some x=>x%wide
 |none=>(7*(spot:Dh)*spot+3*spot+5*cells.length+2)%97%wide
theorem Hs{h:xh Dh}{i:Mh}(e:h[i]? =some x):H8 i (zs h)=some (.int x):=by
 show(h.map _)[i]? =_;refine rL (kg) (rL e ?_);rfl
theorem fE{s:Mh}{f:Str->Ah AV}(h:f=Y8 (λz'=>none) [(S "cells",.a9 (.list (zs L.cells))),(S "spot",iv s)]):up (hl P g K E L) .feed (.s8 f)=hl P g K E {L with spot:=s}:=h▸funext λτ=>by
 cases τ with
 |ls k t=>cases k<;>rfl
 |w7 k=>cases k<;>rfl
 |_=>rfl
theorem wT{K a:Type}[xg K]{f:K->Ah a}{k:K}{u v:a}:f9 (f9 f k u) k v=f9 f k v:=funext λz=>by
 by_cases e:z=k
 ·exact rL e (rL i9 (rL i9 rfl))
 ·refine rL (e9 e) ?_;rw [e9 e,e9 e]
theorem Il(hw:0<wide)(hs:L.spot<=1000)(c:L.cells.length<=1000):e7 P 1 .st 72 [.g9 .feed,iv wide] (hl P g K E L) (iv (i7 L.cells L.spot wide)) (hl P g K E {L with spot:=L.spot+1}):=by
 haveI m:∀{a b},0<=a->a<=7000->IntMulOk a b:=λh g=>IntMulOk.of_left (intBits_le_64 (Int.lt_of_lt_of_le (by decide) h) (Rf g (by decide)));refine enter zj rt rt (j9 (fE (s:=L.spot+1) wT) ?_);refine⟨b9 (vh c (by decide)),?_⟩;haveI hz:(zs _).length=L.cells.length:=Eh _;unfold i7;by_cases q:L.spot<L.cells.length
 ·refine rL (Fg q) ?_;refine D9 (Rh (rL hz (Int.ofNat_lt.mpr q))) (k9 (Hs (Fg q)) ⟨b9 (vh c (by decide)),?_⟩);exact⟨hw,done⟩
 ·refine rL (jb (me q)) ?_;refine v9 (Xh (rL hz (λz=>q (Int.ofNat_lt.mp z)))) (⟨m (by decide) (by decide),m (Int.mul_nonneg (by decide) (Af _)) (Int.mul_le_mul_of_nonneg_left (Int.ofNat_le.mpr hs) (by decide)),m (by decide) (by decide),b9 (vh c (by decide)),m (by decide) (by decide),(by decide),hw,a3 ?_⟩);refine rL hz ?_;rfl
def Lw.facts(L:Lw):xh Mh->xh Jh
 |[]=>[]
 |i::l=>(L.lv i).getD []++L.facts l
def Lw.ok(L:Lw)(l:xh Mh):Prop:=∀i∈l,∃d,L.lv i=some d
theorem Kv{l:xh Mh}:L.ok l->∀{acc k},(acc++L.facts l).length<=1000000->k .next ⟨[(0,.g9 .state),(1,.a9 (.list (acc++L.facts l)))],[],up (hl P g K E L) .levels o'⟩->
  lp ((A9 P n (.set 1 (.bin .add (.var 1) (.var 2)) (.nil))).b (.all,[.levels])) (N5 true [2]) (IC.keep [0,1]) k (l.map λi=> .g9 (.lvl i)) ⟨[(0,.g9 .state),(1,.a9 (.list acc))],[],up (hl P g K E L) .levels o'⟩:=by
 induction l with
 |nil=>exactλz' {acc k} h c=>Th acc▸c
 |cons i l q=>
  intro hx acc k h c;refine(hx i (.head _)).elim λd p=> ?_;haveI e:acc++L.facts (i::l)=(acc++d)++L.facts l:=(yh (λo=>acc++(o.getD []++L.facts l)) p).trans (ag ..).symm;rw [e] at h c;exact k9 (x:=(L.lv i).bind Mine.Internal.ls) (a:= .list true (d.map .a9)) (rL p rfl) ⟨d,rfl,Bi h,(k8 (q (λj m=>hx j (.tail _ m)) h c) rfl)⟩
theorem FA(hx:L.ok L.ids)(h:(L.facts L.ids).length<=1000000):e7 P 1 .all 78 [.g9 .state] (hl P g K E L) (.a9 (.list (L.facts L.ids))) (hl P g K E L):=by
 refine enter sj rt rt (YY (τ:= .levels) rfl C5 rfl ?_);refine⟨λv m=>(List.mem_map.mp m).elim λi e=>e.2▸(Or.inl rfl),?_⟩;refine k8 (Kv hx h ?_) rfl;exact yZ rfl rfl done
variable{fs:xh u9}{h h':xh Dh}{a b t lo hi:Dh}{σ:Tg->Ah d9}{F:AV}{ws W ps qs:xh (Dh×Dh)}{k:KB}{b0:Kh}{p q:Dh×Dh}
def at_(h:xh Dh)(u:Dh):Dh:=(h[u.toNat]?).getD 0
def lb(h:xh Dh)(t:Dh):Dh:=at_ h (xi t)
def sw(l h o:Dh):Dh:=if o=h then l else o
def sm(h:xh Dh):Mh:=(h.map Int.toNat).sum
theorem oH:∀t∈TT,0<=xi t/\(xi t).toNat<11:=by decide
structure HI fs(h:xh Dh):Prop where
 len:h.length=11
 f7:∀x∈h,0<=x/\x<11
 snd:∀a b,a∈TT->b∈TT->lb h a=lb h b->Cl (sY fs) a b
theorem OO(hl:h.length=11)(c:t∈TT):h[(xi t).toNat]? =some (lb h t):=by
 unfold lb at_
 rw [Fg (hl▸(oH t c).2)];rfl
theorem PX(hl:h.length=11)(c:t∈TT):lb h t∈h:=Bf (OO hl c)
theorem C7(hl:h.length=11)(c:t∈TT):H8 (xi t) (zs h)=some (.int (lb h t)):=by
 unfold H8 zs;rw [Lh (oH t c).1,kg,OO hl c];rfl
theorem lI(hl:h.length=11)(c:t∈TT):lb (h.map (sw lo hi)) t=sw lo hi (lb h t):=by
 unfold lb at_
 rw [kg,Fg (hl▸(oH t c).2)];rfl
theorem lC(f:0<=lo)(c:lo<hi):sm (h.map (sw lo hi))<=sm h/\(hi∈h->sm (h.map (sw lo hi))<sm h):=by
 unfold sm;induction h with
 |nil=>exact⟨Oh _,λm=>(by nomatch m)⟩
 |cons y l i=>
  rw [Hg,Hg,Hg];by_cases e:y=hi
  ·have:=(Int.toNat_lt_toNat (Rf f c)).mpr c;have z:(sw lo hi y).toNat<y.toNat:=by rw [show sw _ _ y=lo from Lh e,e];exact this
   exact⟨lf (Dc z i.1),λz'=>Dc z i.1⟩
  ·rw [show sw _ _ y=y from Fh e];exact⟨Sh i.1 _,λm=>Nat.add_lt_add_left (i.2 ((List.mem_cons.mp m).resolve_left (vd e))) _⟩
theorem HI.step(I:HI fs h)(ha:a∈TT)(hb:b∈TT)(c:Cl (sY fs) a b)(e:lo=lb h a/\hi=lb h b\/lo=lb h b/\hi=lb h a)(hl:lo<hi):HI fs (h.map (sw lo hi))/\sm (h.map (sw lo hi))<sm h:=by
 have ml:=e.elim (λe=>e.1▸PX I.len ha) λe=>e.1▸PX I.len hb;have mh:=e.elim (λe=>e.2▸PX I.len hb) λe=>e.2▸PX I.len ha;refine⟨⟨(Eh _).trans I.len,λx m=>(List.mem_map.mp m).elim λy m=>m.2▸ ?_,λx y hx hy q=> ?_⟩,(lC (I.f7 _ ml).1 hl).2 mh⟩
 ·unfold sw;split
  ·exact I.f7 _ ml
  ·exact I.f7 _ m.1
 rw [lI I.len hx,lI I.len hy] at q;have K:∀{z},z∈TT->(lb h z=lo\/lb h z=hi)->Cl (sY fs) z a:=λhz q=>by
  have:lb h _=lb h a\/lb h _=lb h b:=e.elim (λe=>q.imp (λq=>q.trans e.1) λq=>q.trans e.2) λe=>(q.imp (λq=>q.trans e.1) λq=>q.trans e.2).symm;exact this.elim (λg=>I.snd _ _ hz ha g) λg α f h1 h2=>(I.snd _ _ hz hb g α f h1 h2).trans (c α f h1 h2).symm
 have two:(lb h x=lo\/lb h x=hi)->(lb h y=lo\/lb h y=hi)->Cl (sY fs) x y:=λp q α f h1 h2=>(K hx p α f h1 h2).trans (K hy q α f h1 h2).symm;unfold sw at q;by_cases e1:lb h x=hi
 ·by_cases e2:lb h y=hi
  ·exact two (.inr e1) (.inr e2)
  ·rw [Lh e1,Fh e2] at q;exact two (.inr e1) (.inl q.symm)
 ·by_cases e2:lb h y=hi
  ·rw [Fh e1,Lh e2] at q;exact two (.inl q) (.inr e2)
  ·rw [Fh e1,Fh e2] at q;exact I.snd x y hx hy q
def pD(p:Dh×Dh):Jh:= .tuple [.int (xi p.1),.int (xi p.2)]
def wt(h:xh Dh)(p q:Dh×Dh):Kh:=decide (sy p.1=sy q.1)&&(decide (xi p.1<xi q.1)&&decide (lb h p.2=lb h q.2))
def iD(h:xh Dh)(p:Dh×Dh)(c:xh (Dh×Dh)):xh (Dh×Dh):=(c.filter (wt h p)).map λq=>(p.1,q.1)
abbrev sI(F:AV)(h:xh Dh)(b0:Kh)(c:xh (Mh×AV))(W:xh (Dh×Dh))(σ:Tg->Ah d9):IC:=⟨[(0,F),(1,.a9 (.list (zs h))),(2,.a9 (.bool b0)),(3,.g9 (.W8 0))]++c,[(0,.list true ((W.map pD).map .a9))],σ⟩
def iA:M:=jI (jD (jE .eq J5 J8) (jD (jE .lt J7 QR) (jE .eq (jS J1 J6) (jS J1 J9)))) (jX (jL J3 .append (Y1 (jU (Y2 J7 QR)))) jN) jN jN
abbrev Qx(p:Dh×Dh):xh (Mh×AV):=[(5,.a9 (.str (BG p.1))),(6,iv (xi p.2)),(7,iv (xi p.1))]
theorem qO{s t:Dh}:(lay (.str (BG s))&&lay (.str (BG t)))=true/\Y0 (.str (BG s)) (.str (BG t))=decide (sy s=sy t):=by
 unfold BG sy;cases decide (s<9)<;>cases decide (t<9)<;>exact⟨by kernel_rfl,by kernel_rfl⟩
theorem Z2(hl:h.length=11):(zs h).length<=1000000:=b9 (hl▸by decide)
theorem cw(hl:h.length=11)(hp:p∈t8):(∀q∈qs,q∈t8)->∀{W:xh (Dh×Dh)},W.length+qs.length<=1000000->k .next (sI F h b0 (Qx p) (W++iD h p qs) σ)->
  lp ((A9 P n iA).b (.all,[])) (N5 false [8,9,10]) (IC.keep [0,1,2,3,5,6,7]) k (qs.map Rx) (sI F h b0 (Qx p) W σ):=by
 induction qs with
 |nil=>exactλz' {W} z' d=>(yh (λW=>k .next (sI F h b0 (Qx p) W σ)) (Th W)).mp d
 |cons q qs ih=>
  intro hq W g d;have c:=λr (m)=>hq r (.tail _ m);have mp:=(o0 (hp)).2.1;have mq:=(o0 (hq q (.head _))).2.1;have s:wt h p q=false->k .next (sI F h b0 (Qx p) (W++iD h p qs) σ):=λe=>by
   unfold iD at d⊢;rw [Xf (by rw [e];exact wg)] at d;exact d
  refine L8 qO.1 ?_;by_cases i:sy p.1=sy q.1
  ·refine D9 (qO.2.trans (Rh i)) ?_;by_cases e1:xi p.1<xi q.1
   ·refine D9 (Rh e1) (k9 (C7 hl mp) ⟨Z2 hl,k9 (C7 hl mq) ⟨Z2 hl,?_⟩⟩);by_cases e2:lb h p.2=lb h q.2
    ·refine D9 (N8 e2) ⟨b9 (b9 (vh (Qh _ _) g)),?_⟩;refine k8 (ih c (by rw [Ch,Wg];show _+(1+qs.length)<=_;rw [af 1];exact g) ?_) (yh (λl=>(⟨_,[(0,d9.list true l)],_⟩:IC)) (s7 (x:=(p.1,q.1))));unfold iD at d⊢;rw [Vf (by unfold wt;rw [Rh i,Rh e1,Rh e2];rfl),Hg,List.append_cons] at d;exact d
    ·exact v9 (E8 e2) (k8 (ih c (cf g) (s (by unfold wt;rw [Xh e2,Rd,Rd]))) rfl)
   ·exact v9 (Xh e1) (k8 (ih c (cf g) (s (by unfold wt;rw [Xh e1];exact Rd _))) rfl)
  ·exact v9 (qO.2.trans (Xh i)) (k8 (ih c (cf g) (s (by unfold wt;rw [Xh i];rfl))) rfl)
def gA:M:=jH false [8,9,10] false (jJ 3) iA [0,1,2,3,5,6,7] jN
def YD(h:xh Dh)(ps:xh (Dh×Dh)):xh (Dh×Dh):=ps.flatMap λp=>iD h p t8
theorem XD(hl:h.length=11):(∀p∈ps,p∈t8)->∀{W:xh (Dh×Dh)},W.length+6*ps.length<=1000000->k .next (sI F h b0 [] (W++YD h ps) σ)->
  lp ((A9 P n gA).b (.all,[])) (N5 false [5,6,7]) (IC.keep [0,1,2,3]) k (ps.map Rx) (sI F h b0 [] W σ):=by
 induction ps with
 |nil=>exactλz' {W} z' c=>(yh (λW=>k .next (sI F h b0 [] W σ)) (Th W)).mp c
 |cons p ps i=>
  intro f W d c;have j:(W++iD h p t8).length<=W.length+6:=by rw [Ch];exact Sh (vh (Ph (Eh _)) (Rg ..)) _
  refine yT (k8 (cw hl (f p (.head _)) (λz' m=>m) (vh (Sh (vh (by decide) (Zf 6 (Vh (ng _)))) _) d) ?_) rfl);refine k8 (i (λq m=>f q (.tail _ m)) (vh (ef j _) (by rw [Wg,af 6];exact d)) ?_) rfl;rw [ag];exact c
def sK:M:= .XW [13,14] (Y2 (jB .min (Y2 (jS J1 Zx) (jS J1 Yx))) (jB .max (Y2 (jS J1 Zx) (jS J1 Yx)))) (jI (jE .ne Xx Wx) (jG [1,2] (Y2 (jZ (.ite (jE .eq Vx Wx) Xx Vx) [15] true J1 jN [13,14]) (jK (.bool true))) jN) jN jN)
def mn(h:xh Dh)(a b:Dh):Dh:=if lb h b<lb h a then lb h b else lb h a
def mx(h:xh Dh)(a b:Dh):Dh:=if lb h a<lb h b then lb h b else lb h a
abbrev dR(F:AV)(h:xh Dh)(b0:Kh):xh (Mh×AV):=[(0,F),(1,.a9 (.list (zs h))),(2,.a9 (.bool b0)),(3,.g9 (.W8 0))]
theorem rI(hl:h.length=11)(ha:a∈TT)(hb:b∈TT){T:xh (Mh×d9)}{u:Mo}(h1:mn h a b=mx h a b->k .next ⟨dR F h b0++[(11,iv (xi a)),(12,iv (xi b)),(13,iv (mn h a b)),(14,iv (mx h a b))],T,σ⟩)
  (h2:mn h a b≠mx h a b->k .next ⟨dR F (h.map (sw (mn h a b) (mx h a b))) true++[(11,iv (xi a)),(12,iv (xi b)),(13,iv (mn h a b)),(14,iv (mx h a b))],T,σ⟩):
  (A9 P n sK).b u ⟨dR F h b0++[(11,iv (xi a)),(12,iv (xi b))],T,σ⟩ k:=by
 have z:=Z2 hl;refine k9 (C7 hl ha) ⟨z,k9 (C7 hl hb) ⟨z,?_⟩⟩;refine k9 (C7 hl ha) ⟨z,k9 (x:=H8 (xi b) (zs h)) (C7 hl hb) ⟨z,?_⟩⟩;by_cases e:mn h a b=mx h a b
 ·exact v9 (j6 e) (h1 e)
 ·refine D9 (B6 e) ⟨vh (Ph (Eh _)) z,?_⟩;rw [Z7];refine d5 (λz'=>true) (λx=> .int (sw (mn h a b) (mx h a b) x)) (λx m K k=>k) (λx m z' K k=> ?_) λρ'=> ?_
  ·by_cases q:x=mx h a b
   ·refine D9 (N8 q) ?_;rw [show sw (mn h a b) (mx h a b) x=mn h a b from Lh q] at k;exact k
   ·refine v9 (E8 q) ?_;rw [show sw (mn h a b) (mx h a b) x=x from Fh q] at k;exact k
  ·rw [List.filter_eq_self.mpr λz' z'=>rfl,show h.map (λx=>Uc (sw (mn h a b) (mx h a b) x))=zs (h.map (sw (mn h a b) (mx h a b))) from(jg ..).symm];exact D5 (h2 e)
theorem VB(h:xh Dh)(a b:Dh):(mn h a b=lb h a/\mx h a b=lb h b\/mn h a b=lb h b/\mx h a b=lb h a)/\mn h a b<=mx h a b:=by
 unfold mn mx;by_cases e:lb h b<lb h a
 ·rw [Lh e,Fh (gb e)];exact⟨.inr ⟨rfl,rfl⟩,Ge e⟩
 ·rw [Fh e];by_cases q:lb h a<lb h b
  ·rw [Lh q];exact⟨.inl ⟨rfl,rfl⟩,Ge q⟩
  ·rw [Fh q];exact⟨.inl ⟨rfl,nb (Int.not_lt.mp e) (Int.not_lt.mp q)⟩,Int.le_refl _⟩
theorem Sz(hw:∀w∈ws,w.1∈TT/\w.2∈TT/\Cl (sY fs) w.1 w.2):∀{h:xh Dh} {b0:Kh},HI fs h->∃h' b',HI fs h'/\(b'=b0/\h'=h/\(∀w∈ws,lb h w.1=lb h w.2)\/b'=true/\sm h'<sm h)/\∀{T:xh (Mh×d9)} {u:Mo} {σ:Tg->Ah d9} {F:AV} {k:KB},k .next ⟨dR F h' b',T,σ⟩->
  lp ((A9 P n sK).b u) (N5 false [11,12]) (IC.keep [0,1,2,3]) k ((ws.map pD).map .a9) ⟨dR F h b0,T,σ⟩:=by
 induction ws with
 |nil=>exactλ{h b0} I=>⟨h,b0,I,.inl ⟨rfl,rfl,λz' m=>(by nomatch m)⟩,λhk=>hk⟩
 |cons w ws ih=>
  intro h b0 I;have q:=hw w (.head _);have ih:= @ih λw m=>hw w (.tail _ m);have mm:=VB h w.1 w.2;by_cases e:mn h w.1 w.2=mx h w.1 w.2
  ·have e':=mm.1.elim (λm=>m.1.symm.trans (e.trans m.2)) λm=>m.2.symm.trans (e.symm.trans m.1);refine(ih I).imp λh' r=>r.imp λb' r=>⟨r.1,r.2.1.imp (λr=>⟨r.1,r.2.1,λz m=>(List.mem_cons.mp m).elim (λm=>m▸e') (r.2.2 z)⟩) id,λ{T u σ F k} hk=> ?_⟩;exact rI I.len q.1 q.2.1 (λz'=>k8 (r.2.2 hk) rfl) λn=>(n e).elim
  ·have J:=I.step q.1 q.2.1 q.2.2 mm.1 (Int.lt_iff_le_and_ne.mpr ⟨mm.2,e⟩);refine(ih J.1).imp λh' r=>r.imp λb' r=>⟨r.1,.inr (r.2.1.elim (λr=>⟨r.1,r.2.1▸J.2⟩) λr=>⟨r.1,Ca r.2 J.2⟩),λ{T u σ F k} hk=> ?_⟩;exact rI I.len q.1 q.2.1 (λz=>(e z).elim) λz'=>k8 (r.2.2 hk) rfl
def NA(b:Kh):Str:=cond b (S "part") (S "tie")
def q6(f:Kh×u9):Jh:= .tuple [.str (NA f.1),.int (xi f.2.1),.int (xi f.2.2.1),.int f.2.2.2]
def A2(g:xh (Kh×u9)):AV:= .a9 (.list (g.map q6))
def f8(g:xh (Kh×u9)):xh u9:=(g.filter λf=> !f.1).map (·.2)
def R8(g:xh (Kh×u9)):xh u9:=(g.filter λf=>f.1).map (·.2)
def qx(fs:xh u9)(h:xh Dh):Prop:=(∀f∈fs,lb h f.1=lb h f.2.1)/\∀p q,p∈t8->q∈t8->sy p.1=sy q.1->p.1<q.1->lb h p.2=lb h q.2->lb h p.1=lb h q.1
def BU(fs:xh u9)(h:xh Dh):xh (Dh×Dh):=fs.map (λf=>(f.1,f.2.1))++YD h t8
theorem AU{w:Dh×Dh}:w∈BU fs h↔(∃f∈fs,(f.1,f.2.1)=w)\/∃p∈t8,∃q,(q∈t8/\wt h p q=true)/\(p.1,q.1)=w:=by
 exact List.mem_append.trans (Yb List.mem_map (List.mem_flatMap.trans (ye λp=>xe Sg (List.mem_map.trans (ye λq=>xe Ua Sg)))))
theorem oL(i:∀f∈fs,f.1∈TT/\f.2.1∈TT)(I:HI fs h):∀w∈BU fs h,w.1∈TT/\w.2∈TT/\Cl (sY fs) w.1 w.2:=λw m=>by
 refine(AU.mp m).elim (λm=>m.elim λf m=> ?_) λm=>m.elim λp m=>m.2.elim λq r=> ?_
 ·rw [<-m.2];exact⟨(i f m.1).1,(i f m.1).2,λj g c z'=>c _ _ ⟨f.2.2,m.1⟩⟩
 ·have hp:=m.1;have d:=r.1.1;rw [<-r.2];exact⟨(o0 hp).1,(o0 d).1,λj g c e=>e _ _ _ _ hp d (Hh (l9 r.1.2).1) (I.snd _ _ (o0 hp).2.1 (o0 d).2.1 (Hh (l9 (l9 r.1.2).2).2) _ g c e)⟩
theorem PD:∀p∈t8,∀q∈t8,p.1<q.1->xi p.1<xi q.1:=by decide
theorem qx.of(c:∀w∈BU fs h,lb h w.1=lb h w.2):qx fs h:=⟨λf m=>c (f.1,f.2.1) (AU.mpr (.inl ⟨f,m,rfl⟩)),λp q hp d s l e=>c _ (AU.mpr (.inr ⟨p,hp,q,⟨d,by unfold wt;rw [Rh s,Rh e,Rh (PD p hp q d l)];rfl⟩,rfl⟩))⟩
theorem OL{i:Mh}{d:Jh}{kk:M}{u:Mo}{c:IC}{K:KB}(q:(A9 P n kk).b u (c.set i (.a9 d)) K):(A9 P n (.set i (.con d) kk)).b u c K:=q
theorem BH{i j:Mh}{m kk:M}{u:Mo}{c:IC}{K:KB}(q:(A9 P n m).c u c λws c1=>ck (nu (D8 c.ρ u) (.W8 j)&&c1.ρ.all λp=>nt (.W8 j) p.2) (w6 (.W8 j) (.list true ws)/\(A9 P n kk).b u ⟨T9 c1.ρ i (.g9 (.W8 j)),T9 c1.t j (.list true ws),c1.b⟩ K)):(A9 P n (.vY i (.W8 j) m kk)).b u c K:=q
variable{gs:xh (Kh×u9)}
def hA:M:=jH false [5,6,7] false (jJ 3) gA [0,1,2,3] (jH true [11,12] false J3 sK [0,1,2,3] jN)
def fA:M:=jT 2 (jK (.bool false)) (.vY 3 (.W8 0) (jZ (jU (Y2 (jS J4 (Yi 1)) (jS J4 (Yi 2)))) [4] true J0 (jE .eq (jS J4 (Yi 0)) (Ys "tie")) []) hA)
theorem MK(I:HI fs h)(hl:fs.length<=1000)(q:lp ((A9 P n sK).b (.all,[.W8 0])) (N5 false [11,12]) (IC.keep [0,1,2,3]) (λfl c=>c.σ (.W8 0)=some (.list false (((BU fs h).map pD).map .a9))/\put c (.W8 0) (.list true (((BU fs h).map pD).map .a9)) λd=>(zW (kB (A9 P n .nil) (.all,[]) k) k) fl d) (((BU fs h).map pD).map .a9) ⟨dR F h b0,[(0,.list false (((BU fs h).map pD).map .a9))],σ⟩):
  (A9 P n hA).b (.all,[]) (sI F h b0 [] (fs.map λf=>(f.1,f.2.1)) σ) k:=by
 refine yT (XD I.len (λz' m=>m) (vh (ef (vh (Ph (Eh _)) hl) _) (by decide)) ?_);refine NY (⟨.W8 0,.list _ _,.list _ _,rfl,C5,?_⟩);exact⟨λv m=>(List.mem_map.mp m).elim λz' e=>e.2▸trivial,q⟩
theorem XO{c:Kh}:(lay (.str (NA c))&&lay (.str (S "tie")))=true/\Y0 (.str (NA c)) (.str (S "tie"))= !c:=by
 cases c<;>exact⟨by kernel_rfl,by kernel_rfl⟩
theorem GF(d:∀f∈f8 gs,f.1∈TT/\f.2.1∈TT)(hl:gs.length<=1000)(I:HI (f8 gs) h):∃h' b',HI (f8 gs) h'/\(b'=false/\qx (f8 gs) h'\/b'=true/\sm h'<sm h)/\∀{T σ k},(∀o,T9 T 0 o=[(0,o)])->(∀o,k .next ⟨dR (A2 gs) h' b',[(0,o)],σ⟩)->
  (A9 P n fA).b (.all,[]) ⟨[(0,A2 gs),(1,.a9 (.list (zs h))),(2,.a9 (.bool true))],T,σ⟩ k:=by
 refine(Sz (n:=n) (P:=P) (oL d I) (b0:=false) I).elim λh' r=>r.elim λb' r=>⟨h',b',r.1,(r.2.1.imp (λr=>⟨r.1,by refine rL r.2.1 ?_;exact qx.of r.2.2⟩) id),λ{T σ k} c g=> ?_⟩;refine OL (BH ?_);refine⟨b9 (b9 (vh hl (by decide))),?_⟩;refine rL jg ?_;refine d5 _ (λf=>pD (f.2.1,f.2.2.1)) (λx m K k=>L8 XO.1 ((yh _ XO.2).mpr k)) (λx m z' K k=>k) λρ'=>(⟨λv m=>(List.mem_map.mp m).elim λz' e=>e.2▸trivial,?_⟩);haveI e:((gs.filter λf=> !f.1).map λf=>pD (f.2.1,f.2.2.1))=((f8 gs).map λf=>(f.1,f.2.1)).map pD:=by unfold f8;refine rL jg (rL jg ?_);rfl
 refine rL e ?_;refine(yh (λt=>(A9 P n _).b _ ⟨dR _ h _,t,σ⟩ k) (c _)).mpr (MK I (vh (Ph (Eh _)) (vh (Rg ..) hl)) (r.2.2 (by exact⟨rfl,g _⟩)))
structure Hm(fs:xh u9)(h:xh Dh):Prop where
 I:HI fs h
 C:qx fs h
theorem Hm.iff(H:Hm fs h)(d:a∈TT)(f:b∈TT):lb h a=lb h b↔Cl (sY fs) a b:=⟨H.I.snd a b d f,λc=>c _ _ (λx y q=>q.elim λm q=>H.C.1 _ q) λa b x y p q s e=>by
 rcases Int.lt_trichotomy a b with l|l|l
 ·exact H.C.2 _ _ p q s l e
 ·exact rL l rfl
 ·exact(H.C.2 _ _ q p s.symm l e.symm).symm⟩
theorem IF(g:∀f∈f8 gs,f.1∈TT/\f.2.1∈TT)(hl:gs.length<=1000):∀{N h},HI (f8 gs) h->sm h<N->∃h',Hm (f8 gs) h'/\∀{T σ k},(∀o,T9 T 0 o=[(0,o)])->(∀T,k .next ⟨[(0,A2 gs),(1,.a9 (.list (zs h'))),(2,.a9 (.bool false))],T,σ⟩)->
  wh ((A9 P n (.val (.var 2))).t (.all,[])) ((A9 P n fA).b (.all,[])) (IC.keep [0,1,2]) k (N+1) ⟨[(0,A2 gs),(1,.a9 (.list (zs h))),(2,.a9 (.bool true))],T,σ⟩:=by
 intro N;induction N with
 |zero=>exactλz' q=>(pc _ q).elim
 |succ N i=>
  intro h I q;refine(GF (P:=P) (n:=n) g hl I).elim λh' r=>r.elim λb' r=>r.2.1.elim (λe=> ?_) λe=> ?_
  ·refine⟨h',⟨r.1,e.2⟩,λ{T _ k} c d=> ?_⟩;refine r.2.2 c λo=> ?_;refine rL e.1 ?_;exact d _
  ·refine(i r.1 (dg e.2 (Yf q))).imp λj s=>⟨s.1,λ{T _ k} c d=> ?_⟩;refine r.2.2 c λo=> ?_;refine rL e.1 ?_;exact T5 (s.2 (λz'=>rfl) d) rfl
def hz:xh Dh:=[0,1,2,3,4,5,6,7,8,9,10]
theorem HI.zero:HI fs hz:=⟨rfl,by decide,λa b h c e=>by
 refine rL ((by decide:∀a∈TT,∀b∈TT,lb _ a=lb _ b->a=b) a h b c e) ?_;exactλz' z' z' z'=>rfl⟩
theorem Jx(c:∀f∈f8 gs,f.1∈TT/\f.2.1∈TT)(hl:gs.length<=1000):∃h,Hm (f8 gs) h/\∀σ,e7 P 1 .all 74 [A2 gs] σ (.a9 (.list (zs h))) σ:=by
 refine(IF (P:=P) (n:=0) c hl (N:=56) HI.zero (by decide)).imp λh r=>⟨r.1,λσ=> ?_⟩;exact enter wj rt rt (⟨⟨by decide,by decide⟩,57,(T5 (r.2 (λz'=>rfl) λz'=>done) rfl)⟩)
variable{l m:xh Dh}{y z:Dh}{d:Jh}{ds:xh Jh}
theorem a5(q:lay d=true):Y0 d d=true:=by refine rL JN ?_;exact PySem.SeqAt.eqv_refl d (l9 q).1
theorem KN{x:Jh}:Y0 (.list (x::ds)) (.list [])=false:=by rfl
theorem C4{c:Kh}:(lay (.str (NA c))&&lay (.str (S "part")))=true/\Y0 (.str (NA c)) (.str (S "part"))=c:=by
 cases c<;>exact⟨by kernel_rfl,by kernel_rfl⟩
theorem mI(q:∀d∈ds,d.canLay0=true/\d.depth<=1):lay (.list ds)=true:=by
 have h:re ds=true/\ec ds<=1:=by
  induction ds with
  |nil=>exact⟨rfl,ng _⟩
  |cons x l ih=>exact have i:=ih λd m=>q d (.tail _ m);⟨(gg _ _).mpr ⟨(q x (.head _)).1,i.1⟩,Nat.max_le.mpr ⟨(q x (.head _)).2,i.2⟩⟩
 exact(gg _ _).mpr ⟨h.1,Rh (vh (Vh h.2) (by decide))⟩
theorem VF{f:Kh×u9}:(q6 f).canLay0=true/\(q6 f).depth<=1:=by
 cases f with
 |mk c f=>cases c<;>exact⟨by kernel_rfl,Jg (by kernel_rfl)⟩
theorem nR:lay (.list (gs.map q6))=true:=mI λd m=>(List.mem_map.mp m).elim λf e=>e.2▸VF
theorem Wi{p:Kh×u9->Kh}:(!Y0 (.list ((gs.filter p).map q6)) (.list []))=gs.any p:=by
 induction gs with
 |nil=>exact yh (!·) (a5 rfl)
 |cons x l ih=>
  rw [fe];cases q:p x with
  |true=>rw [Vf q];exact yh (!·) KN
  |false=>rw [Xf (by rw [q];exact wg)];exact ih
theorem AT:Y0 (.list (zs l)) (.list (zs m))=decide (l=m):=by
 show Jb _ _=_;induction l generalizing m with
 |nil=>cases m<;>rfl
 |cons x l i=>
  cases m with
  |nil=>rfl
  |cons y m=>
   show(yf _ _&&Jb (zs l) (zs m))=_;refine rL i ?_;rw [show yf _ _=decide (x=y) by rfl,Bool.eq_iff_iff,gg,tf,tf,tf,List.cons.injEq]
def both(h:xh Dh)(a b:Dh):xh Dh:=Ja [lb h a,lb h b]
def y0(h:xh Dh)(g:xh (Kh×u9))(a b:Dh):Kh:=decide (both h a b=both h 1 2)||g.any λf=>f.1&&decide (both h f.2.1 f.2.2.1=both h a b)
def wZ(h:xh Dh)(g:xh (Kh×u9))(a b:Dh):Dh:=if lb h a=lb h b then 1 else cond (y0 h g a b) (-1) 0
def FT(g:xh (Kh×u9)):Prop:=∀f∈g,f.2.1∈TT/\f.2.2.1∈TT
theorem lD:(1)∈TT/\(2)∈TT:=by decide
theorem Gl(hl:h.length=11)(p:a∈TT)(r:b∈TT)(o:FT gs)(j:gs.length<=1000):e7 P 1 .all 75 [.a9 (.list (zs h)),A2 gs,iv (xi a),iv (xi b)] σ (.a9 (.bool (y0 h gs a b))) σ:=by
 haveI z:=Z2 hl;haveI i:∀{l m},(lay (.list (zs l))&&lay (.list (zs m)))=true:=λ{l m}=>(gg _ _).mpr ⟨K6,K6⟩;refine enter vj rt rt (k9 (C7 hl p) ⟨z,k9 (C7 hl r) ⟨z,?_⟩⟩);refine⟨[lb h a,lb h b],rfl,(by decide:2<64),?_⟩;refine k9 (C7 hl lD.1) ⟨z,k9 (C7 hl lD.2) ⟨z,?_⟩⟩;refine⟨[lb h 1,lb h 2],rfl,(by decide:2<64),?_⟩;refine L8 i ?_;by_cases e:both h a b=both h 1 2
 ·exact D9 (AT.trans (Rh e)) (a3 (by unfold y0;refine rL (Rh e) ?_;rfl))
 refine v9 (AT.trans (Xh e)) (⟨b9 (b9 (vh j (by decide))),?_⟩);refine rL jg ?_;refine d5 (λf=>f.1&&decide (both h f.2.1 f.2.2.1=both h a b)) _ (λf m K k=>L8 C4.1 ?_) (λf m K z' k=>k) λρ'=>D5 ?_
 ·haveI q:=o f m;cases c:f.1 with
  |false=>rw [c] at k;exact v9 C4.2 k
  |true=>
   rw [c] at k;exact D9 C4.2 (k9 (C7 hl q.1) ⟨z,k9 (C7 hl q.2) ⟨z,(⟨[lb h f.2.1,lb h f.2.2.1],rfl,(by decide:2<64),L8 i (AT▸k)⟩)⟩⟩)
 refine L8 ((gg _ _).mpr ⟨nR,rfl⟩) (a3 ?_);unfold y0;refine rL Wi (rL (Xh e) ?_);rfl
theorem Bq(hl:h.length=11)(c:a∈TT)(f:b∈TT)(i:FT gs)(g:gs.length<=1000):e7 P 2 .all 76 [.a9 (.list (zs h)),A2 gs,iv (xi a),iv (xi b)] σ (iv (wZ h gs a b)) σ:=by
 haveI z:=Z2 hl;refine enter uj rt rt (k9 (C7 hl c) ⟨z,k9 (C7 hl f) ⟨z,?_⟩⟩);unfold wZ;by_cases e:lb h a=lb h b
 ·refine rL (Lh e) ?_;exact D9 (N8 e) done
 refine rL (Fh e) ?_;refine v9 (E8 e) (V8 (Gl hl c f i g) rt ?_);cases y0 h _ a b<;>exact done
def DI(g:xh (Kh×u9))(h:xh Dh):Kh:=decide (lb h 1=lb h 2)||g.any λf=>f.1&&decide (lb h f.2.1=lb h f.2.2.1)
theorem Aq(hl:h.length=11)(i:FT gs)(j:gs.length<=1000)(H:∀σ,e7 P 1 .all 74 [A2 gs] σ (.a9 (.list (zs h))) σ):e7 P 2 .all 77 [A2 gs] σ (.a9 (.bool (DI gs h))) σ:=by
 haveI z:=Z2 hl;refine enter tj rt rt (V8 (H _) rt ?_);refine k9 (C7 hl lD.1) ⟨z,k9 (C7 hl lD.2) ⟨z,?_⟩⟩;by_cases e:lb h 1=lb h 2
 ·exact D9 (N8 e) (a3 (by unfold DI;refine rL (Rh e) ?_;rfl))
 refine v9 (E8 e) (⟨b9 (b9 (vh j (by decide))),?_⟩);refine rL jg ?_;refine d5 (λf=>f.1&&decide (lb h f.2.1=lb h f.2.2.1)) _ (λf m K k=>L8 C4.1 ?_) (λf m K z' k=>k) λρ'=>D5 ?_
 ·haveI q:=i f m;cases c:f.1 with
  |false=>rw [c] at k;exact v9 C4.2 k
  |true=>
   rw [c] at k;exact D9 C4.2 (k9 (C7 hl q.1) ⟨z,k9 (C7 hl q.2) ⟨z,k⟩⟩)
 refine L8 ((gg _ _).mpr ⟨nR,rfl⟩) (a3 ?_);unfold DI;refine rL Wi (rL (Xh e) ?_);rfl
variable{l1 l2:xh Dh}{c w:Dh}{o:Ah o8}{f:u9}
theorem GU:Ja [x,y]=Ja [z,w]↔(x=z/\y=w)\/(x=w/\y=z):=by
 refine⟨λe=> ?_,λe=>e.elim (λe=>by rw [e.1,e.2]) λe=>by refine rL e.1 (rL e.2 ?_);exact eq_sortI ((Rc _).trans (List.Perm.swap ..)) (sortI_rises _)⟩;have p:[x,y].Perm [z,w]:=(Rc _).symm.trans (e▸Rc _);refine(List.mem_cons.mp (p.mem_iff.mp (.head _))).elim (λq=> .inl ⟨q,?_⟩) λq=> .inr ⟨List.mem_singleton.mp q,?_⟩
 ·rw [q] at p;exact List.mem_singleton.mp ((List.Perm.cons_inv p).mem_iff.mp (.head _))
 ·rw [List.mem_singleton.mp q] at p;exact List.mem_singleton.mp ((List.Perm.cons_inv (p.trans (List.Perm.swap ..))).mem_iff.mp (.head _))
theorem Z5:f∈R8 gs↔(true,f)∈gs:=by
 refine List.mem_map.trans ⟨λq=>q.elim λx q=> ?_,λq=>⟨_,List.mem_filter.mpr ⟨q,rfl⟩,rfl⟩⟩;have m:=List.mem_filter.mp q.1;haveI e:x=(true,f):=Ac m.2 q.2;exact e▸m.1
theorem o5:f∈f8 gs↔(false,f)∈gs:=by
 refine List.mem_map.trans ⟨λq=>q.elim λx q=> ?_,λq=>⟨_,List.mem_filter.mpr ⟨q,rfl⟩,rfl⟩⟩;haveI m:=List.mem_filter.mp q.1;have e:x=(false,f):=Ac ((Ug _).resolve_left λz=>by rw [z] at m;exact(by nomatch m.2)) q.2;exact e▸m.1
theorem lw{f:Kh×u9}(m:f∈gs)(e:f.1=true):f.2∈R8 gs:=Z5.mpr (by cases f;cases e;exact m)
theorem ZP{p:u9->Kh}:(p (1,2,0)||gs.any λf=>f.1&&p f.2)=true↔∃c∈Pa (R8 gs),p c=true:=by
 unfold Pa;rw [Xg,List.any_eq_true];refine⟨λq=>q.elim (λq=>⟨_,.head _,q⟩) λq=>q.elim λf q=>have e:=l9 q.2;⟨f.2,.tail _ (lw q.1 e.1),e.2⟩,λq=>q.elim λc q=>(List.mem_cons.mp q.1).imp (λe=>(yh p e).symm.trans q.2) λm=>⟨(true,c),Z5.mp m,q.2⟩⟩
theorem YU(h:FT gs)(m:f∈Pa (R8 gs)):f.1∈TT/\f.2.1∈TT:=(List.mem_cons.mp m).elim (λe=>e▸lD) λm=>h _ (Z5.mp m)
theorem nX(h:FT gs):∀f∈f8 gs,f.1∈TT/\f.2.1∈TT:=λf m=>h _ (o5.mp m)
theorem nQ:y0 h gs a b=true↔∃c∈Pa (R8 gs),both h c.1 c.2.1=both h a b:=by
 haveI e:y0 h _ a b=(decide (both h 1 2=both h a b)||gs.any λf=>f.1&&decide (both h _ _=both h a b)):=yh (·||_) (decide_eq_decide.mpr eq_comm);exact rL e ((ZP (p:=λc=>decide (both h c.1 c.2.1=both h a b))).trans (ye λc=>xe Sg tf))
theorem Hm.part(H:Hm (f8 gs) h)(hF:FT gs)(ha:a∈TT)(hb:b∈TT):y0 h gs a b=true↔∃c,OT (f8 gs) (R8 gs) a b (some c):=by
 refine nQ.trans ⟨λq=>q.elim λc q=> ?_,λq=>q.elim λc q=> ?_⟩
 ·have m:=YU hF q.1;refine(GU.mp q.2).elim (λe=>⟨c,(H.iff ha m.1).mp e.1.symm,(H.iff hb m.2).mp e.2.symm,.inl q.1⟩) λe=>⟨(c.2.1,c.1,c.2.2),(H.iff ha m.2).mp e.2.symm,(H.iff hb m.1).mp e.1.symm,.inr q.1⟩
 ·refine q.2.2.elim (λm=>⟨c,m,?_⟩) λm=>⟨_,m,?_⟩
  ·have w:=YU hF m;exact GU.mpr (.inl ⟨((H.iff ha w.1).mpr q.1).symm,((H.iff hb w.2).mpr q.2.1).symm⟩)
  ·have w:=YU hF m;exact GU.mpr (.inr ⟨((H.iff hb w.1).mpr q.2.1).symm,((H.iff ha w.2).mpr q.1).symm⟩)
theorem p4.ne{fs ps:xh u9}(q:p4 fs ps){p:o8}(r:OT fs ps a b (some p))(e:Cl (sY fs) a b):False:=by
 have k:Cl (sY fs) p.1 p.2.1:=λα f h1 h2=>(r.1 α f h1 h2).symm.trans ((e α f h1 h2).trans (r.2.1 α f h1 h2));exact r.2.2.elim (λm=>q _ m k) λm=>q _ m k.symm
theorem Hm.tY(H:Hm (f8 gs) h)(hF:FT gs)(C:p4 (f8 gs) (R8 gs))(ha:a∈TT)(hb:b∈TT)(r:OT (f8 gs) (R8 gs) a b o):wZ h gs a b=tv o:=by
 unfold wZ;cases o with
 |none=>exact Lh ((H.iff ha hb).mpr r)
 |some p=>
  rw [Fh λe=>C.ne r ((H.iff ha hb).mp e),(H.part hF ha hb).mpr ⟨p,r⟩];rfl
theorem Hm.kw(H:Hm (f8 gs) h)(k:FT gs)(j:a∈TT)(i:b∈TT)(r:∀o,¬OT (f8 gs) (R8 gs) a b o):wZ h gs a b=0:=by
 unfold wZ;refine rL (Fh λe=>r none ((H.iff j i).mp e)) (rL ((Ug _).resolve_left λe=>((H.part k j i).mp e).elim λp q=>r _ q) ?_);rfl
def tz(o:Ah (Ah o8)):Dh:=(o.map tv).getD 0
theorem Good.truth(G:Good (f8 gs) (R8 gs) E)(H:Hm (f8 gs) h)(k:FT gs)(hs:E.P9 t=some (a,b))(j:a∈TT)(i:b∈TT):wZ h gs a b=tz (E.d8 t):=by
 cases e:E.d8 t with
 |none=>exact H.kw k j i λo r=>(G.tells hs r).elim λo' q=>(by nomatch e.symm.trans q)
 |some o=>exact H.tY k G.cons j i (G.tY hs e)
theorem Hm.cons(H:Hm (f8 gs) h)(i:FT gs):DI gs h=false↔p4 (f8 gs) (R8 gs):=by
 have e:DI gs h=true↔∃c∈Pa _,lb h _=lb h c.2.1:=(ZP (p:=λc=>decide (lb h c.1=lb h c.2.1))).trans (ye λc=>xe Sg tf);refine⟨λq f m k=> ?_,λq=>(Ug _).resolve_left λz=>(e.mp z).elim λc z=>q c z.1 ((H.iff (YU i z.1).1 (YU i z.1).2).mp z.2)⟩;rw [e.mpr ⟨f,m,(H.iff (YU i m).1 (YU i m).2).mpr k⟩] at q;exact(by nomatch q)
def BW(g:xh (Kh×u9)):Prop:=∀f∈g,(f.2.1∈TT/\f.2.2.1∈TT)/\f.2.2.2∈[(-7),-5,-3,2,4,6]
theorem z0:(0)∉[(-7),-5,-3,2,4,6]:=by decide
theorem BW.ft(h:BW gs):FT gs:=λf m=>(h f m).1
def B8(gs:xh (Kh×u9))(l:xh Dh):xh (Kh×u9):=gs.filter λf=>decide (f.2.2.2∈l)
def Q4(gs:xh (Kh×u9))(l:xh Dh):Prop:=UT l/\∀m∈l,∃f∈gs,f.2.2.2=m
theorem lR(h:UT l):l.length<=6:=S8 (h.1.imp Ud) h.2
theorem BW.B8(h:BW gs):BW (B8 gs l):=λf m=>h f (List.mem_filter.mp m).1
theorem rQ{f:Kh×u9}:f∈B8 gs l↔f∈gs/\f.2.2.2∈l:=List.mem_filter.trans (xe Sg tf)
theorem I1:x∈Ja l↔x∈l:=(Rc l).mem_iff
theorem tC(h:l.Nodup):(Ja l).Pairwise (·<·):=((sortI_rises l).and ((Rc l).nodup_iff.mpr h)).imp Int.lt_iff_le_and_ne.mpr
theorem Q4.of(e:BW gs)(h:l.Nodup)(q:∀m∈l,∃f∈gs,f.2.2.2=m):Q4 gs (Ja l):=⟨⟨tC h,λx m=>(q x (I1.mp m)).elim λf w=>w.2▸(e f w.1).2⟩,λm h=>q m (I1.mp h)⟩
theorem Q4.nd(h:Q4 gs l):l.Nodup:=h.1.1.imp Ud
theorem ZO:x∈Fi l1 l2↔x∈l1\/x∈l2:=by
 refine I1.trans (List.mem_append.trans ?_);rw [Ua];by_cases q:x∈l1
 ·exact⟨λz'=> .inl q,λz'=> .inl q⟩
 ·refine rL (Xh q) ?_;exact Yb Sg (and_iff_left rfl)
theorem Q4.join(q:BW gs)(j:Q4 gs l1)(i:Q4 gs l2):Q4 gs (Fi l1 l2):= .of q (List.nodup_append.mpr ⟨j.nd,i.nd.filter _,λa p b k e=>by
  haveI:=(List.mem_filter.mp k).2;rw [<-e,Rh p] at this;exact(by nomatch this)⟩) λm h=>(List.mem_append.mp h).elim (j.2 m) λh=>i.2 m (List.mem_filter.mp h).1
theorem uU(q:x∈l):x∈P7 l y:=by
 unfold P7;split
 ·exact q
 ·exact I1.mpr (Zh _ q)
theorem dH:y=0\/y∈P7 l y:=by
 by_cases e:y=0
 ·exact .inl e
 refine .inr ?_;unfold P7;by_cases q:y∈l
 ·rw [Lh (.inr q)];exact q
 ·rw [Fh (not_or.mpr ⟨e,q⟩)];exact I1.mpr (fg _ (.head _))
theorem Q4.wr(hF:BW gs)(h:Q4 gs l)(m:f∈Pa (R8 gs)):Q4 gs (P7 l f.2.2):=by
 unfold P7;split
 ·exact h
 ·rename_i e;exact .of hF (b7 h.nd λq=>e (.inr q)) λx q=>(i8 q).elim (h.2 x) λz=>((List.mem_cons.mp m).elim (λw=>(e (.inl (w▸rfl))).elim) λm=>⟨_,Z5.mp m,z.symm⟩)
theorem eZ(hF:BW gs)(t:Told (f8 gs) a b l):Q4 gs l/\Cl (sY (f8 (B8 gs l))) a b:=t.elim λfd t=>by
 rw [t.1];refine⟨.of hF t.2.1 λm h=>(t.2.2.2.1 m h).2.elim λu q=>q.elim λv q=>⟨_,o5.mp q,rfl⟩,t.2.2.2.2.mono λx y q=>q.imp λm q=>o5.mpr (rQ.mpr ⟨o5.mp q.1,?_⟩)⟩;refine q.2.elim (λz=> ?_) λm=>I1.mpr m;have w:=(hF _ (o5.mp q.1)).2;rw [show m=0 from z] at w;exact(z0 w).elim
theorem l4{l e:xh Dh}(h:∀m∈l,m∈e)(k:Cl (sY (f8 (B8 gs l))) a b):Cl (sY (f8 (B8 gs e))) a b:=k.mono λx y q=>q.imp λm q=>o5.mpr (rQ.mpr ((rQ.mp (o5.mp q)).imp id (h _)))
theorem p4.B8(q:p4 (f8 gs) (R8 gs)):p4 (f8 (B8 gs l)) (R8 (B8 gs l)):=λf m k=>q f ((List.mem_cons.mp m).elim (λe=>e▸ .head _) λm=> .tail _ (Z5.mpr (rQ.mp (Z5.mp m)).1)) (k.mono λx y q=>q.imp λm q=>o5.mpr (rQ.mp (o5.mp q)).1)
theorem CZ(h:BW gs)(m:f∈Pa (R8 gs)):f∈Pa (R8 (B8 gs (P7 l f.2.2))):=(List.mem_cons.mp m).elim (λe=>e▸ .head _) λq=>by
 have q:=Z5.mp q;refine .tail _ (Z5.mpr (rQ.mpr ⟨q,(dH).resolve_left λz=> ?_⟩));haveI w:=(h _ q).2;rw [show(true,f).2.2.2=0 from z] at w;exact z0 w
theorem eH(hF:BW gs)(q:Zy (f8 gs) (R8 gs) a b l o):Q4 gs l/\OT (f8 (B8 gs l)) (R8 (B8 gs l)) a b o:=by
 cases o with
 |none=>exact eZ hF q
 |some c=>
  refine q.elim λl1 q=>q.elim λl2 q=> ?_;have b1:=eZ hF q.1;have b2:=eZ hF q.2.1;have bj:=b1.1.join hF b2.1;have s1:∀m∈l1,m∈l:=λm h=>q.2.2.1▸uU (ZO.mpr (.inl h));have s2:∀m∈l2,m∈l:=λm h=>q.2.2.1▸uU (ZO.mpr (.inr h));have e:=q.2.2.1;refine q.2.2.2.elim (λm=>⟨e▸bj.wr hF m,l4 s1 b1.2,l4 s2 b2.2,.inl (e▸CZ hF m)⟩) λm=>⟨e▸bj.wr (f:=(c.2.1,c.1,c.2.2)) hF m,l4 s1 b1.2,l4 s2 b2.2,.inr (e▸CZ hF m)⟩
theorem WV(hF:BW gs)(q:r4 (f8 gs) (R8 gs) l):Q4 gs l/\¬p4 (f8 (B8 gs l)) (R8 (B8 gs l))/\¬p4 (f8 gs) (R8 gs):=q.elim λf q=>q.elim λl0 q=>by
 have b:=eZ hF q.2.1;have e:=q.2.2;exact⟨e▸b.1.wr hF q.1,λc=>c f (e▸CZ hF q.1) (l4 (λm h=>e▸uU h) b.2),λc=>c f q.1 q.2.1.all⟩
end
section
variable{P:w8}{n:Mh}{g:q9}{K:O8}{E:G9}{L:Lw}{gs:xh (Kh×u9)}{h l:xh Dh}{a b t v x y z w:Dh}{W:xh (Dh×(Dh×Dh))}{p:Dh×Dh}
theorem VS{l:xh (Dh×AV)}{q:AV}:lk ((x,q)::l) t=if x=t then some q else lk l t:=by
 unfold lk;refine rL (te) ?_;by_cases e:x=t
 ·refine rL (Lh e) (rL (Rh e) ?_);rfl
 ·exact rL (Fh e) (rL (Xh e) rfl)
theorem qV(n:(W.map (·.1)).Nodup)(m:(t,p)∈W):lk (W4 W) t=some (.a9 (qY p)):=by
 induction W with
 |nil=>exact(by nomatch m)
 |cons x W i=>
  have n:=List.nodup_cons.mp n;exact VS.trans ((List.mem_cons.mp m).elim (λe=>e▸Lh rfl) λm=>(Fh λe=>n.1 (List.mem_map.mpr ⟨_,m,e.symm⟩)).trans (i n.2 m))
theorem SB{q:Dh×(Dh×Dh)}(n:(W.map (·.1)).Nodup)(m:(t,p)∈W)(r:q∈W)(e:q.1=t):q=(t,p):=by
 induction W with
 |nil=>exact(by nomatch m)
 |cons x W i=>
  have n:=List.nodup_cons.mp n;haveI c:∀{u v},v∈W->u.1=v.1->u=x->False:=λ{u v} h e z=>n.1 (List.mem_map.mpr ⟨v,h,(z▸e).symm⟩);exact(List.mem_cons.mp m).elim (λa=>(List.mem_cons.mp r).elim (λb=>b.trans a.symm) λb=>(c b e.symm a).elim) λa=>(List.mem_cons.mp r).elim (λb=>(c a e b).elim) λb=>i n.2 a b
theorem WP:(W4 W).any (λp=>decide (p.1=t))=true↔∃p,(t,p)∈W:=by
 unfold W4;refine rL List.any_map ?_;rw [List.any_eq_true];exact⟨λq=>q.elim λy q=>⟨y.2,by haveI e:=Hh q.2;refine rR e ?_;exact q.1⟩,λq=>q.elim λp q=>⟨_,q,Rh rfl⟩⟩
theorem UG(n:(W.map (·.1)).Nodup)(m:(t,p)∈W):R6 (W4 W) t (.a9 (qY p))=W4 W:=by
 unfold R6;rw [Lh (WP.mpr ⟨_,m⟩)];unfold W4;rw [jg];refine ze λq r=> ?_;show(if q.1=t then _ else _)=_;by_cases e:q.1=t
 ·rw [Lh e,SB n m r e]
 ·rw [Fh e]
theorem iT(m:∀p,(t,p)∉W):R6 (W4 W) t (.a9 (qY p))=W4 (W++[(t,p)]):=by
 unfold R6;exact(Fh λe=>(WP.mp e).elim m)▸(bg (l₂:=[(t,p)])).symm
def g5(L:Lw)(gs:xh (Kh×u9)):Prop:=(L.ok L.ids/\L.facts L.ids=gs.map q6)/\gs.length<=1000
theorem g5.FA(H:g5 L gs):e7 P 1 .all 78 [.g9 .state] (hl P g K E L) (A2 gs) (hl P g K E L):=by
 haveI q:=Mine.Internal.FA (P:=P) (g:=g) (K:=K) (E:=E) H.1.1 (by rw [H.1.2,Eh];exact vh H.2 (by decide));rw [H.1.2] at q;exact q
def z4(g:xh (Kh×u9)):xh Dh:=g.map (·.2.2.2)
theorem zq(H:g5 L gs)(B:Q4 gs l):e7 P 2 .all 79 [.g9 .state,.a9 (.list (zs l))] (hl P g K E L) (A2 (B8 gs l)) (hl P g K E L):=by
 have z6:gs.length<=1000000:=vh H.2 (by decide);refine enter rj rt rt (V8 H.FA rt ?_);refine⟨b9 (b9 z6),?_⟩;rw [jg];refine d5 (λz'=>true) (λf:Kh×u9=> .int f.2.2.2) (λf m K k=>k) (λf m z' K k=>k) λρ'=> ?_;rw [show(gs.filter λz'=>true).map (λf:Kh×u9=>Uc f.2.2.2)=zs (z4 gs) by rw [List.filter_eq_self.mpr λz' z'=>rfl];exact(jg ..).symm];refine D5 ⟨l,rfl,B.1,L8 ((gg _ _).mpr ⟨K6,K6⟩) (v9 (yh (!·) (a5 K6)) ?_)⟩;refine⟨D7 (vh (lR B.1) (by decide)),?_⟩;rw [Z7];refine d5 (λx=> !decide (x∈z4 gs)) Uc (λx m K k=>L8 ((gg _ _).mpr ⟨K6,rfl⟩) (m4▸k)) (λx m z' K k=>k) λρ'=>(D5 (L8 ((gg _ _).mpr ⟨K6,rfl⟩) (v9 ?_ ?_)))
 ·rw [List.filter_eq_nil_iff.mpr λx m=>by
   have q:x∈z4 gs:=(B.2 x m).elim λf q=>List.mem_map.mpr ⟨f,q⟩;rw [Rh q];exact wg]
  exact yh (!·) (a5 rfl)
 refine⟨b9 (b9 z6),?_⟩;show fJ _ _ _ _ _ ((gs.map q6).map AV.a9) _ _;rw [jg];exact d5 (λf:Kh×u9=>decide (f.2.2.2∈l)) q6 (λf m K k=>L8 ((gg _ _).mpr ⟨K6,rfl⟩) (m4▸k)) (λf m z' K k=>k) λρ'=>D5 done
theorem Ix(hB:BK K)(H:g5 L gs)(hF:BW gs)(w:lk (W4 L.C9) t=some (.a9 (qY (xi a,xi b))))(d:lk (W4 L.told) t=some (.a9 (qY (v,x))))(ha:a∈TT)(hb:b∈TT)(M:Mz 4 36 .all [iv t] E (.a9 (.list (zs l))) E)(B:Q4 gs l)(q:∀h,Hm (f8 (B8 gs l)) h->wZ h (B8 gs l) a b=v):
  e7 P 5 .all 80 [.g9 .state,.g9 .house,iv t] (hl P g K E L) (.a9 (.bool true)) (hl P g K E L):=by
 have F2:=hF.B8 (l:=l);have l2:(B8 gs l).length<=1000:=vh (Rg ..) H.2;refine(Jx (P:=P) (nX F2.ft) l2).elim λh r=>(enter pj rt rt (V8 (M P {g with r:=kU L} K hB λz' z' z=>(by nomatch z)) rt (p8 (zq H B) rt rt ?_)));refine k9 w (p8 (r.2 _) rt rt (p8 (Bq r.1.I.len ha hb F2.ft l2) rt rt ?_));exact k9 d (a3 (by rw [N8 (q h r.1)]))
variable{A:xh Dh}{k:KB}{T:xh (Dh×(Dh×Dh))}{tr:Dh->Dh}{vs:xh AV}
theorem aY{l:xh (Dh×AV)}{c:Kh}(e:l=W4 T):up (hl P g K E L) .ltold (.M9 (!c) l)=hl P g K E {L with told:=T,zt:=c}:=e▸B9 (λτ h=>by
 cases τ with
 |ltold=>exact(h rfl).elim
 |ls k t=>cases k<;>rfl
 |w7 k=>cases k<;>rfl
 |_=>rfl) rfl
theorem RN{l:xh (Dh×AV)}(z:L.zt=false)(e:l=W4 T):up (hl P g K E L) .ltold (.M9 true l)=hl P g K E {L with told:=T}:=(aY (c:=false) e).trans (yh _ (by cases L;cases z;rfl))
theorem gW(e:vs=(zs A).map .a9):up (hl P g K E L) .fresh (.list true vs)=hl P g K E {L with fresh:=A}:=e▸B9 (λτ h=>by
 cases τ with
 |fresh=>exact(h rfl).elim
 |ls k t=>cases k<;>rfl
 |w7 k=>cases k<;>rfl
 |_=>rfl) rfl
theorem ON{l:xh (Dh×AV)}{c:Kh}(e:l=W4 W):up (hl P g K E L) .lwat (.M9 (!c) l)=hl P g K E {L with C9:=W,zw:=c}:=e▸B9 (λτ h=>by
 cases τ with
 |lwat=>exact(h rfl).elim
 |ls k t=>cases k<;>rfl
 |w7 k=>cases k<;>rfl
 |_=>rfl) rfl
def tk(T:xh (Dh×(Dh×Dh)))(t:Dh):Kh:=T.any λp=>decide (p.1=t)
theorem T7:tk T t=true↔∃p,(t,p)∈T:=List.any_eq_true.trans ⟨λq=>q.elim λy q=>⟨y.2,by haveI e:=Hh q.2;refine rR e ?_;exact q.1⟩,λq=>q.elim λp q=>⟨_,q,Rh rfl⟩⟩
theorem kI:(lk (W4 T) t).isSome=tk T t:=by
 induction T with
 |nil=>rfl
 |cons x T i=>
  refine(yh _ VS).trans (Eq.trans ?_ (fe).symm);by_cases e:x.1=t
  ·refine rL (Lh e) (rL (Rh e) ?_);rfl
  ·refine rL (Fh e) (rL (Xh e) ?_);exact i
def W3(tr:Dh->Dh)(T:xh (Dh×(Dh×Dh)))(ks:xh Dh):xh Dh:=ks.filter λt=> !decide (tr t=0)&& !tk T t
def Lw.nt(L:Lw)(tr:Dh->Dh)(A:xh Dh):Lw:={L with told:=L.told++A.map λt=>(t,(tr t,(L.ids.length:Dh))),fresh:=L.fresh++A}
theorem yG:L.nt tr []=L:=by
 unfold Lw.nt;refine rL List.map_nil ?_;rw [Th,Th]
def RG:M:= .g6 [4,5] (jS (jS J0 (Ys "watched")) J3) (jT 6 (jF 76 (Y4 J2 J1 J4 J5)) (jI (jD (jE .ne J6 (Yi 0)) (jE .notin J3 (jS J0 (Ys "told")))) (jY (jU (Y2 J6 (jB .len (Y1 (jS J0 (Ys "levels")))))) (jS J0 (Ys "told")) J3 (jX (jL (jS J0 (Ys "fresh")) .append (Y1 J3)) jN)) jN jN))
abbrev FG(P:w8)(c:xh (Kh×u9))(h:xh Dh)(g:q9)(K:O8)(E:G9)(L:Lw):IC:=⟨[(0,.g9 .state),(1,A2 c),(2,.a9 (.list (zs h)))],[],hl P g K E L⟩
theorem ev(D:h.length=11)(F:FT gs)(C:gs.length<=1000)(z:L.zt=false)(u:(L.C9.map (·.1)).Nodup)(j:L.ids.length<=1000/\L.told.length+L.C9.length<=1000/\L.fresh.length+L.C9.length<=1000):∀{W:xh (Dh×(Dh×Dh))} {A:xh Dh},A.length+W.length<=L.C9.length->(A++W.map (·.1)).Nodup->(∀w∈W,w∈L.C9/\∃a b,(a∈TT/\b∈TT)/\w.2=(xi a,xi b)/\wZ h gs a b=tr w.1)->
  k .next (FG P gs h g K E (L.nt tr (A++W3 tr L.told (W.map (·.1)))))->lp ((A9 P 3 RG).b (.st,[.lwat])) (N5 true [3]) (IC.keep [0,1,2]) k (W.map λw=>iv w.1) (FG P gs h g K E (L.nt tr A)):=by
 intro W;induction W with
 |nil=>exactλ{A} z' z' z' c=>(yh (λA=>k .next (FG P gs h g K E (L.nt tr A))) (Th A)).mp c
 |cons w W l=>
  intro A f n hw c;haveI q:=hw w (.head _);refine q.2.elim λa d=>d.elim λb d=> ?_;have s:(!decide (tr w.1=0)&& !tk L.told w.1)=false->lp ((A9 P 3 RG).b (.st,[.lwat])) (N5 true [3]) (IC.keep [0,1,2]) k (W.map λw=>iv w.1) (FG P gs h g K E (L.nt tr A)):=λe=>by
   refine l (vh (Sh (Vg _) _) f) ?_ (λw m=>hw w (.tail _ m)) ?_
   ·exact n.sublist (List.Sublist.append_left (List.sublist_cons_self _ _) _)
   ·unfold W3 at c⊢;rw [Hg,Xf (by refine rL e ?_;exact wg)] at c;exact c
  haveI l1:(L.told++A.map λt=>(t,(tr t,(L.ids.length:Dh)))).length<=1000:=by
   rw [Ch,Eh];exact vh (Sh (vh (Qh _ _) f) _) j.2.1
  haveI l2:(L.fresh++A).length<=1000:=by
   refine rL Ch ?_;exact vh (Sh (vh (Qh _ _) f) _) j.2.2
  refine k9 (qV u (p:=(xi a,xi b)) (d.2.1▸q.1)) (p8 (Bq D d.1.1 d.1.2 F C) rt rt ?_);refine rL d.2.2 ?_;by_cases i:tr w.1=0
  ·exact v9 (j6 i) (k8 (s (rL (Rh i) rfl)) rfl)
  refine D9 (B6 i) ?_;have is:(lk (W4 (L.nt tr A).told) w.1).isSome=tk L.told w.1:=by
   refine rL kI ?_;unfold Lw.nt tk;refine rL List.any_append (rL List.any_map ?_);refine(yh _ (List.any_eq_false.mpr λy m e=> ?_)).trans (Bool.or_false _);exact(List.nodup_append.mp n).2.2 y m w.1 (.head _) (Hh e)
  by_cases e1:tk L.told w.1=true
  ·exact v9 (yh (!·) (is.trans e1)) (k8 (s (rL e1 (Rd _))) rfl)
  haveI e1:=(Ug _).resolve_left e1;refine D9 (yh (!·) (is.trans e1)) ⟨b9 (vh j.1 (by decide)),?_⟩;haveI H:∀p,(w.1,p)∉(L.nt tr A).told:=λp m=>by
   rw [kI] at is;haveI:=is.symm.trans (T7.mpr ⟨p,m⟩);rw [e1] at this;exact(by nomatch this)
  refine L8 (yh (!·) z) ⟨b9 (vh l1 (by decide)),j9 (RN (T:=(L.nt tr A).told++[(w.1,(tr w.1,(L.ids.length:Dh)))]) z ?_) ?_⟩
  ·haveI:=iT (p:=(tr w.1,(L.ids.length))) H;refine rR this ?_;rw [Eh];rfl
  refine⟨D7 (vh l2 (by decide)),j9 (gW X9) ?_⟩;refine k8 (l (A:=A++[w.1]) (by rw [Ch,Wg];show _+(1+W.length)<=_;rw [af 1];exact f) (by rw [ag];exact n) (λw m=>hw w (.tail _ m)) ?_) ?_
  ·unfold W3 at c⊢;rw [Hg,Vf (by refine rL (Xh i) (rL e1 ?_);rfl),List.append_cons] at c;exact c
  ·refine yh (λL=>FG P gs h g K E L) ?_;unfold Lw.nt;rw [bg,ag,ag];rfl
theorem OB(i:h.length=11)(c:FT gs)(f:gs.length<=1000)(z:L.zt=false)(n:(L.C9.map (·.1)).Nodup)(j:L.ids.length<=1000/\L.told.length+L.C9.length<=1000/\L.fresh.length+L.C9.length<=1000)(hw:∀w∈L.C9,∃a b,(a∈TT/\b∈TT)/\w.2=(xi a,xi b)/\wZ h gs a b=tr w.1){L':Lw}(e:L.nt tr (W3 tr L.told (L.C9.map (·.1)))=L')
  (d:k .next (FG P gs h g K E L')):lp ((A9 P 3 RG).b (.st,[.lwat])) (N5 true [3]) (IC.keep [0,1,2]) k (L.C9.map λw=>iv w.1) (FG P gs h g K E L):=by
 haveI q:=ev i c f z n j (Ph (kf _)) n (λw m=>⟨m,hw w m⟩) (by rw [Ta,e];exact d);rw [yG] at q;exact q
end
section
variable{P:w8}{n N k:Mh}{g g':q9}{K:O8}{E E':G9}{L L':Lw}{gs:xh (Kh×u9)}{h:xh Dh}{a b t v x y z w:Dh}{T acc:xh (Dh×(Dh×Dh))}{tr:Dh->Dh}{vs:xh AV}
theorem xN{u:Mo}{τ:Tg}{o o':d9}{c:xh (Mh×AV)}{t:xh (Mh×d9)}{b b2:Tg->Ah d9}{K:Mo->IC->(IC->(IC->Prop)->Prop)->Prop}(e:(A4 t b) τ=some o)(z:Fz o o')(q:τ.ti=none)(r:up b τ o'=b2)(k:K (u.1,τ::u.2) ⟨c,t,b2⟩ λd k=>d.σ τ=some o'/\put d τ o k):O5 u ⟨c,t,b⟩ K:=YY e z q (r.symm▸k)
theorem KU{τ:Tg}{o o':d9}{c:xh (Mh×AV)}{t:xh (Mh×d9)}{b b2:Tg->Ah d9}{k:IC->Prop}(q:τ.ti=none)(e:b τ=some o')(r:up b τ o=b2)(h:k ⟨c,t,b2⟩):(⟨c,t,b⟩:IC).σ τ=some o'/\put ⟨c,t,b⟩ τ o k:=⟨(T8 q).trans e,(JY q).mpr ⟨_,r,h⟩⟩
theorem El(F:g5 L gs)(hF:BW gs)(zt:L.zt=false)(zw:L.zw=false)(nw:(L.C9.map (·.1)).Nodup)(hb:L.ids.length<=1000/\L.told.length+L.C9.length<=1000/\L.fresh.length+L.C9.length<=1000):
  ∃h,Hm (f8 gs) h/\∀tr:Dh->Dh,(∀w∈L.C9,∃a b,(a∈TT/\b∈TT)/\w.2=(xi a,xi b)/\wZ h gs a b=tr w.1)->e7 P 4 .st 81 [.g9 .state] (hl P g K E L) (.a9 .none) (hl P g K E (L.nt tr (W3 tr L.told (L.C9.map (·.1))))):=by
 refine(Jx (P:=P) (nX hF.ft) F.2).imp λh r=>⟨r.1,λtr hw=> ?_⟩;refine enter oj rt rt (p8 F.FA rt rt (p8 (r.2 _) rt rt ?_));refine xN (τ:= .lwat) (yh (λb:Kh=>some (d9.M9 (!b) (W4 L.C9))) zw) TZ rfl (ON (c:=true) rfl) ?_;show lp _ _ _ _ ((W4 L.C9).map λp=> .a9 (.int p.1)) _;rw [show((W4 L.C9).map λp=>AV.a9 (.int p.1))=L.C9.map λw=>iv w.1 from jg ..];generalize e:L.nt tr (W3 tr L.told (L.C9.map (·.1)))=L2;have w2:L2.C9=L.C9/\L2.zw=false:=e▸⟨rfl,zw⟩;have e2:(Lw.nt {L with zw:=true} tr (W3 tr L.told (L.C9.map (·.1))))={L2 with zw:=true}:=by rw [<-e];rfl
 refine k8 (OB (L:={L with zw:=true}) r.1.I.len hF.ft F.2 zt nw hb hw e2 ?_) rfl;refine KU rfl (by rw [<-w2.1];rfl) ?_ E9;rw [<-w2.1];refine(ON rfl).trans (yh (hl P g K E) ?_);cases L2;cases w2.2;rfl
theorem BQ{K c:Type}[xg K]{f:K->Ah c}{k:K}{u:c}(h:f k=some u):f9 f k u=f:=funext λz=>by
 by_cases e:z=k
 ·exact rL e (rL i9 (rL h rfl))
 ·exact rL (e9 e) rfl
theorem I8{c β:Type}[xg c]{f:c->Ah β}{k j:c}{v w:β}(h:f9 f k v j=some w):(j=k/\w=v)\/f j=some w:=by
 by_cases e:j=k
 ·rw [e,i9] at h;exact .inl ⟨e,(Bh h).symm⟩
 ·rw [e9 e] at h;exact .inr h
def pw:xh (Str×Tg):=[(S "fresh",.fresh),(S "told",.ltold),(S "watched",.lwat),(S "levels",.levels)]
def vH(s:Str)(τ:Tg):Kh:=pw.all λp=> !decide (p.2=τ)||decide (p.1=s)
theorem FL{s:Str}{τ:Tg}(h:vH s τ=true):∀p∈pw,p.2=τ->p.1=s:=λp m e=>by
 haveI q:=List.all_eq_true.mp h p m;rw [Rh e] at q;exact Hh q
theorem FP{s:Str}{τ:Tg}{T:xh Dh}(h:vH s τ=true):∀j v,j≠s->sD T j=some v->v.keeps (·≠τ):=λj v n e=>by
 have g:∀p∈pw,j=p.1/\v= .g9 _->v.keeps (·≠τ):=λp m q=>q.2▸λz=>n (q.1.trans ((FL h) p m z));exact(I8 e).elim (g _ (.head _)) λe=>(I8 e).elim (g _ (.tail _ (.head _))) λe=>(I8 e).elim (g _ (.tail _ (.tail _ (.head _)))) λe=>(I8 e).elim (g _ (.tail _ (.tail _ (.tail _ (.head _))))) λe=>(I8 e).elim (λq=>q.2▸trivial) λe=>(by nomatch e)
theorem ZK{s:Str}{τ:Tg}(h:sD L.terms s=some (.g9 τ)):up (hl P g K E L) .state (.s8 (f9 (sD L.terms) s (.g9 τ)))=hl P g K E L:=by
 exact rL (BQ h) (B9 (λτ h=>rfl) rfl)
theorem qS{y:Mh}{ρ:xh (Mh×AV)}{s:Str}{τ:Tg}{o:d9}{F:IC->Prop}{u:Mo}(h:ρ.lookup y=some (.g9 .state))(ht:L'.terms=L.terms)(hs:sD L.terms s=some (.g9 τ))(e:up (hl P g K E L) τ o=hl P g K E L')(hk:vH s τ=true)(hn:(nu u τ&&(ρ.all (λp=>nt τ p.2)&&(hb .state τ&&(!L6 o&&(!V6 τ&&decide (s∈SK))))))=true)(ho:w6 τ o)(q:F ⟨ρ,[],hl P g K E L'⟩):
  ow ⟨ρ,[],hl P g K E L⟩ u y s τ o F:=
 k9 h (L8 hn ⟨ho,FP hk,j9 ((yh (λb=>up b .state _) e).trans (ht▸ZK (ht▸hs))) q⟩)
theorem OV{ids:xh Mh}{vs:xh AV}(e:vs=ids.map λi=> .g9 (.lvl i)):up (hl P g K E L) .levels (.list true vs)=hl P g K E {L with ids:=ids}:=by
 refine e▸B9 (λτ h=> ?_) rfl;cases τ with
 |levels=>exact(h rfl).elim
 |ls k t=>cases k<;>rfl
 |w7 k=>cases k<;>rfl
 |_=>rfl
theorem uE:∀{acc T:xh (Dh×(Dh×Dh))},((acc++T).map (·.1)).Nodup->(T.map λp=>(p.1,qY p.2)).foldl (λl p=>R6 l p.1 (.a9 p.2)) (W4 acc)=W4 (acc++T):=by
 intro acc T;induction T generalizing acc with
 |nil=>exactλz'=>yh _ (Th acc).symm
 |cons p T i=>
  intro n;show(T.map _).foldl _ (R6 _ p.1 _)=_;refine rL (iT λq m=>by
   rw [bg] at n;exact(List.nodup_append.mp n).2.2 p.1 (List.mem_map.mpr ⟨_,m,rfl⟩) _ (.head _) rfl) ?_
  refine(i (by rw [ag];exact n)).trans (yh _ (ag _ [p] T))
theorem tE(n:(T.map (·.1)).Nodup):dJ (T.map λp=>(p.1,qY p.2))=W4 T:=uE (acc:=[]) n
def H5(N:Mh)(T:xh (Dh×(Dh×Dh))):xh (Dh×(Dh×Dh)):=T.filter λp=>decide (p.2.2<=N)
def Lw.back(L:Lw)(N:Mh):Lw:={L with ids:=ug N,told:=H5 N L.told,fresh:=L.fresh.filter λt=>decide (t∈(H5 N L.told).map (·.1))}
theorem yq(Z:L.ids=ug N)(X:N<=1000)(x:k+1<N)(z:L.zt=false)(n:(L.told.map (·.1)).Nodup)(R:L.told.length<=1000/\L.fresh.length<=1000)(F:e7 P 7 .s2 38 [.g9 .house,iv (k+1:Mh)] (hl P g K E L) (.a9 .none) (hl P g' K E' L)):
  e7 P 8 .s2 82 [.g9 .state,.g9 .house,iv (k+1:Mh)] (hl P g K E L) (.a9 .none) (hl P g' K E' (L.back (N-(k+1)))):=by
 have D:∀{o:Type} {f:Mh->o},(L.ids.map f).length=N:=by rw [Z];exactλ{o f}=>(Eh _).trans Qg
 have h:∀{o:Type} {f:Mh->o},(L.ids.map f).length<=1000000:=λ{o f}=>D▸vh X (by decide);refine enter nj rt rt (V8 F rt ?_);refine⟨h,?_⟩;refine rL D ?_;refine k9 (rL (((Int.ofNat_sub (lf x)).symm)) F7) ⟨h,?_⟩;have S:(L.ids.map λi=>AV.g9 (.lvl i)).take (N-(k+1))=(ug (N-(k+1))).map λi=> .g9 (.lvl i):=by
  refine rL Z ?_;rw [<-Pc,List.take_range,Nat.min_eq_left (dc _ _)]
 refine qS (L':={L with ids:=ug _}) rfl rfl rfl (OV S) rfl rfl (λv m=>by rw [S] at m;exact(List.mem_map.mp m).elim λi q=>q.2▸rfl) (xN (τ:= .ltold) (yh (λb:Kh=>some (d9.M9 (!b) (W4 L.told))) z) TZ rfl (aY (c:=true) rfl) ?_);refine⟨b9 (b9 (vh R.1 (by decide))),?_⟩;refine rL (show((W4 L.told).map λp=>AV.a9 _)=L.told.map λw=>iv w.1 from jg ..) ?_;haveI a:∀{o:Type} {f:Mh->o},((ug _).map f).length=N-(k+1):=(Eh _).trans Qg;haveI Q:∀{o:Type} {f:Mh->o},((ug _).map f).length<=1000000:=λ{o f}=>by refine rL a ?_;exact vh (dc _ _) (vh X (by decide))
 refine d5 (λp:Dh×(Dh×Dh)=>decide (p.2.2<=((N-(k+1):Mh)))) _ (λp m K q=> ?_) (λp m z' K q=>q) λρ'=>D5 ?_
 ·refine k9 (qV n m) ⟨Q,?_⟩;refine rL a ?_;exact q
 refine KU rfl rfl (b2:=hl P g' K E' {L with ids:=ug (N-(k+1))}) ((aY rfl).trans (yh _ (by cases L;cases z;rfl))) ?_;haveI kd:((H5 (N-(k+1)) L.told).map (·.1)).Nodup:=n.sublist (xb _ Pb);refine rL (show(L.told.filter λp:Dh×(Dh×Dh)=>decide (p.2.2<=((N-(k+1):Mh)))).map (λp=>Uc p.1)=zs ((H5 _ L.told).map (·.1)) from(jg ..).symm) ?_;refine⟨D7 (b9 (vh (vh (Rg ..) R.1) (by decide))),?_⟩;refine rL Z7 (rL jg ?_);refine d5 _ (λp=> .tuple [.int p.1,qY p.2]) (λp m K q=>q) (λp m z' K q=> ?_) λρ'=>⟨(H5 (N-(k+1)) L.told).map λp=>(p.1,qY p.2),?_,?_⟩
 ·exact k9 (qV n (List.mem_filter.mp m).1) q
 ·refine rL (List.filter_eq_self.mpr λz' z'=>rfl) (rL jg (rL jg ?_));rfl
 refine rL (tE kd) ?_;refine qS (L':={L with ids:=ug _,told:=H5 _ L.told}) rfl rfl rfl (RN z rfl) rfl rfl (λy m=>(List.mem_map.mp m).elim λz' e=>e.2▸trivial) (YY (τ:= .fresh) rfl C5 rfl ?_);refine⟨G8,D7 (vh R.2 (by decide)),?_⟩;refine rL Z7 ?_;refine d5 _ _ (λt m K q=>L8 ((gg _ _).mpr ⟨K6,rfl⟩) (m4▸q)) (λt m z' K q=>q) λρ'=>(yZ rfl (yh (λl=>some _) Z7) ?_);refine qS (L':=L.back _) rfl rfl rfl (gW rfl) rfl rfl G8 E9
variable{A:xh Dh}{L1 L2:xh (xh Dh)}
theorem AI{α:Type}{h:α->AV}{T:IC->KT->Prop}{Ee:IC->KE->Prop}{ρ:xh (Mh×AV)}{one:Kh}{is:xh Mh}{tt:xh (Mh×d9)}{b:Tg->Ah d9}{l:xh α}
  (ht:∀x∈l,∀K:KT,(∀ρ',K false ⟨ρ',tt,b⟩)->N5 one is (h x) ⟨ρ,tt,b⟩ λc0=>T c0 K):∀{ρ0:xh (Mh×AV)} {K:KL},(∀ρ',K [] ⟨ρ',tt,b⟩)->fJ T Ee ρ one is (l.map h) ⟨ρ0,tt,b⟩ K:=by
 induction l with
 |nil=>exactλk=>k _
 |cons x l ih=>exactλ{ρ0 K} k=>ht x (.head _) _ λρ'=>ih (λx m=>ht x (.tail _ m)) k
theorem NU(p:L1.Perm L2)(h:NI L2):U4 L1=U4 L2:=SW ((qc _ _).trans p) h (GP _)
theorem NI.perm(p:L1.Perm L2)(h:NI L2):NI L1:=⟨λl m=>h.1 l (p.mem_iff.mp m),(p.map _).nodup_iff.mpr h.2⟩
theorem QX:lay (.list (sQ L1))=true:=mI λd m=>(List.mem_map.mp m).elim λl e=>e.2▸by
 haveI h:re (zs l)=true/\ec (zs l)<=0:=by
  clear e m;induction l with
  |nil=>exact⟨rfl,Oh _⟩
  |cons x l i=>exact⟨(gg _ _).mpr ⟨rfl,i.1⟩,Nat.max_le.mpr ⟨Oh _,i.2⟩⟩
 exact⟨h.1,Vh h.2⟩
def ZL(f:Dh->Dh)(l:xh Dh):xh (xh Dh):=l.map λt=>[t,f t]
theorem eG{f:Dh->Dh}{l:xh Dh}(n:l.Nodup):NI (ZL f l):=⟨λx m=>(List.mem_map.mp m).elim λt e=>e.2▸List.cons_ne_nil _ _,by
 unfold ZL;refine rL jg ?_;rw [show((λx=>x.headD 0)∘λt=>[t,f t])=id from rfl,Ma];exact n⟩
structure UR(E:G9)(L:Lw):Prop where
 zt:L.zt=false
 zw:L.zw=false
 nw:(L.C9.map (·.1)).Nodup
 w1:∀w∈L.C9,w.1∈UW/\∃a b,(a∈TT/\b∈TT)/\w.2=(xi a,xi b)/\E.P9 w.1=some (a,b)
 w2:∀t a b,E.P9 t=some (a,b)->(t,(xi a,xi b))∈L.C9
 nt:(L.told.map (·.1)).Nodup
 td:∀p∈L.told,p.1∈UW/\∃o,E.d8 p.1=some o/\tv o=p.2.1
 nf:L.fresh.Nodup
 fr:∀t∈L.fresh,tk L.told t=true
 nn:E.news.Nodup
 ns:∀t,t∈E.news↔t∈L.fresh\/((∃o,E.d8 t=some o)/\tk L.told t=false)
def aw(E:G9)(L:Lw):Prop:=∀t o,E.d8 t=some o->tk L.told t=true
def dZ(E:G9)(t:Dh):Dh:=tz (E.d8 t)
theorem UR.lk(A:UR E L)(m:tk L.told t=true):t∈UW/\(∃o,E.d8 t=some o)/\∃x,lk (W4 L.told) t=some (.a9 (qY (dZ E t,x))):=(T7.mp m).elim λp m=>by
 haveI q:=A.td _ m;refine⟨q.1,q.2.imp λo w=>w.1,p.2,q.2.elim λo w=> ?_⟩;refine rL (qV A.nt m) ?_;unfold dZ;exact w.1▸yh (λv=>some (AV.a9 (qY (v,p.2)))) w.2.symm
theorem UR.len(A:UR E L):L.C9.length<=12/\L.told.length<=12/\L.fresh.length<=12:=by
 haveI k:∀{T:xh (Dh×(Dh×Dh))},(T.map (·.1)).Nodup->(∀p∈T,p.1∈UW)->T.length<=12:=λ{T} n h=>vh (Ph (Eh _).symm) (S8 n λx m=>(List.mem_map.mp m).elim λp e=>e.2▸h p e.1);exact⟨k A.nw λw m=>(A.w1 w m).1,k A.nt λw m=>(A.td w m).1,S8 A.nf λt m=>(A.lk (A.fr t m)).1⟩
theorem UR.Ix(A:UR E L)(e1:L'.C9=L.C9)(e2:L'.told=L.told)(F:g5 L' gs)(hF:BW gs)(G:Good (f8 gs) (R8 gs) E)(hB:BK K)(m:tk L.told t=true):e7 P 5 .all 80 [.g9 .state,.g9 .house,iv t] (hl P g K E L') (.a9 (.bool true)) (hl P g K E L'):=by
 have q:=A.lk m;refine q.2.1.elim λo ho=>G.li.elim λes I=>(I.tk _ _ ho).elim λa s=>s.elim λb s=>q.2.2.elim λx d=> ?_;have ms:=A.w2 t a b s.1;refine(A.w1 _ ms).2.elim λa' r=>r.elim λb' r=> ?_;have e:=sf (Bh (r.2.2.symm.trans s.1));refine(G.zP s.1 ho).elim λl M=> ?_;have y:=eH hF M.2;refine Mine.Internal.Ix hB F hF (e1▸qV A.nw ms) (e2▸d) (e.1▸r.1.1) (e.2▸r.1.2) M.1 y.1 λh H=> ?_;unfold dZ;rw [ho];exact H.tY hF.B8.ft G.cons.B8 (e.1▸r.1.1) (e.2▸r.1.2) y.2
theorem RK{L L':Lw}(e:L'.lv=L.lv){l:xh Mh}:L'.facts l=L.facts l:=by
 induction l with
 |nil=>rfl
 |cons i l d=>exact(yh (λf=>(f i).getD []++L'.facts l) e).trans (yh _ d)
theorem g5.c(F:g5 L gs)(e:L'.lv=L.lv)(i:L'.ids=L.ids):g5 L' gs:=⟨⟨by unfold Lw.ok;refine rL e (rL i ?_);exact F.1.1,by refine rL i (rL (RK e) ?_);exact F.1.2⟩,F.2⟩
theorem UR.ask(A:UR E L)(f:aw E L):UR {E with news:=[]} {L with fresh:=[]}:={zt:=A.zt,zw:=A.zw,nw:=A.nw,w1:=A.w1,w2:=A.w2,nt:=A.nt,td:=A.td,nf:=Ig,fr:=λz' m=>((by nomatch m)),nn:=Ig,ns:=λt=>⟨λm=>((by nomatch m)),λq=>q.elim (λm=>(by nomatch m)) λq=>q.1.elim λo w=>nomatch (f t o w).symm.trans q.2⟩}
theorem Good.ask{fs ps:xh u9}(G:Good fs ps E):Good fs ps {E with news:=[]}:=⟨G.li,G.nt,G.ct,G.cl,G.qu,Ig,λz' m=>(by nomatch m)⟩
theorem OP{y:Mh}{s:Str}{τ:Tg}{kk:M}{u:Mo}{c:IC}{K:KB}(q:ow c u y s τ (.list true []) λd=>(A9 P n kk).b u d K):(A9 P n (.W0 y s τ (.lst .nil) kk)).b u c K:=q
def wv:M:= .W0 0 (S "fresh") .fresh (jP jN) (Yr (jE .eq (jZ J3 [3,4] false J2 (.not (.val (jF 80 (Y3 J0 J1 J3)))) [0,1]) (jP jN)))
theorem xq(A:UR E L)(f:aw E L)(F:g5 L gs)(X:BW gs)(G:Good (f8 gs) (R8 gs) E)(hB:BK K):e7 P 6 .st 83 [.g9 .state,.g9 .house] (hl P g K E L) (.a9 (.bool true)) (hl P g K {E with news:=[]} {L with fresh:=[]}):=by
 haveI R:∀{k},k<=12->k<=1000000:=λh=>vh h (by decide);haveI ln:=A.len;refine enter mj rt rt (YY (τ:= .fresh) rfl C5 rfl ?_);refine⟨G8,D7 (R ln.2.2),?_⟩;refine rL Z7 ?_;refine d5 _ (λt=> .tuple [.int t,.int (dZ E t)]) (λt m K q=>q) (λt m z' K q=>(A.lk (A.fr t m)).2.2.elim λx d=>k9 d q) λρ'=>D5 (yZ rfl (yh (λl=>some _) Z7) ?_);have e1:(L.fresh.filter λz'=>true).map (λt=>PyData.tuple [.int t,.int (dZ E t)])=sQ (ZL (dZ E) L.fresh):=by
  unfold sQ ZL;refine rL (List.filter_eq_self.mpr λz' z'=>rfl) (rL jg ?_);rfl
 have hd:=eG (f:=dZ E) A.nf;refine⟨ZL _ _,e1,eg (b9 ln.2.2) (by decide),hd,?_⟩;have nm:=λt=>(A.ns t).trans (Xb λq=>q.1.elim λo w=>nomatch (f t o w).symm.trans q.2);have O:=(List.perm_ext_iff_of_nodup A.nn A.nf).mpr nm;have j:∀t∈E.news,E.d8 t=some ((E.d8 t).getD none)/\f7 t=true:=λt m=>haveI q:=A.lk (A.fr t ((nm t).mp m));⟨q.2.1.elim λo w=>by refine rL w ?_;rfl,VL t q.1⟩;have U:=O.length_eq▸ln.2.2;refine p8 (cu j A.nn (R U) P {g with r:=kU L} K hB λz' z' z=>(by nomatch z)) rt rt ?_;haveI V:E.news.map (YM λt=>(E.d8 t).getD none)=sQ (ZL (dZ E) E.news):=by
  unfold sQ ZL;refine rL jg ?_;refine ze λt m=> ?_;show PyData.tuple [.int t,.int _]= .tuple [.int t,.int (tz _)];refine rL ((j t m).1) ?_;rfl
 haveI Y:U4 (ZL _ _)=U4 _:=NU (O.map _) hd;refine⟨ZL _ _,V,eg (b9 U) (by decide),hd.perm (O.map _),?_⟩;refine rL Y ?_;refine L8 ((gg _ _).mpr ⟨QX,QX⟩) (v9 (yh _ (a5 QX)) ?_);refine(show∃d,d=PyData.list []/\e7 P 1 .st 35 [.g9 .house] _ _ (hl P g K {E with news:=[]} L) from⟨_,rfl,cu (E:={E with news:=[]}) (f:=λz'=>none) (λz' m=>(by nomatch m)) Ig (ng _) P {g with r:=kU L} K hB λz' z' z=>(by nomatch z)⟩).elim λd C=>(p8 C.2 rt rt (L8 (rL C.1 rfl) (v9 (rL C.1 (yh _ (a5 rfl))) ?_)));suffices q:(A9 P 5 wv).b (.st,[]) ⟨[(0,.g9 .state),(1,.g9 .house),(2,.a9 _)],[],hl P g K {E with news:=[]} L⟩ _ from q;refine OP (qS (L':={L with fresh:=[]}) rfl rfl rfl (gW rfl) rfl rfl x6 ?_);haveI J:∀l∈U4 _,∃t,tk _ t=true/\l=[t,dZ E t]:=λl m=>(List.mem_map.mp ((qc _ _).mem_iff.mp m)).elim λt q=>⟨t,A.fr t q.1,q.2.symm⟩;refine⟨b9 (b9 (vh (Ph (List.length_mergeSort _)) (b9 (R ln.2.2)))),?_⟩;unfold sQ;refine rL jg ?_;refine AI (λl m K q=>(J l m).elim λt w=> ?_) λρ'=> ?_
 ·exact w.2▸p8 ((A.ask f).Ix rfl rfl (F.c rfl rfl) X G.ask hB w.1) rt rt (q _)
 ·exact a3 (yh (λb=>AV.a9 _) (a5 rfl))
variable{S:G9}{top:xh (Kh×u9)}{lv:xh (xh (Kh×u9))}{m:Dh}{T':xh (Dh×(Dh×Dh))}{ms:xh Dh}{fs ps:xh u9}{es Q:xh N9}{f:u9}{c:Kh}
def F4(lv:xh (xh (Kh×u9))):xh (Kh×u9):=lv.reverse.flatten
theorem p6:F4 (top::lv)=F4 lv++top:=by unfold F4;refine rL Oe (rL List.flatten_append ?_);exact yh _ (Th _)
theorem y2{f:Kh×u9}:F4 ((top++[f])::lv)=F4 (top::lv)++[f]:=by rw [p6,p6,ag]
theorem FY:f8 (gs++[(c,f)])=cond c (f8 gs) (f8 gs++[f]):=by
 unfold f8;rw [List.filter_append,bg];cases c
 ·rfl
 ·exact Th _
theorem KY:R8 (gs++[(c,f)])=cond c (R8 gs++[f]) (R8 gs):=by
 unfold R8;rw [List.filter_append,bg];cases c
 ·exact Th _
 ·rfl
abbrev j3(gs:xh (Kh×u9))(E:G9):Prop:=Good (f8 gs) (R8 gs) E
def bx(T:xh (Dh×(Dh×Dh)))(n:Mh)(S:G9):Prop:=(∀p∈T,p.2.2<=(n:Dh)->∃o,S.d8 p.1=some o/\tv o=p.2.1)/\∀t o,S.d8 t=some o->∃p∈T,p.1=t/\p.2.2<=(n:Dh)
theorem bx.eq(h:bx T n S)(e:∀p,p.2.2<=(n:Dh)->(p∈T↔p∈T')):bx T' n S:=⟨λp m q=>h.1 p ((e p q).mpr m) q,λt o q=>(h.2 t o q).imp λp w=>⟨(e p w.2.2).mp w.1,w.2⟩⟩
def P4(T:xh (Dh×(Dh×Dh))):xh (xh (Kh×u9))->xh Dh->G9->Prop
 |[],_,_=>False
 |_::lv,ms,E=>(lv=[]/\ms=[])\/∃S ms',ms=ms'++[(S.trail.length:Dh)]/\j3 (F4 lv) S/\h5 S E/\bx T lv.length S/\P4 T lv ms' S
theorem P4.ext(h:P4 T lv ms E)(s:h5 E E'):P4 T lv ms E':=by
 cases lv with
 |nil=>exact h
 |cons f _=>exact h.imp id λh=>h.imp λS h=>h.imp λm h=>⟨h.1,h.2.1,h.2.2.1.trans s,h.2.2.2⟩
theorem P4.tp{t:xh (Kh×u9)}(h:P4 T (top::lv) ms E):P4 T (t::lv) ms E:=h
theorem P4.eq:∀{lv ms E},P4 T lv ms E->(∀p,p.2.2<(lv.length:Dh)->(p∈T↔p∈T'))->P4 T' lv ms E:=by
 intro lv;induction lv with
 |nil=>exactλh z'=>h
 |cons f _ i=>exactλ{ms E} h e=>h.imp id λh=>h.imp λS h=>h.imp λm h=>⟨h.1,h.2.1,h.2.2.1,h.2.2.2.1.eq λp q=>e p (Int.lt_add_one_of_le q),i h.2.2.2.2 λp q=>e p (Int.lt_trans q (Int.lt_succ _))⟩
theorem P4.drop:∀{lv ms E n},P4 T lv ms E->n+1<lv.length->∃S mk0 mk1,ms=mk0++(S.trail.length:Dh)::mk1/\mk1.length=n/\j3 (F4 (lv.drop (n+1))) S/\h5 S E/\bx T (lv.drop (n+1)).length S/\P4 T (lv.drop (n+1)) mk0 S:=by
 intro lv;induction lv with
 |nil=>exactλh=>h.elim
 |cons f _ i=>
  intro ms E n h q;refine h.elim (λh=>by rw [h.1] at q;exact(pc _ (Mf q)).elim) λh=>h.elim λS h=>h.elim λm h=> ?_;cases n with
  |zero=>exact⟨S,m,[],h.1,rfl,h.2⟩
  |succ n=>exact(i h.2.2.2.2 (Mf q)).imp λe q=>q.imp λmk0 q=>q.elim λmk1 q=>⟨mk1++[(S.trail.length:Dh)],by rw [h.1,q.1,ag];rfl,List.length_append.trans (yh _ q.2.1),q.2.2.1,q.2.2.2.1.trans h.2.2.1,q.2.2.2.2⟩
theorem P4.len:∀{lv ms E},P4 T lv ms E->ms.length+1=lv.length:=by
 intro lv;induction lv with
 |nil=>exactλh=>h.elim
 |cons f _ i=>exactλ{ms E} h=>h.elim (λh=>by refine rL h.1 (rL h.2 ?_);rfl) λh=>h.elim λS h=>h.elim λm h=>by refine rL h.1 (rL Ch ?_);exact yh _ (i h.2.2.2.2)
structure Bas(lv:xh (xh (Kh×u9)))(E:G9)(L:Lw):Prop where
 G0:BW (F4 lv)
 z7:UR E L
 tl:∀p∈L.told,p.2.2<=(lv.length:Dh)
 B5:P4 L.told lv E.marks E
structure S9(lv:xh (xh (Kh×u9)))(E:G9)(L:Lw):Prop extends Bas lv E L where
 vT:aw E L
 good:j3 (F4 lv) E
theorem Bas.KG(I:Bas lv E L)(hl:lv.length<=1000):E.marks.length<=1000:=vh (Vg _) (vh (Ph I.B5.len) hl)
theorem Good.mX(G:Good fs ps E):E.trail.length<=132:=G.li.elim λz' L=>L.mX
theorem gC(h:∀p∈T,p.1≠t):tk T t=false:=(Ug _).resolve_left λe=>(T7.mp e).elim λp m=>h _ m rfl
theorem UR.Iq(A:UR E L)(w:Nw E E')(nn:E'.news.Nodup)(s1:∀w∈L.C9,E'.P9 w.1=E.P9 w.1)(s2:∀t a b,E'.P9 t=some (a,b)->E.P9 t=some (a,b)):UR E' L where
 zt:=A.zt
 zw:=A.zw
 nw:=A.nw
 w1:=λw m=>⟨(A.w1 w m).1,(A.w1 w m).2.imp λa q=>q.imp λb q=>⟨q.1,q.2.1,(s1 w m).trans q.2.2⟩⟩
 w2:=λt a b q=>A.w2 t a b (s2 t a b q)
 nt:=A.nt
 td:=λp m=>⟨(A.td p m).1,(A.td p m).2.imp λo q=>⟨w.up _ _ q.1,q.2⟩⟩
 nf:=A.nf
 fr:=A.fr
 nn:=nn
 ns:=λt=>w.nw.elim λnew q=>by
  rw [q.1];refine List.mem_append.trans ⟨λh=>h.elim (λh=>((A.ns t).mp h).imp id λh=>⟨h.1.imp λo=>w.up t o,h.2⟩) λh=> .inr ⟨((q.2.2 t).mp h).2,gC λp m e=> ?_⟩,λh=>h.elim (λh=> .inl ((A.ns t).mpr (.inl h))) λh=> ?_⟩
  ·exact(A.td p m).2.elim λo r=>nomatch (e▸r.1).symm.trans ((q.2.2 t).mp h).1
  ·cases r:E.d8 t with
   |none=>exact .inr ((q.2.2 t).mpr ⟨r,h.1⟩)
   |some o=>exact .inl ((A.ns t).mpr (.inr ⟨⟨o,r⟩,h.2⟩))
theorem S9.push(I:S9 lv E L){i:xh Mh}{f:Mh->Ah (xh Jh)}:S9 ([]::lv) {E with marks:=E.marks++[(E.trail.length:Dh)]} {L with ids:=i,lv:=f}:=by
 have e:F4 ([]::lv)=F4 lv:=p6.trans (Th _);have G:=I.good;refine{G0:=e.symm▸I.G0,z7:={zt:=I.z7.zt,zw:=I.z7.zw,nw:=I.z7.nw,w1:=I.z7.w1,w2:=I.z7.w2,nt:=I.z7.nt,td:=I.z7.td,nf:=I.z7.nf,fr:=I.z7.fr,nn:=I.z7.nn,ns:=I.z7.ns},tl:=λp m=>Vd (I.tl p m) (Ge (Int.lt_succ _)),B5:= ?_,vT:=I.vT,good:=e.symm▸⟨G.li,G.nt,G.ct,G.cl,G.qu,G.nw⟩};refine .inr ⟨E,E.marks,rfl,I.good,h5.refl.to rfl rfl,⟨λp m z'=>(I.z7.td p m).2,λt o q=>(T7.mp (I.vT t o q)).elim λp m=>⟨_,m,rfl,I.tl _ m⟩⟩,I.B5⟩
theorem zY{p:Dh×(Dh×Dh)}:p∈H5 N T↔p∈T/\p.2.2<=N:=List.mem_filter.trans (xe Sg tf)
theorem Bas.pop(I:Bas lv E L)(hm:lv.length<=1000)(li:LI fs ps E.toCor E.trail.length es Q)(nw:NW E)(hc:E.clash=none\/E.g0=E.marks.length)(hk:k+1<lv.length):
  ∃E',(∀(P:w8) (g:q9) (K:O8),BK K->(∀κ t,false=false->g.z κ t=false)->∃g',g'.r=g.r/\g'.z=g.z/\e7 P 7 .s2 38 [.g9 .house,iv (k+1:Mh)] (hp P g K E) (.a9 .none) (hp P g' K E'))/\Bas (lv.drop (k+1)) E' (L.back (lv.length-(k+1)))/\j3 (F4 (lv.drop (k+1))) E':=by
 refine(I.B5.drop hk).elim λS q=>q.elim λmk0 q=>q.elim λmk1 q=> ?_;have hl:=I.B5.len;refine(gG q.2.2.1 q.2.2.1.cons q.2.2.2.1 (by rw [q.2.1];rfl) q.1 (vh (Vg _) (vh (Ph hl) hm)) li nw (hc.imp id λh=>by rw [h,q.1,Ch];exact Int.ofNat_lt.mpr (Df (Lf _)))).imp λE' r=>⟨r.1,?_,r.2.1⟩;have A:=I.z7;have dl:(lv.drop (k+1)).length=lv.length-(k+1):=ac ..;have sn:=q.2.2.2.2.1;rw [dl] at sn;have r5:=r.2.2.2.2;refine r5.2.elim λE0 z=> ?_;have up:∀t o,S.d8 t=some o->E'.d8 t=some o:=λt o h=>z.2.2.up t o (z.1▸h);have kd:((H5 (lv.length-(k+1)) L.told).map (·.1)).Nodup:=A.nt.sublist (xb _ Pb);have tk1:∀t,tk (H5 (lv.length-(k+1)) L.told) t=true↔∃o,S.d8 t=some o:=λt=>T7.trans ⟨λh=>h.elim λp m=>(sn.1 _ (zY.mp m).1 (zY.mp m).2).imp λo w=>w.1,λh=>h.elim λo w=>(sn.2 t o w).elim λp w=>⟨p.2,zY.mpr ⟨by rw [<-w.2.1];exact w.1,w.2.2⟩⟩⟩;have mk:∀t,t∈(H5 (lv.length-(k+1)) L.told).map (·.1)↔tk (H5 (lv.length-(k+1)) L.told) t=true:=λt=>List.mem_map.trans (Iff.trans ⟨λh=>h.elim λp w=>⟨p.2,by rw [<-w.2];exact w.1⟩,λh=>h.elim λp w=>⟨_,w,rfl⟩⟩ T7.symm);have fm:∀t,t∈(L.back (lv.length-(k+1))).fresh↔t∈L.fresh/\∃o,S.d8 t=some o:=λt=>List.mem_filter.trans (xe Sg (decide_eq_true_iff.trans ((mk t).trans (tk1 t))));refine{G0:=λf m=>I.G0 f ?_,z7:={zt:=A.zt,zw:=A.zw,nw:=A.nw,w1:=λw m=>⟨(A.w1 w m).1,(A.w1 w m).2.imp λa q=>q.imp λb q=>⟨q.1,q.2.1,by rw [r5.1];exact q.2.2⟩⟩,w2:=λt a b q=>A.w2 t a b (by rw [<-r5.1];exact q),nt:=kd,td:=λp m=>⟨(A.td p (zY.mp m).1).1,(sn.1 p (zY.mp m).1 (zY.mp m).2).imp λo w=>⟨up _ _ w.1,w.2⟩⟩,nf:=A.nf.filter _,fr:=λt m=>(tk1 t).mpr ((fm t).mp m).2,nn:=r.2.1.nw.1,ns:=λt=> ?_},tl:=λp m=>by rw [dl];exact(zY.mp m).2,B5:= ?_}
 ·have m:=List.mem_flatten.mp m;exact m.elim λl m=>List.mem_flatten.mpr ⟨l,List.mem_reverse.mpr (List.mem_of_mem_drop (List.mem_reverse.mp m.1)),m.2⟩
 ·refine z.2.2.nw.elim λnew w=> ?_;rw [w.1,z.2.1];have t0:∀{t},tk (H5 (lv.length-(k+1)) L.told) t=false↔S.d8 t=none:=λ{t}=>⟨λh=>(Option.eq_none_or_eq_some (S.d8 t)).elim id λe=>by rw [(tk1 t).mpr e] at h;exact((by nomatch h)),λh=>(Ug _).resolve_left λe=>((tk1 t).mp e).elim λo w=>((by nomatch h.symm.trans w))⟩;refine List.mem_append.trans ⟨λh=>h.elim (λh=> .inl ?_) λh=> .inr ⟨((w.2.2 t).mp h).2,t0.mpr (z.1▸((w.2.2 t).mp h).1)⟩,λh=>h.elim (λh=> .inl ?_) λh=> .inr ((w.2.2 t).mpr ⟨z.1▸t0.mp h.2,h.1⟩)⟩
  ·have h:=List.mem_filter.mp h;have s:=Option.isSome_iff_exists.mp h.2;refine(fm t).mpr ⟨((A.ns t).mp h.1).resolve_right λe=> ?_,s⟩;refine(T7.mp ((tk1 t).mpr s)).elim λp m=> ?_;have:=T7.mpr ⟨p,(zY.mp m).1⟩;rw [e.2] at this;exact(by nomatch this)
  ·have h:=(fm t).mp h;exact List.mem_filter.mpr ⟨(A.ns t).mpr (.inl h.1),Option.isSome_iff_exists.mpr h.2⟩
 ·rw [r.2.2.2.1];refine(q.2.2.2.2.2.ext r.2.2.1).eq λp h=> ?_;rw [dl] at h;exact⟨λm=>zY.mpr ⟨m,Ge h⟩,λm=>(zY.mp m).1⟩
def eL(lv:xh (xh (Kh×u9)))(E:G9)(L:Lw):Prop:=Bas lv E L/\(∃fs ps es Q,LI fs ps E.toCor E.trail.length es Q)/\NW E/\(j3 (F4 lv) E\/∃l,E.clash=some l/\E.g0=E.marks.length/\r4 (f8 (F4 lv)) (R8 (F4 lv)) l)
theorem Bas.cg(I:Bas lv E L){c:xh Dh}{s:Mh}{i:xh Mh}{f:Mh->Ah (xh Jh)}:Bas lv E {L with cells:=c,spot:=s,ids:=i,lv:=f}:={G0:=I.G0,z7:={zt:=I.z7.zt,zw:=I.z7.zw,nw:=I.z7.nw,w1:=I.z7.w1,w2:=I.z7.w2,nt:=I.z7.nt,td:=I.z7.td,nf:=I.z7.nf,fr:=I.z7.fr,nn:=I.z7.nn,ns:=I.z7.ns},tl:=I.tl,B5:=I.B5}
theorem eL.cg(I:eL lv E L){c:xh Dh}{s:Mh}{i:xh Mh}{f:Mh->Ah (xh Jh)}:eL lv E {L with cells:=c,spot:=s,ids:=i,lv:=f}:=⟨I.1.cg,I.2⟩
theorem S9.cg(I:S9 lv E L){c:xh Dh}{s:Mh}{i:xh Mh}{f:Mh->Ah (xh Jh)}:S9 lv E {L with cells:=c,spot:=s,ids:=i,lv:=f}:={toBas:=I.toBas.cg,vT:=I.vT,good:=I.good}
theorem S9.Pw(I:S9 lv E L):eL lv E L:=⟨I.toBas,I.good.li.elim λes q=>⟨_,_,es,_,q⟩,I.good.nw,.inl I.good⟩
theorem S9.fact(I:S9 (top::lv) E L)(hl:(top::lv).length<=1000)(ha:a∈TT)(hb:b∈TT)(hm:m∈[(-7:Dh),-5,-3,2,4,6])(hp:(R8 (F4 (top::lv))).length<20):
  ∃E',Me 8 (cond c 26 14) .st [iv a,iv b,iv m] E (.a9 .none) E'/\eL ((top++[(c,(a,b,m))])::lv) E' L:=by
 have Ri:∀{E'},Dd (f8 (F4 ((top++[(c,(a,b,m))])::lv))) (R8 (F4 ((top++[(c,(a,b,m))])::lv))) E E'->eL ((top++[(c,(a,b,m))])::lv) E' L:=λ{E'} d=>by
  refine⟨{G0:=λf q=>(i8 (y2▸q)).elim (I.G0 f) λz=>z▸⟨⟨ha,hb⟩,hm⟩,z7:=I.z7.Iq d.1.nw d.2.2.2.1.1 (λw z'=>by rw [d.2.1]) (λt a b q=>by rw [<-d.2.1];exact q),tl:=I.tl,B5:= ?_},?_,d.2.2.2.1,d.2.2.2.2.imp id λq=>q.imp λl q=>⟨q.1,by rw [d.1.z4];exact q.2.1,q.2.2⟩⟩
  ·rw [d.1.z4];exact(I.B5.ext d.1.e6).tp
  ·exact d.2.2.1.elim λps' q=>q.elim λes q=>q.elim λQ q=>⟨_,_,es,Q,q⟩
 have C:=I.good.cons;have M:=I.toBas.KG hl;cases c with
 |false=>
  refine(BO I.good C ha hb M).imp λE' r=>⟨r.1,Ri ?_⟩;rw [y2,FY,KY];exact r.2
 |true=>
  refine(ZW I.good C ha hb M hp).imp λE' r=>⟨r.1,Ri ?_⟩;rw [y2,FY,KY];exact r.2
theorem S9.watch(I:S9 lv E L)(hl:lv.length<=1000)(h0:E.P9 t=none)(ht:t∈UW)(ha:a∈TT)(hb:b∈TT):
  ∃Ea Eb E',Me 7 10 .st [iv a] E (.a9 .none) Ea/\Me 7 10 .st [iv b] Ea (.a9 .none) Eb/\Me 4 32 .st [iv t,iv a,iv b] Eb (.a9 .none) E'/\eL lv E' {L with C9:=L.C9++[(t,(xi a,xi b))]}:=by
 refine(gP I.good I.good.cons h0 ht ha hb (I.toBas.KG hl)).imp λEa r=>r.imp λEb r=>r.imp λE' r=>⟨r.1,r.2.1,r.2.2.1,?_⟩;have r:=r.2.2.2;have A:=I.z7.Iq (E':={E' with P9:=E.P9}) ⟨r.2.1.nw.up,r.2.1.nw.nw⟩ r.1.nw.1 (λz' z'=>rfl) (λz' z' z'=>id);have no:∀w∈L.C9,w.1≠t:=λw m e=>(I.z7.w1 w m).2.elim λa q=>q.elim λb q=>nomatch (e▸q.2.2).symm.trans h0;refine⟨{G0:=I.G0,z7:={zt:=A.zt,zw:=A.zw,nw:= ?_,w1:=λw m=> ?_,w2:=λz u v q=> ?_,nt:=A.nt,td:=A.td,nf:=A.nf,fr:=A.fr,nn:=A.nn,ns:=A.ns},tl:=I.tl,B5:= ?_},r.1.li.elim λes q=>⟨_,_,es,_,q⟩,r.1.nw,.inl r.1⟩
 ·rw [bg];exact b7 I.z7.nw λm=>(List.mem_map.mp m).elim λw q=>no w q.1 q.2
 ·refine(i8 m).elim (λm=>⟨(A.w1 w m).1,(A.w1 w m).2.imp λa q=>q.imp λb q=>⟨q.1,q.2.1,?_⟩⟩) λe=>⟨e▸ht,a,b,⟨ha,hb⟩,e▸rfl,?_⟩
  ·rw [r.2.2,e9 (no w m)];exact q.2.2
  ·rw [r.2.2,e];exact i9
 ·rw [r.2.2] at q;refine(I8 q).elim (λq=> ?_) λq=>Zh _ (A.w2 z u v q);have e:=sf q.2;rw [q.1,e.1,e.2];exact fg _ (.head _)
 ·rw [r.2.1.z4];exact I.B5.ext r.2.1.e6
theorem OJ{o:Ah (Ah o8)}:tz o≠0↔∃p,o=some p:=by
 cases o with
 |none=>exact⟨λh=>(h rfl).elim,λh=>h.elim λz' e=>(by nomatch e)⟩
 |some p=>cases p<;>exact⟨λz'=>⟨_,rfl⟩,λz' e=>(by nomatch e)⟩
theorem Bas.AG(I:Bas lv E L)(G:j3 (F4 lv) E)(hi:L.ids.length=lv.length):S9 lv E (L.nt (dZ E) (W3 (dZ E) L.told (L.C9.map (·.1)))):=by
 have A:=I.z7;have nm:∀t,t∈W3 (dZ E) L.told (L.C9.map (·.1))↔(∃o,E.d8 t=some o)/\tk L.told t=false:=λt=>by
  unfold W3;rw [Ua,gg];refine⟨λq=>⟨OJ.mp λe=> ?_,(Ug _).resolve_left λe=> ?_⟩,λq=>⟨q.1.elim λo h=>G.li.elim λes W=>(W.tk t o h).elim λa s=>s.elim λb s=>List.mem_map.mpr ⟨_,A.w2 t a b s.1,rfl⟩,?_,by rw [q.2];rfl⟩⟩
  ·have:=q.2.1;rw [show dZ E t=0 from e] at this;exact(by nomatch this)
  ·have:=q.2.2;rw [e] at this;exact(by nomatch this)
  ·rw [Xh (show dZ E t≠0 from OJ.mpr q.1)];rfl
 have nA:(W3 (dZ E) L.told (L.C9.map (·.1))).Nodup:=A.nw.filter _;generalize W3 (dZ E) L.told (L.C9.map (·.1))=B at nm nA⊢;have tkn:∀t,tk (L.nt (dZ E) B).told t=true↔tk L.told t=true\/t∈B:=λt=>by
  refine T7.trans (Iff.trans ?_ (Yb T7.symm Sg));refine⟨λq=>q.elim λp m=>(List.mem_append.mp m).imp (λm=>⟨p,m⟩) λm=>(List.mem_map.mp m).elim λu r=>(show u=t from(sf r.2).1)▸r.1,λq=>q.elim (λq=>q.imp λp m=>Zh _ m) λm=>⟨_,fg _ (List.mem_map.mpr ⟨t,m,rfl⟩)⟩⟩
 have nk:∀t∈B,tk L.told t=true->False:=λt m e=>by rw [((nm t).mp m).2] at e;exact(by nomatch e)
 have vT:aw E (L.nt (dZ E) B):=λt o h=>(tkn t).mpr ((Ug (tk L.told t)).imp id λe=>(nm t).mpr ⟨⟨o,h⟩,e⟩);refine{G0:=I.G0,z7:={zt:=A.zt,zw:=A.zw,nw:=A.nw,w1:=A.w1,w2:=A.w2,nt:= ?_,td:=λp m=> ?_,nf:= ?_,fr:=λt m=>(tkn t).mpr ((List.mem_append.mp m).imp (A.fr t) id),nn:=A.nn,ns:=λt=> ?_},tl:=λp m=> ?_,B5:=I.B5.eq λp h=> ?_,vT:=vT,good:=G}
 ·show((L.told++B.map _).map _).Nodup;rw [bg,jg];refine List.nodup_append.mpr ⟨A.nt,?_,λx hx y hy e=> ?_⟩
  ·rw [show((λx:Dh×(Dh×Dh)=>x.1)∘λt=>(t,(dZ E t,(L.ids.length))))=id from rfl,Ma];exact nA
  ·rw [show((λx:Dh×(Dh×Dh)=>x.1)∘λt=>(t,(dZ E t,(L.ids.length:Dh))))=id from rfl,Ma] at hy;exact nk y hy (T7.mpr ((List.mem_map.mp hx).elim λp q=>⟨p.2,by rw [<-e,<-q.2];exact q.1⟩))
 ·refine(List.mem_append.mp m).elim (A.td p) λm=>(List.mem_map.mp m).elim λu r=> ?_;refine((nm u).mp r.1).1.elim λo h=>G.li.elim λes W=>(W.tk u o h).elim λa s=>s.elim λb s=>⟨r.2▸(W.sk u a b s.1).1,o,r.2▸h,r.2▸ ?_⟩;show tv o=tz (E.d8 u);rw [h];rfl
 ·exact List.nodup_append.mpr ⟨A.nf,nA,λx hx y hy e=>nk y hy (e▸A.fr x hx)⟩
 ·refine(A.ns t).trans (Iff.trans (Yb Sg (nm t).symm) (List.mem_append.symm.trans (Xb λq=>q.1.elim λo h=> ?_).symm));have:=vT t o h;rw [q.2] at this;exact(by nomatch this)
 ·exact(List.mem_append.mp m).elim (I.tl p) λm=>(List.mem_map.mp m).elim λu r=>by rw [<-r.2];exact Int.le_of_eq (yh Nat.cast hi)
 ·refine⟨λm=>Zh _ m,λm=>(List.mem_append.mp m).elim id λm=>(List.mem_map.mp m).elim λu r=> ?_⟩;rw [<-r.2] at h;exact(Int.lt_irrefl _ (hi▸h)).elim
theorem S9.ask(I:S9 lv E L):S9 lv {E with news:=[]} {L with fresh:=[]}:={G0:=I.G0,z7:=I.z7.ask I.vT,tl:=I.tl,B5:=I.B5.ext (h5.refl.to rfl rfl),vT:=I.vT,good:=I.good.ask}
theorem wK{c:xh Dh}{s:Mh}{i:xh Mh}{f:Mh->Ah (xh Jh)}{r:xh Dh}:S9 [[]] G9.nul ⟨c,s,i,f,r,[],[],[],false,false⟩:=by
 have no:∀{t},¬Kn (λz':Dh=>(none)) t:=λh=>h.elim λz' h=>(by nomatch h);have of:∀{α:Type} {p:Dh->α->Prop},Of (λz'=>none) (λz'=>none) p:=⟨λz' z'=>rfl,λz' h=>(by nomatch h)⟩;have W:LI [] [] G9.nul.toCor 0 [] []:={kn:=λz' z' h=>((by nomatch h)),sub:=λz' z' h=>(no h).elim,mem:=of,use:=of,Z9:=of,C9:=of,bd:=λz' z' z' z' h=>((by nomatch h)),val:=of,tb:=λz' z' h=>((by nomatch h)),P:=⟨⟨λz' z' z' h=>((by nomatch h)),λz' z' z' h=>((by nomatch h)),λt=>⟨[],t,.nil t,rfl⟩⟩,⟨λz' z' z' h=>((by nomatch h))⟩,λp e q h=>(List.append_ne_nil_of_right_ne_nil p (List.cons_ne_nil e q) h.symm).elim⟩,c1:=λa z' h=>(no (t:=a) (h.imp λz' h=>h.1)).elim,c2:=λz' h=>((by nomatch h)),tc:=λz' z' z' h=>(no h).elim,fx:=λz' h=>((by nomatch h)),qj:=λz' h=>((by nomatch h)),pk:=λz' h=>((by nomatch h)),sk:=λz' z' z' h=>((by nomatch h)),tk:=λz' z' h=>((by nomatch h)),pl:=ng _,XJ:=by decide};have G:j3 (F4 [[]]) G9.nul:=⟨⟨[],W⟩,λf z' h=>(no (t:=f.1) (h.imp λz' h=>h.1)).elim,λz' z' z' h=>((by nomatch h)),rfl,rfl,Ig,λz' h=>((by nomatch h))⟩;exact{G0:=λz' h=>((by nomatch h)),z7:={zt:=rfl,zw:=rfl,nw:=Ig,w1:=λz' h=>((by nomatch h)),w2:=λz' z' z' h=>((by nomatch h)),nt:=Ig,td:=λz' h=>((by nomatch h)),nf:=Ig,fr:=λz' h=>((by nomatch h)),nn:=Ig,ns:=λt=>⟨λh=>((by nomatch h)),λh=>h.elim (λh=>(by nomatch h)) λh=>h.1.elim λz' h=>(by nomatch h)⟩},tl:=λz' h=>((by nomatch h)),B5:= .inl ⟨rfl,rfl⟩,vT:=λz' z' h=>((by nomatch h)),good:=G}
end
section
variable{P:w8}{m i N k:Mh}{g:q9}{K:O8}{E:G9}{L L':Lw}{u w x t d:Dh}{c:Kh}{cs:xh Dh}{ids:xh Mh}{lv:xh (xh (Kh×u9))}{top:xh (Kh×u9)}{ds:xh Jh}{qs:xh (Dh×Dh)}{q:Dh×Dh}{W:xh (Dh×(Dh×Dh))}
def Z0(f:Mh->Ah (xh Jh)):xh (xh (Kh×u9))->Prop
 |[]=>True
 |top::lv=>f lv.length=some (top.map q6)/\Z0 f lv
variable{f:Mh->Ah (xh Jh)}
theorem Z0.drop(h:Z0 f lv):∀k,Z0 f (lv.drop k):=by
 induction lv with
 |nil=>exactλk=>by refine rL List.drop_nil ?_;exact h
 |cons f _ i=>exactλk=>Nat.casesOn k h λk=>i h.2 k
def Lw.at(L:Lw)(i:Mh)(d:xh Jh):Lw:={L with lv:=λj=>if j=i then some d else L.lv j}
theorem Z0.at(h:Z0 L.lv lv)(q:lv.length<=i):Z0 (L.at i ds).lv lv:=by
 induction lv with
 |nil=>exact h
 |cons f _ e=>exact⟨(Fh (Uf (Nat.lt_of_succ_le q))).trans h.1,e h.2 (cf q)⟩
theorem IV:∀k,(F4 (lv.drop k)).length<=(F4 lv).length:=by
 induction lv with
 |nil=>exactλk=>by refine rL List.drop_nil ?_;exact Oh _
 |cons f _ i=>exactλk=>Nat.casesOn k (Oh _) λk=>vh (i k) (rL p6 (rL Ch (Qh _ _)))
theorem EQ{l e:xh Mh}:L.facts (l++e)=L.facts l++L.facts e:=by
 induction l with
 |nil=>rfl
 |cons i l h=>exact(yh _ h).trans (ag ..).symm
theorem Z0.facts(h:Z0 L.lv lv):L.facts (ug lv.length)=(F4 lv).map q6:=by
 induction lv with
 |nil=>rfl
 |cons f _ i=>
  exact rL p6 (rL bg (rR (i h.2) (rL Ze (rL List.range_succ (rL EQ (yh _ ((Th _).trans (yh (Option.getD · []) h.1))))))))
theorem Z0.ok(h:Z0 L.lv lv):L.ok (ug lv.length):=by
 induction lv with
 |nil=>exactλz' m=>(by nomatch m)
 |cons f _ j=>exactλi m=>(Nat.lt_or_eq_of_le (Yf (List.mem_range.mp m))).elim (λq=>j h.2 i (List.mem_range.mpr q)) λe=>⟨_,e▸h.1⟩
theorem YN{vs:xh AV}(e:vs=ds.map .a9):up (hl P g K E L) (.lvl i) (.list true vs)=hl P g K E (L.at i ds):=by
 refine e▸B9 (λτ h=> ?_) (yh (λd:Ah _=>d.bind _) (Lh rfl));cases τ with
 |lvl j=>exact yh (λd:Ah _=>d.bind _) (Fh λq=>h (yh _ q)).symm
 |ls k t=>cases k<;>rfl
 |w7 k=>cases k<;>rfl
 |_=>rfl
theorem dE{l:xh (Dh×AV)}(z:L.zw=false)(e:l=W4 W):up (hl P g K E L) .lwat (.M9 true l)=hl P g K E {L with C9:=W}:=(ON (c:=false) e).trans (yh _ (by cases L;cases z;rfl))
structure LS(m:Mh)(L:Lw)(lv:xh (xh (Kh×u9))):Prop where
 ids:L.ids=ug lv.length
 YQ:Z0 L.lv lv
 ht:L.terms=TL
 ce:L.cells.length<=48
 sp:L.spot<=5*m+1
 ln:lv.length<=m+1
 fl:(F4 lv).length<=m
theorem LS.iy(s:LS m L lv)(hm:m<=100):g5 L (F4 lv):=⟨by refine rL s.ids ?_;exact⟨s.YQ.ok,s.YQ.facts⟩,vh s.fl (vh hm (by decide))⟩
theorem uK(hw:0<w):0<=i7 cs i w/\i7 cs i w<w:=by
 unfold i7;cases cs[i]? with
 |none=>exact⟨Int.emod_nonneg _ (vd (Ud hw)),Int.emod_lt_of_pos _ hw⟩
 |some x=>exact⟨Int.emod_nonneg _ (vd (Ud hw)),Int.emod_lt_of_pos _ hw⟩
theorem B4(hw:0<N):∃k,k<N/\i7 cs i N=k:=by
 haveI q:=uK (cs:=cs) (i:=i) (Int.natCast_pos.mpr hw);exact⟨(i7 _ i N).toNat,(Int.toNat_lt q.1).mpr q.2,(wc q.1).symm⟩
def Lw.nx(L:Lw):Lw:={L with spot:=L.spot+1}
theorem IZ{wide:Dh}(hw:0<wide)(hs:L.spot<=1000)(h:L.cells.length<=1000)(e:i7 L.cells L.spot wide=x):e7 P 1 .st 72 [.g9 .feed,iv wide] (hl P g K E L) (iv x) (hl P g K E L.nx):=e▸Il hw hs h
def yx(u:Dh):Dh:=cond (decide (u<9)) (u+3) (u-8)
theorem dP:∀k<11,yx (k:Mh)∈TT/\xi (yx k)=k/\TL[k]? =some (yx k):=by decide
def MN:xh (Dh×Dh):=[(0,1),(1,2),(0,2),(3,4),(0,3),(3,5),(2,5),(6,7),(7,8),(6,9),(7,9),(8,9)]
theorem ZB{c:IC}{Q:AV->Prop}(h:MN[k]? =some q)(e:k<12)(r:Q (.a9 (qY q))):Zi c (.a9 CO) (iv k) Q:=by
 unfold CO;refine L8 ((gg _ _).mpr ⟨Rh (Af _),Rh (Int.ofNat_le.mpr (vh (lf e) (by decide)))⟩) (k9 (x:=(MN.map qY)[(Int.toNat _)]?) ?_ r);rw [Int.toNat_natCast,kg,h];rfl
def MQ:xh (Dh×Dh):=[(3,4),(4,5),(3,5),(6,7),(3,6),(6,8),(5,8),(9,10),(10,11)]
theorem UB:∀k<12,(∃q∈MQ,MN[k]? =some (xi q.1,xi q.2))\/∃t∈[(9),10,11],MN[k]? =some (xi t,9):=by decide
theorem fT:∀q∈MQ,(((q.1∈TT/\q.2∈TT)/\q.1<q.2)/\(xi q.1≠9/\xi q.2≠9))/\((q.1=q.1.toNat/\q.1.toNat<60)/\(q.2=q.2.toNat/\q.2.toNat<60))/\(0<=xi q.1/\TL[(xi q.1).toNat]? =some q.1)/\(0<=xi q.2/\TL[(xi q.2).toNat]? =some q.2):=by decide
theorem NZ(h:0<=u/\TL[u.toNat]? =some t):H8 u (zs TL)=some (.int t):=by
 unfold H8 zs;refine rL (Lh h.1) ?_;rw [kg,h.2];rfl
theorem Kr{i j:Mh}(h:i<60)(h':j<60):[(i:Dh),j]∈kY:=ve _ (fg _ (List.mem_flatMap.mpr ⟨i,List.mem_map.mpr ⟨i,List.mem_range.mpr h,rfl⟩,List.mem_map.mpr ⟨j,List.mem_map.mpr ⟨j,List.mem_range.mpr h',rfl⟩,rfl⟩⟩))
theorem HG(m:q∈MQ):[q.1,q.2]∈kY:=by
 haveI w:=(fT q m).2.1;refine rL w.1.1 (rL w.2.1 ?_);exact Kr w.1.2 w.2.2
def WQ(qs:xh (Dh×Dh))(w:Dh×(Dh×Dh)):Prop:=(w.1∈[(9:Dh),10,11]/\w.2=(xi w.1,9))\/∃i q,qs[i]? =some q/\w.1=((12+i:Mh):Dh)/\w.2=(xi q.1,xi q.2)
structure eX(qs:xh (Dh×Dh))(K:O8)(L:Lw):Prop where
 eb:EB qs K
 nd:qs.Nodup
 mq:∀q∈qs,q∈MQ
 wq:∀w∈L.C9,WQ qs w
theorem eX.len(B:eX qs K L):qs.length<=9:=S8 B.nd B.mq
theorem eX.cg(B:eX qs K L)(e:L'.C9=L.C9):eX qs K L':=⟨B.eb,B.nd,B.mq,e.symm▸B.wq⟩
theorem NJ:∀i<9,((12+i:Mh):Dh)∈UW/\((12+i:Mh):Dh)∉[(9),10,11]:=by decide
theorem aC:∀t∈[(9),10,11],t∈UW/\t∈TT/\(∃x,Ap t x)/\((0<=xi t/\TL[(xi t).toNat]? =some t)):=by
 exactλt m=>⟨(by decide:∀t∈[(9),10,11],t∈UW) t m,(by decide:∀t∈[(9),10,11],t∈TT) t m,(((by decide:∀t∈[(9),10,11],∃p∈t8,p.1=t) t m).elim λp q=>⟨p.2,by refine rR q.2 ?_;exact q.1⟩),(by decide:∀t∈[(9),10,11],(0<=xi t/\TL[(xi t).toNat]? =some t)) t m⟩
variable{K':O8}{E':G9}{v mk:Dh}{kk:KB}
abbrev ρ8(m d:Dh):xh (Mh×AV):=[(0,.g9 .feed),(1,.g9 .state),(2,.g9 .house),(3,.g9 .bank),(4,iv m),(6,iv d),(5,.a9 (.list (zs TL)))]
def rK:M:=jY (jU (Y2 J7 J8)) (jS J1 (Ys "watched")) J9 (jX (jM J2 31 (Y1 J9)) jN)
theorem iP(z:L.zw=false)(h:L.C9.length<=1000)(e:R6 (W4 L.C9) t (.a9 (qY (u,v)))=W4 W)(F:e7 P 8 .st 31 [.g9 .house,iv t] (hl P g K E {L with C9:=W}) (.a9 .none) (hl P g K E' {L with C9:=W}))(f:∀ρ',kk .next ⟨ρ',[],hl P g K E' {L with C9:=W}⟩):
  (A9 P 8 rK).b (.s2,[]) ⟨ρ8 mk d++[(7,iv u),(8,iv v),(9,iv t)],[],hl P g K E L⟩ kk:=by
 exact L8 (yh (!·) z) ⟨b9 (vh h (by decide)),j9 (dE z e) (V8 F rt (f _))⟩
def qK:M:=jT 9 (.ite (jE .eq J8 (Yi 9)) (jS J5 J7) (jM J3 62 (Y4 (Ys "=") (jU (Y2 (jB .min (Y2 (jS J5 J7) (jS J5 J8))) (jB .max (Y2 (jS J5 J7) (jS J5 J8))))) (jJ 2) (Yi 0)))) rK
def PG:M:= .g6 [7,8] (jS (jJ 4) (jF 72 (Y2 J0 (Yi 12)))) qK
theorem lP(hs:L.spot<=1000)(e:L.cells.length<=1000)(f:i7 L.cells L.spot 12=k)(j:k<12)(h:MN[k]? =some q)
  (r:(A9 P 8 qK).b (.s2,[]) ⟨ρ8 mk d++[(7,iv q.1),(8,iv q.2)],[],hl P g K E L.nx⟩ kk):(A9 P 8 PG).b (.s2,[]) ⟨ρ8 mk d,[],hl P g K E L⟩ kk:=by
 exact p8 (IZ (by decide) hs e f) rt rt (ZB h j r)
theorem Op(m:t∈[(9),10,11])(r:(A9 P 8 rK).b (.s2,[]) ⟨ρ8 mk d++[(7,iv (xi t)),(8,iv 9),(9,iv t)],[],hl P g K E L⟩ kk):
  (A9 P 8 qK).b (.s2,[]) ⟨ρ8 mk d++[(7,iv (xi t)),(8,iv 9)],[],hl P g K E L⟩ kk:=by
 exact k9 (NZ (aC t m).2.2.2) ⟨by decide,r⟩
theorem Pp(m:q∈MQ)(F:e7 P 1 .all 62 [.g9 .bank,.a9 (.str (S "=")),.a9 (.tuple (zs [q.1,q.2])),iv 0,.a9 (.int 0)] (hl P g K E L) (iv t) (hl P g K' E L))(r:(A9 P 8 rK).b (.s2,[]) ⟨ρ8 mk d++[(7,iv (xi q.1)),(8,iv (xi q.2)),(9,iv t)],[],hl P g K' E L⟩ kk):
  (A9 P 8 qK).b (.s2,[]) ⟨ρ8 mk d++[(7,iv (xi q.1)),(8,iv (xi q.2))],[],hl P g K E L⟩ kk:=by
 haveI w:=fT q m;have f:∀{Q:Jh->Prop},Q _->rd _ λd=>(zs TL).length<=1000000/\Q d:=λh=>k9 (NZ w.2.2.1) ⟨by decide,h⟩;have e:∀{Q:Jh->Prop},Q _->rd _ λd=>(zs TL).length<=1000000/\Q d:=λh=>k9 (NZ w.2.2.2) ⟨by decide,h⟩;refine v9 (E8 w.1.2.2) (f (e ?_));refine f (e ?_);haveI e1:(if q.2<q.1 then q.2 else q.1)=q.1:=Fh (gb w.1.1.2);haveI j:(if q.1<q.2 then q.2 else q.1)=q.2:=Lh w.1.1.2;haveI l:e7 P 1 .all 62 [.g9 .bank,.a9 (.str (S "=")),.a9 (.tuple [.int (if q.2<q.1 then q.2 else q.1),.int (if q.1<q.2 then q.2 else q.1)]),iv 0,.a9 (.int 0)] (hl P g K E L) (iv t) (hl P g K' E L):=by refine rL e1 (rL j ?_);exact F
 exact p8 l rt rt r
variable{n:Mh}{Ea Eb:G9}{a b:Dh}
theorem mP(I:S9 lv E L)(hl':lv.length<=1000)(ht:t∈UW)(ha:a∈TT)(hb:b∈TT)(hw:∀w∈L.C9,w.1=t->w.2=(xi a,xi b)):
  ∃E' W,eL lv E' {L with C9:=W}/\(∀w∈W,w∈L.C9\/w=(t,(xi a,xi b)))/\R6 (W4 L.C9) t (.a9 (qY (xi a,xi b)))=W4 W/\((E.P9 t).isSome=true/\E'=E\/E.P9 t=none/\∃Ea Eb,Me 7 10 .st [iv a] E (.a9 .none) Ea/\Me 7 10 .st [iv b] Ea (.a9 .none) Eb/\Me 4 32 .st [iv t,iv a,iv b] Eb (.a9 .none) E'):=by
 cases h0:E.P9 t with
 |none=>
  refine(I.watch hl' h0 ht ha hb).elim λEa r=>r.elim λEb r=>r.elim λE' r=>⟨E',_,r.2.2.2,λw m=>i8 m,iT λp m=> ?_,.inr ⟨rfl,Ea,Eb,r.1,r.2.1,r.2.2.1⟩⟩;exact(I.z7.w1 _ m).2.elim λa q=>q.elim λb q=>(by nomatch q.2.2.symm.trans h0)
 |some p=>
  have m:=I.z7.w2 t p.1 p.2 h0;have e:=hw _ m rfl;exact⟨E,L.C9,I.Pw,λw m=> .inl m,UG I.z7.nw (e▸m),.inl ⟨rfl,rfl⟩⟩
theorem wJ(I:S9 lv E L)(B:eX qs K L)(hs:L.spot<=1000)(S:L.cells.length<=1000)(C:lv.length<=1000):∃E' W l K',eL lv E' {L.nx with C9:=W}/\eX l K' {L.nx with C9:=W}/\∀{P} {g:q9} {V d} {kk:KB},(∀κ t,g.z κ t=false)->(∀ρ',kk .next ⟨ρ',[],hl P g K' E' {L.nx with C9:=W}⟩)->
  (A9 P 8 PG).b (.s2,[]) ⟨ρ8 V d,[],hl P g K E L⟩ kk:=by
 haveI R:L.C9.length<=1000:=vh I.z7.len.1 (by decide);refine(B4 (cs:=L.cells) (i:=L.spot) (by decide)).elim λk F=>(UB k F.1).elim (λr=>r.elim λq r=> ?_) λr=>r.elim λt r=> ?_
 ·have w:=fT q r.1;refine(VK B.eb (eg B.len (by decide)) (HG r.1)).elim λi z=>z.elim λl z=>z.elim λK' z=> ?_;have D:=λp m=>(z.2.2.2.1 p m).elim (B.mq p) λe=>e▸r.1;haveI n:=z.2.2.2.2.1 B.nd;have U:∀{j p},l[j]? =some p->j<9:=λh=>dg (List.getElem?_eq_some_iff.mp h).1 (S8 n D);have O:=NJ i (U z.2.1);refine(mP I C O.1 w.1.1.1.1 w.1.1.1.2 λp m e=> ?_).elim λE' y=>y.elim λW y=> ?_
  ·refine(B.wq p m).elim (λh=>(O.2 (e▸h.1)).elim) λh=>h.elim λj h=>h.elim λp' h=> ?_;haveI Y:=Bh ((z.2.2.1 j _ h.1).symm.trans ((ae (Int.ofNat.inj (h.2.1.symm.trans e)))▸z.2.1));exact rL h.2.2 (rL Y rfl)
  refine⟨E',W,l,K',y.1.cg,⟨z.1,n,D,λp m=>(y.2.1 p m).elim (λm=>(B.wq p m).imp id λh=>h.imp λj h=>h.imp λp' h=>⟨z.2.2.1 j _ h.1,h.2⟩) λe=> .inr ⟨i,q,z.2.1,e▸rfl,e▸rfl⟩⟩,λ{P g _ d _} hz J=> ?_⟩;refine lP hs S F.2 F.1 r.2 (Pp r.1 (z.2.2.2.2.2 P {g with r:=kU _} E) (iP I.z7.zw R y.2.2.1 ?_ J));exact y.2.2.2.elim (λh=>(h.2▸JA h.1 P {g with r:=kU {L.nx with C9:=W}} K' z.1.bk λκ t z'=>hz κ t)) λh=>h.2.elim λX h'=>h'.elim λZ h'=>(ju (as:=[]) (z.1.n1 i q z.2.1).2 h.1 h'.1 h'.2.1 h'.2.2 z.1.bk λκ t z'=>hz κ t)
 ·have w:=aC t r.1;refine(mP I C w.1 w.2.1 lD.1 λp m e=> ?_).elim λE' y=>y.elim λW y=> ?_
  ·refine(B.wq p m).elim (λh=>e▸h.2) λh=>h.elim λj h=>h.elim λp' h=> ?_;exact((λm h=>(NJ _ h).2 m) (h.2.1▸e.symm▸r.1) (dg (List.getElem?_eq_some_iff.mp h.1).1 B.len)).elim
  refine⟨E',W,qs,K,y.1.cg,⟨B.eb,B.nd,B.mq,λp m=>(y.2.1 p m).elim (B.wq p) λe=> .inl ⟨e▸r.1,e▸rfl⟩⟩,λ{P g _ d _} hz J=> ?_⟩;refine lP hs S F.2 F.1 r.2 (Op r.1 (iP I.z7.zw R y.2.2.1 ?_ J));exact y.2.2.2.elim (λh=>(h.2▸JA h.1 P {g with r:=kU {L.nx with C9:=W}} K B.eb.bk λκ t z'=>hz κ t)) λh=>h.2.elim λX h'=>h'.elim λZ h'=>w.2.2.1.elim λx hx=>(iu hx h.1 h'.1 h'.2.1 h'.2.2 P {g with r:=kU {L.nx with C9:=W}} K B.eb.bk λκ t z'=>hz κ t)
variable{g':q9}{o:d9}
def cA(i:Mh):M:=jX (jL (jS J1 (Ys "levels")) .append (Y1 (jW (.lvl i) (jP jN)))) (jX (jM J2 37 jN) jN)
theorem JE(h:L.ids=ug i)(l:E.marks.length<=1000000)(s:E.trail.length<=1000000)(y:i<=1000000)(hB:BK K)(B:∀ρ',kk .next ⟨ρ',[],hl P g K {E with marks:=E.marks++[(E.trail.length:Dh)]} {L.at i [] with ids:=ug (i+1)}⟩):
  (A9 P 8 (cA i)).b (.s2,[]) ⟨ρ8 mk d,[],hl P g K E L⟩ kk:=by
 refine⟨x6,(λo e=> ?_),?_⟩
 ·cases e
  exactλv m=>(List.mem_map.mp m).elim λj q=>q.2▸λz=>Nat.lt_irrefl i (eg (Ph (yh (λτ=>match τ with| .lvl j=>j|_=>0) z).symm) (List.mem_range.mp (h▸q.1)))
 refine j9 (YN (ds:=[]) rfl) (⟨?_,j9 (OV (ids:=ug (i+1)) ?_) ?_⟩)
 ·rw [Eh];show L.ids.length<=_;refine rL h (rL Qg ?_);exact y
 ·show L.ids.map _++_=_;refine rL h (rL List.range_succ (rL bg ?_));rfl
 exact p8 (Pl l s P {g with r:=kU {L.at i [] with ids:=ug _}} K hB λz' z' z=>(by nomatch z)) rt rt (B _)
def eA:M:=jX (jF 82 (Y3 J1 J2 (jO .add (Yi 1) (jF 72 (Y2 J0 (jO .sub (jB .len (Y1 (jS J1 (Ys "levels")))) (Yi 1))))))) jN
theorem PE(hs:L.spot<=1000)(y:L.cells.length<=1000)(j:L.ids=ug N)(s:N<=1000)(r:i7 L.cells L.spot (N-1)=k)(h:k+1<N)
  (F:e7 P 8 .s2 82 [.g9 .state,.g9 .house,iv (k+1:Mh)] (hl P g K E L.nx) (.a9 .none) (hl P g' K E' L')) (p:∀ρ',kk .next ⟨ρ',[],hl P g' K E' L'⟩):
  (A9 P 8 eA).b (.s2,[]) ⟨ρ8 mk d,[],hl P g K E L⟩ kk:=by
 haveI l:∀{e} {f:Mh->e},(L.ids.map f).length=N:=by rw [j];exactλ{e f}=>(Eh _).trans Qg
 refine⟨l▸vh s (by decide),?_⟩;refine rL l ?_;refine p8 (IZ (Int.sub_pos_of_lt (Int.ofNat_lt.mpr (eg (Vh (ng k)) h))) hs y r) rt rt ?_;haveI e1:(1:Dh)+k=(k+1:Mh):=Int.add_comm ..;rw [<-e1] at F;exact V8 F rt (p _)
def QG:M:=jX (jL (jS (jS J1 (Ys "levels")) (.neg (Yi 1))) .append (Y1 (jU (Y4 (.ite (jE .eq J6 (Yi 2)) (Ys "part") (Ys "tie")) J7 J8 J4)))) (jI (jE .eq J6 (Yi 2)) (jX (jM J2 26 (Y3 (jS J5 J7) (jS J5 J8) J4)) jN) (jX (jM J2 14 (Y3 (jS J5 J7) (jS J5 J8) J4)) jN) jN)
def dA:M:=jT 7 (jF 72 (Y2 J0 (Yi 9))) (jT 8 (.ite (jE .lt J7 (Yi 6)) (jF 72 (Y2 J0 (Yi 6))) (jO .add (Yi 6) (jF 72 (Y2 J0 (.ite (jE .eq J6 (Yi 2)) (Yi 3) (Yi 5)))))) QG)
theorem gS:∀a∈TT,0<=xi a/\TL[(xi a).toNat]? =some a:=by decide
theorem Ir(hs:L.spot<=900)(hc:L.cells.length<=1000):∃a b,(a∈TT/\b∈TT)/\∀{P:w8} {g:q9} {K:O8} {E:G9} {mk:Dh} {kk:KB},(A9 P 8 QG).b (.s2,[]) ⟨ρ8 mk d++[(7,iv (xi a)),(8,iv (xi b))],[],hl P g K E L.nx.nx⟩ kk->(A9 P 8 dA).b (.s2,[]) ⟨ρ8 mk d,[],hl P g K E L⟩ kk:=by
 have hs':L.spot<=1000:=vh hs (by decide);have hs2:L.nx.spot<=1000:=vh (Vh hs) (by decide);refine(B4 (cs:=L.cells) (i:=L.spot) (N:=9) (by decide)).elim λk hk=> ?_;have yk:=dP k (dg hk.1 (by decide));refine⟨yx (k),?_⟩;rw [yk.2.1];by_cases k6:k<6
 ·refine(B4 (cs:=L.cells) (i:=L.spot+1) (N:=6) (by decide)).elim λj hj=> ?_;have yj:=dP j (dg hj.1 (by decide));refine⟨yx (j),⟨yk.1,yj.1⟩,λ{P g K E mk kk} r=> ?_⟩;rw [yj.2.1] at r;refine p8 (IZ (by decide) hs' hc hk.2) rt rt (D9 (Rh (Int.ofNat_lt.mpr k6)) ?_);exact p8 (IZ (by decide) hs2 hc hj.2) rt rt r
 ·have go:∀N:Mh,N<=5->0<N->∃b,b∈TT/\∃j:Mh,i7 L.cells (L.spot+1) N=j/\xi b=6+(j):=λN h h0=>(B4 h0).elim λj hj=>by
   have yj:=dP (6+j) (Nat.add_lt_add_left (dg hj.1 h) 6);exact⟨_,yj.1,j,hj.2,yj.2.1⟩
  have k6':=Xh λz=>k6 (Int.ofNat_lt.mp z);by_cases d2:d=2
  ·refine(go 3 (by decide) (by decide)).imp λb z=>⟨⟨yk.1,z.1⟩,λ{P g K E mk kk} r=>z.2.elim λj z=> ?_⟩;rw [z.2] at r;refine p8 (IZ (by decide) hs' hc hk.2) rt rt (v9 k6' (D9 (N8 d2) ?_));exact p8 (IZ (by decide) hs2 hc z.1) rt rt r
  ·refine(go 5 (by decide) (by decide)).imp λb z=>⟨⟨yk.1,z.1⟩,λ{P g K E mk kk} r=>z.2.elim λj z=> ?_⟩;rw [z.2] at r;refine p8 (IZ (by decide) hs' hc hk.2) rt rt (v9 k6' (v9 (E8 d2) ?_));exact p8 (IZ (L:=L.nx) (by decide) hs2 hc z.1) rt rt r
theorem OE(hB:BK K)(hz:∀κ t,g.z κ t=false)(ha:a∈TT)(hb:b∈TT)(hi:L.ids=ug (i+1))(hi6:i<1000000)(hd:L.lv i=some ds)(h6:ds.length<=1000000)(e:decide (d=2)=c)
  (F:Me 8 (cond c 26 14) .st [iv a,iv b,iv mk] E (.a9 .none) E') (hq:∀ρ',kk .next ⟨ρ',[],hl P g K E' (L.at i (ds++[q6 (c,(a,b,mk))]))⟩):
  (A9 P 8 QG).b (.s2,[]) ⟨ρ8 mk d++[(7,iv (xi a)),(8,iv (xi b))],[],hl P g K E L⟩ kk:=by
 have lr:(((ug (i+1)).map λi=>AV.g9 (.lvl i)).length)=i+1:=(Eh _).trans Qg;refine k9 (a:= .g9 (.lvl i)) ?_ ⟨?_,?_⟩
 ·rw [hi];refine(Fh (by decide)).trans ((Lh rfl).trans ?_);rw [lr,da,kg,Ob (uf i)];rfl
 ·rw [hi,lr];exact hi6
 have el:(L.lv i).bind Mine.Internal.ls=some (.list true (ds.map .a9)):=by rw [hd];rfl
 have st:ds.map AV.a9++[.a9 (q6 (c,(a,b,mk)))]=(ds++[q6 (c,(a,b,mk))]).map .a9:=by rw [bg];rfl
 cases c with
 |true=>
  refine D9 e (k9 el (k9 (x:=(L.lv i).bind Mine.Internal.ls) el ⟨b9 h6,j9 (YN st) (D9 e ?_)⟩));refine k9 (NZ (gS a ha)) ⟨by decide,k9 (NZ (gS b hb)) ⟨by decide,?_⟩⟩;exact V8 (F P {g with r:=kU (L.at i (ds++[q6 (true,(a,b,mk))]))} K hB λκ t z'=>hz κ t) rt (hq _)
 |false=>
  refine v9 e (k9 el (k9 (x:=(L.lv i).bind Mine.Internal.ls) el ⟨b9 h6,j9 (YN st) (v9 e ?_)⟩));refine k9 (NZ (gS a ha)) ⟨by decide,k9 (x:=H8 (xi b) (zs TL)) (NZ (gS b hb)) ⟨by decide,?_⟩⟩;exact V8 (F P {g with r:=kU (L.at i (ds++[q6 (false,(a,b,mk))]))} K hB λκ t z'=>hz κ t) rt (hq _)
variable{b':Tg->Ah d9}
def vv(i:Mh):M:=jI (jE .isin J6 (jU (Y2 (Yi 3) (Yi 4)))) PG (jI (jE .eq J6 (Yi 5)) (cA i) (jI (jD (jE .eq J6 (Yi 6)) (jE .gt (jB .len (Y1 (jS J1 (Ys "levels")))) (Yi 1))) eA (jI (jE .ne J6 (Yi 6)) dA jN jN) jN) jN) jN
theorem O3(i:Mh)(hs:L.spot<=1000)(e:L.cells.length<=1000)(f:L.terms=TL)(h:(A9 P 8 (vv i)).b (.s2,[]) ⟨ρ8 mk (i7 L.cells L.spot 8),[],hl P g K E L.nx⟩ (Ri (.a9 .none) b')):e7 P 9 .s2 84 [.g9 .feed,.g9 .state,.g9 .house,.g9 .bank,iv mk] (hl P g K E L) (.a9 .none) b':=by
 refine enter (lj i) rt rt (p8 (IZ (by decide) hs e rfl) rt rt ?_);refine rL f ?_;exact h
theorem Dl(I:S9 lv E L)(B:eX qs K L)(s:LS m L lv)(hm:m<=10)(Z:mk∈[(-7:Dh),-5,-3,2,4,6]):∃E' L' S O K',(∀P g,(∀κ t,g.z κ t=false)->∃Q,(∀κ t,Q.z κ t=false)/\e7 P 9 .s2 84 [.g9 .feed,.g9 .state,.g9 .house,.g9 .bank,iv mk] (hl P g K E L) (.a9 .none) (hl P Q K' E' L'))/\(LS (m+1) L' S/\L'.spot<=5*(m+1))/\eX O K' L'/\eL S E' L':=by
 have M:L.cells.length<=1000:=vh s.ce (by decide);have hs:=vh s.sp (Vh (Zf 5 hm));have G:L.spot<=1000:=vh hs (by decide);have u:=vh s.ln (Vh hm);have y:lv.length<=1000:=vh u (by decide);haveI J:∀{k},k<=1000->k<=1000000:=λh=>vh h (by decide);have H:∀k,k<=4->L.spot+k<=5*(m+1):=λk h=>vh (Cg s.sp h) (Ph (Nat.succ_add _ _));by_cases x:i7 L.cells L.spot 8∈[(3),4]
 ·refine(wJ (L:=L.nx) I.cg (B.cg rfl) (vh (Vh hs) (by decide)) M y).elim λE' r=>r.elim λW r=>r.elim λO r=>r.elim λK' r=>⟨E',{L.nx.nx with C9:=W},lv,O,K',λP g hz=>⟨g,hz,O3 0 G M s.ht (D9 (m4.trans (Rh x)) (r.2.2 hz λρ'=>E9))⟩,⟨⟨s.ids,s.YQ,s.ht,s.ce,vg (H 2 (by decide)),vg s.ln,vg s.fl⟩,H 2 (by decide)⟩,r.2.1,r.1⟩
 have n:=m4.trans (Xh x);by_cases Y:i7 L.cells L.spot 8=5
 ·refine⟨_,_,[]::lv,qs,K,λP g hz=>⟨g,hz,O3 lv.length G M s.ht (v9 n (D9 (N8 Y) (JE s.ids (J (I.toBas.KG y)) (vh I.good.mX (by decide)) (J y) B.eb.bk λρ'=>E9)))⟩,⟨⟨rfl,⟨Lh rfl,s.YQ.at (Oh _)⟩,s.ht,s.ce,vg (H 1 (by decide)),Vh s.ln,?_⟩,H 1 (by decide)⟩,B.cg rfl,((I.push (i:=[]) (f:=λz'=>none)).cg).Pw⟩;refine rL p6 ?_;rw [Th];exact vg s.fl
 by_cases U:i7 L.cells L.spot 8=6
 ·have F:(L.nx.ids.map λi=>AV.g9 (.lvl i)).length=lv.length:=(Eh _).trans ((yh Hd s.ids).trans Qg);haveI T:=F▸J y;by_cases h1:lv.length<=1
  ·refine⟨E,L.nx,lv,qs,K,λP g hz=>⟨g,hz,O3 0 G M s.ht (v9 n (v9 (E8 Y) (D9 (N8 U) ⟨T,v9 (Xh ?_) (v9 (j6 U) E9)⟩)))⟩,⟨⟨s.ids,s.YQ,s.ht,s.ce,vg (H 1 (by decide)),vg s.ln,vg s.fl⟩,H 1 (by decide)⟩,B.cg rfl,(I.cg).Pw⟩;exact rL F (Int.not_lt.mpr (Int.ofNat_le.mpr h1))
  ·haveI o:=Xc h1;refine(B4 (cs:=L.cells) (i:=L.spot+1) (Lc o)).elim λk q=> ?_;have N:=Nat.add_lt_of_lt_sub q.1;have V:S9 lv E L.nx.nx:=I.cg;haveI ln:=V.z7.len;refine I.good.li.elim λes W=>((V.toBas.pop y W I.good.nw (.inl I.good.cl) N).elim λE' r=> ?_);refine⟨E',L.nx.nx.back (lv.length-(k+1)),lv.drop (k+1),qs,K,λP g hz=>(r.1 P {g with r:=kU L.nx.nx} K B.eb.bk λκ t z'=>hz κ t).elim λQ w=>⟨Q,λκ t=>w.2.1▸hz κ t,O3 0 G M s.ht (v9 n (v9 (E8 Y) (D9 (N8 U) ⟨T,D9 (Rh ?_) (PE (vh (Vh hs) (by decide)) M s.ids y ?_ N (yq s.ids y N V.z7.zt V.z7.nt ⟨vh ln.2.1 (by decide),vh ln.2.2 (by decide)⟩ ?_) λρ'=>E9)⟩)))⟩,⟨⟨by refine rL ac ?_;rfl,s.YQ.drop _,s.ht,s.ce,vg (H 2 (by decide)),vh (Ph (ac ..)) (vh (dc _ _) (vg s.ln)),vh (IV _) (vg s.fl)⟩,H 2 (by decide)⟩,B.cg rfl,r.2.1,r.2.2.li.elim λes W=>⟨_,_,es,_,W⟩,r.2.2.nw,.inl r.2.2⟩
   ·refine rL F ?_;exact Int.ofNat_lt.mpr o
   ·refine rR q.2 (rL (Int.ofNat_sub (lf o)) ?_);rfl
   ·exact rL (show hl P Q K E' L.nx.nx=hp P Q K E' from yh (λr=>hp P {Q with r:=r} K E') w.1.symm) w.2.2
 cases lv with
 |nil=>exact I.B5.elim
 |cons v lv=>
  refine(Ir (L:=L.nx) (d:=i7 L.cells L.spot 8) (vh (Vh hs) (by decide)) M).elim λa r=>r.elim λb r=> ?_;refine(I.fact (c:=decide (i7 L.cells L.spot 8=2)) y r.1.1 r.1.2 Z (eg (vh (Ph (Eh _)) (vh (Rg ..) (vh s.fl hm))) (by decide))).elim λE' z=> ?_;haveI fl:=s.fl;rw [p6,Ch] at fl;refine⟨E',(L.nx.nx.nx.at lv.length _),(v++[(decide (i7 L.cells L.spot 8=2),(a,b,mk))])::lv,qs,K,λP g hz=>⟨g,hz,O3 0 G M s.ht (v9 n (v9 (E8 Y) (v9 (E8 U) (v9 rfl (D9 (B6 U) (r.2 (OE B.eb.bk hz r.1.1 r.1.2 s.ids (dg (uf _) (J y)) s.YQ.1 (vh (Ph (Eh _)) (vh (vh (ib _ _) fl) (vh hm (by decide)))) rfl z.1 λρ'=>E9)))))))⟩,⟨⟨s.ids,⟨(Lh rfl).trans (yh some (bg (l₂:=[(decide (i7 L.cells L.spot 8=2),(a,b,mk))])).symm),s.YQ.2.at (Oh _)⟩,s.ht,s.ce,vg (H 3 (by decide)),vg s.ln,?_⟩,H 3 (by decide)⟩,B.cg rfl,z.2.cg⟩;refine rL y2 (rL Ch ?_);exact Vh s.fl
variable{l:xh Dh}{gs:xh (Kh×u9)}{ρ:xh (Mh×AV)}{ns:He->Prop}
abbrev Jq(e:xh (Mh×AV)):Kh:=e.all λp=>VO .s2 p.2
def NG:M:=jX (jF 81 (Y1 J4)) (jI (jD (jE .eq (jF 72 (Y2 J1 (Yi 2))) (Yi 1)) (.not (.val (jF 83 (Y2 J4 J3))))) (Yr (jK (.bool false))) jN jN)
theorem Jv(I:Bas lv E L)(G:j3 (F4 lv) E)(s:LS m L lv)(hm:m<=100):e7 P 4 .st 81 [.g9 .state] (hl P g K E L) (.a9 .none) (hl P g K E (L.nt (dZ E) (W3 (dZ E) L.told (L.C9.map (·.1))))):=by
 have A:=I.z7;haveI ln:=A.len;haveI t:∀{a b},a<=12->b<=12->a+b<=1000:=λh h'=>vh (Cg h h') (by decide);refine(El (s.iy hm) I.G0 A.zt A.zw A.nw ⟨by refine rL s.ids (rL Qg ?_);exact vh s.ln (vh (Vh hm) (by decide)),t ln.2.1 ln.1,t ln.2.2 ln.1⟩).elim λh H=>H.2 _ λw m=>(A.w1 w m).2.imp λa q=>q.imp λb q=>⟨q.1,q.2.1,G.truth H.1 I.G0.ft q.2.2 q.1.1 q.1.2⟩
theorem LS.nt(s:LS m L lv){tr:Dh->Dh}{A:xh Dh}:LS m (L.nt tr A) lv:=⟨s.ids,s.YQ,s.ht,s.ce,s.sp,s.ln,s.fl⟩
theorem LR(I:Bas lv E L)(G:j3 (F4 lv) E)(B:eX qs K L)(s:LS m L lv)(sp:L.spot<=5*m)(hm:m<=100)(h1:ρ.lookup 1=some (.g9 .feed))(h3:ρ.lookup 3=some (.g9 .house))(h4:ρ.lookup 4=some (.g9 .state))(hk:Jq ρ=true)(hk':(ρ.all λp=>VO .st p.2)=true)
  (q:∀E' L',S9 lv E' L'->eX qs K L'->LS m L' lv->kk .next ⟨ρ,[],hl P g K E' L'⟩):(A9 P 9 NG).b (.top,[]) ⟨ρ,[],hl P g K E L⟩ kk:=by
 have kp:∀{a:AV},sF a=true->(bF (.top,[]) .st&&(ρ.all λp=>VO .st p.2)&&sF a)=true:=λh=>(gg _ _).mpr ⟨(gg _ _).mpr ⟨rfl,hk'⟩,h⟩;have J:=I.AG G (by rw [s.ids,Qg]);have F8:=Jv (P:=P) (g:=g) (K:=K) I G s hm;generalize e:L.nt (dZ E) (W3 (dZ E) L.told (L.C9.map (·.1)))=L2 at J F8;have s2:=e▸s.nt;have B2:eX qs K L2:=e▸B.cg rfl;have sp2:L2.spot<=5*m:=e▸sp;have hs2:L2.spot<=1000:=vh sp2 (vh (Zf 5 hm) (by decide));have s3:LS m L2.nx lv:=⟨s2.ids,s2.YQ,s2.ht,s2.ce,Vh sp2,s2.ln,s2.fl⟩;have J3:S9 lv E L2.nx:=J.cg;refine k9 h4 (p8 F8 rt (kp rfl) (k9 h1 (p8 (IZ (by decide) hs2 (vh s2.ce (by decide)) rfl) rt (kp rfl) ?_)));by_cases x1:i7 L2.cells L2.spot 2=1
 ·refine D9 (N8 x1) (k9 h4 (k9 h3 (p8 (xq J3.z7 J3.vT (s3.iy hm) J3.G0 J3.good B2.eb.bk) rt (kp rfl) ?_)));exact q _ _ J3.ask (B2.cg rfl) ⟨s3.ids,s3.YQ,s3.ht,s3.ce,s3.sp,s3.ln,s3.fl⟩
 ·exact v9 (E8 x1) (q _ _ J3 (B2.cg rfl) s3)
theorem home(F:g5 L gs)(e:BW gs):∃h,Hm (f8 gs) h/\(∀{g E},e7 P 1 .all 78 [.g9 .state] (hl P g K E L) (A2 gs) (hl P g K E L))/\∀{σ},e7 P 2 .all 77 [A2 gs] σ (.a9 (.bool (DI gs h))) σ:=
 (Jx (nX e.ft) F.2).imp λh r=>⟨r.1,λ{g E}=>F.FA,λ{σ}=>Aq r.1.I.len e.ft F.2 r.2⟩
abbrev ρ5(ns:He->Prop):xh (Mh×AV):=[(0,.raw ns),(1,.g9 .feed),(2,.g9 .bank),(3,.g9 .house),(4,.g9 .state)]
abbrev ρ7(ns:He->Prop)(x:Dh)(d:Jh):xh (Mh×AV):=[(0,.raw ns),(1,.g9 .feed),(2,.g9 .bank),(3,.g9 .house),(4,.g9 .state),(5,iv x),(6,.a9 d)]
def OG:M:=jT 7 (jF 79 (Y2 J4 J6)) (jI (.or (jE .isv J7 (jK .none)) (.not (.val (jF 77 (Y1 J7))))) (Yr (jK (.bool false))) jN (jI (jE .eq (jB .len (Y1 (jS J4 (Ys "levels")))) (Yi 1)) (Yr (jE .isnot (jM J3 35 jN) (jK .none))) jN (jX (jF 82 (Y3 J4 J3 (Yi 1))) jN)))
theorem yJ(I:Bas lv E L)(li:∃fs ps es Q,LI fs ps E.toCor E.trail.length es Q)(nw:NW E)(B:eX qs K L)(s:LS m L lv)(hm:m<=100)(hz:∀κ t,g.z κ t=false)(hc:E.g0=E.marks.length)(C:r4 (f8 (F4 lv)) (R8 (F4 lv)) l)(hr:∀c,kk (.ret (.a9 (.bool true))) c)
  (hq:∀g E lv' ρ' k,I5 [0,1,2,3,4] ρ'=ρ5 ns->ρ'.lookup 1=some (.g9 .feed)->ρ'.lookup 3=some (.g9 .house)->ρ'.lookup 4=some (.g9 .state)->Jq ρ'=true->(ρ'.all λp=>VO .st p.2)=true->(∀κ t,g.z κ t=false)->Bas lv' E (L.back k)->j3 (F4 lv') E->LS m (L.back k) lv'->eX qs K (L.back k)->kk .next ⟨ρ',[],hl P g K E (L.back k)⟩):
  (A9 P 9 OG).b (.top,[]) ⟨ρ7 ns x (.list (zs l)),[],hl P g K E L⟩ kk:=by
 have cb:=WV I.G0 C;have F:=s.iy hm;have F2:=I.G0.B8 (l:=l);have l2:(B8 (F4 lv) l).length<=1000:=vh (Rg ..) F.2;refine p8 (zq F cb.1) rt rt ((Jx (P:=P) (nX F2.ft) l2).elim λh r=> ?_);have T:=Aq (σ:=hl P g K E L) r.1.I.len F2.ft l2 r.2;rw [(Ug (DI (B8 (F4 lv) l) h)).resolve_right λz=>cb.2.1 ((r.1.cons F2.ft).mp z)] at T;refine p8 T rt rt ?_;have ll:(L.ids.map λi=>AV.g9 (.lvl i)).length=lv.length:=(Eh _).trans ((yh Hd s.ids).trans Qg);have hl1:lv.length<=1000:=vh s.ln (vh (Vh hm) (by decide));refine⟨ll▸vh hl1 (by decide),?_⟩;rw [ll];by_cases r0:lv.length=1
 ·refine D9 (N8 (yh Nat.cast r0)) ?_;have nl:=li.elim λfs q=>q.elim λps q=>q.elim λes q=>q.elim λQ W=>W.news nw;have told:∀t∈E.news,E.d8 t=some ((E.d8 t).getD none)/\f7 t=true:=λt m=>(nw.2 t m).elim λo h=>⟨by rw [h];rfl,li.elim λfs q=>q.elim λps q=>q.elim λes q=>q.elim λQ W=>(W.tk t o h).elim λa s=>s.elim λb s=>VL t (W.sk t a b s.1).1⟩;exact p8 (cu told nw.1 (vh nl (by decide)) P {g with r:=kU L} K B.eb.bk λz' z' z=>(by nomatch z)) rt rt (hr _)
 refine v9 (E8 λz=>r0 (Int.ofNat.inj z)) ?_;have h1:0+1<lv.length:=by
  cases lv with
  |nil=>exact I.B5.elim
  |cons a lv=>exact ke (Nat.pos_of_ne_zero λz=>r0 (yh (·+1) z))
 have ln:=I.z7.len;refine li.elim λfs q=>q.elim λps q=>q.elim λes q=>q.elim λQ W=>((I.pop hl1 W nw (.inr hc) h1).elim λE' z=>(z.1 P {g with r:=kU L} K B.eb.bk λκ t z'=>hz κ t).elim λg' w=> ?_);have w2:=w.2.2;rw [show hp P g' K E'=hl P g' K E' L from yh (λr=>hp P {g' with r:=r} K E') w.1] at w2;exact p8 (yq s.ids hl1 h1 I.z7.zt I.z7.nt ⟨vh ln.2.1 (by decide),vh ln.2.2 (by decide)⟩ w2) rt rt (hq _ _ _ _ _ rfl rfl rfl rfl rfl rfl (λκ t=>w.2.1▸hz κ t) z.2.1 z.2.2 ⟨by rw [ac];rfl,s.YQ.drop _,s.ht,s.ce,s.sp,vh (Ph (ac ..)) (vh (dc _ _) s.ln),vh (IV _) s.fl⟩ (B.cg rfl))
def pK:M:=jX (jF 84 (Y5 J1 J4 J3 J2 (jO .mul (jO .add J5 (Yi 2)) (.ite (jE .eq (jO .mod J5 (Yi 2)) (Yi 0)) (Yi 1) (.neg (Yi 1)))))) (jT 6 (jM J3 8 jN) (jI (jE .ne (jE .isnot J6 (jK .none)) (jF 77 (Y1 (jF 78 (Y1 J4))))) (Yr (jK (.bool false))) jN (jI (jE .isnot J6 (jK .none)) OG jN NG)))
def uv:M:=jT 6 (jM J3 8 jN) (jI (jE .ne (jE .isnot J6 (jK .none)) (jF 77 (Y1 (jF 78 (Y1 J4))))) (Yr (jK (.bool false))) jN (jI (jE .isnot J6 (jK .none)) OG jN NG))
def pv(m:Mh):Dh:=((m:Dh)+2)*(if(m:Dh)%2=0 then 1 else-1)
theorem LG:∀m<6,pv m∈[(-7),-5,-3,2,4,6]:=by decide
theorem nF(hm:m<6)(F:e7 P 9 .s2 84 [.g9 .feed,.g9 .state,.g9 .house,.g9 .bank,iv (pv m)] (hl P g K E L) (.a9 .none) b')(q:(A9 P 9 uv).b (.top,[]) ⟨ρ5 ns++[(5,iv m)],[],b'⟩ kk):(A9 P 9 pK).b (.top,[]) ⟨ρ5 ns++[(5,iv m)],[],hl P g K E L⟩ kk:=by
 haveI f:∀{b},IntMulOk _ b:=IntMulOk.of_left (intBits_le_64 (Int.lt_of_lt_of_le (by decide) (Int.add_nonneg (Af m) (by decide))) (Rf (Int.add_le_add_right (Int.ofNat_le.mpr (lf hm)) 2) (by decide)));refine⟨by decide,?_⟩;unfold pv at F;by_cases e:(m:Dh)%2=0
 ·rw [Lh e] at F;exact D9 (N8 e) ⟨f,V8 F rt q⟩
 ·rw [Fh e] at F;exact v9 (E8 e) ⟨f,V8 F rt q⟩
theorem lap(I:S9 lv E L)(B:eX qs K L)(s:LS m L lv)(hm:m<6)(hz:∀κ t,g.z κ t=false)(hr:∀c,kk (.ret (.a9 (.bool true))) c)
  (hq:∀g E L lv qs K ρ',I5 [0,1,2,3,4] ρ'=ρ5 ns->(∀κ t,g.z κ t=false)->S9 lv E L->eX qs K L->LS (m+1) L lv->kk .next ⟨ρ',[],hl P g K E L⟩):
  (A9 P 9 pK).b (.top,[]) ⟨ρ5 ns++[(5,iv m)],[],hl P g K E L⟩ kk:=by
 refine(Dl I B s (vh (lf hm) (by decide)) (LG m hm)).elim λE' r=>r.elim λL' r=>r.elim λlv' r=>r.elim λqs' r=>r.elim λK' r=>(r.1 P g hz).elim λg' w=> ?_;have s':=r.2.1.1;have sp':=r.2.1.2;have B':=r.2.2.1;have p:=r.2.2.2;have hm':m+1<=100:=vh (Nat.succ_le_of_lt hm) (by decide);refine nF hm w.2 ((home (P:=P) (K:=K') (s'.iy hm') p.1.G0).elim λh H=>p.2.2.2.elim (λG=> ?_) λz=>z.elim λl z=> ?_)
 ·have C8:=l8 (λl z=>by rw [G.cl] at z;exact(by nomatch z)) P {g' with r:=kU L'} K' B'.eb.bk λz' z' z=>(by nomatch z);rw [G.cl] at C8;refine p8 C8 rt rt (p8 H.2.1 rt rt ?_);have T:=H.2.2 (σ:=hl P g' K' E' L');rw [(H.1.cons p.1.G0.ft).mpr G.cons] at T;exact p8 T rt rt (LR p.1 G B' s' sp' hm' rfl rfl rfl rfl rfl λE2 L2 J B2 s2=>hq _ _ _ _ _ _ (ρ7 ns m .none) rfl w.1 J B2 s2)
 ·have cb:=WV p.1.G0 z.2.2;have C8:=l8 (λl y=>by rw [z.1] at y;exact Bh y▸vh (lR cb.1.1) (by decide)) P {g' with r:=kU L'} K' B'.eb.bk λz' z' z=>(by nomatch z);rw [z.1] at C8;refine p8 C8 rt rt (p8 H.2.1 rt rt ?_);have T:=H.2.2 (σ:=hl P g' K' E' L');rw [(Ug (DI (F4 lv') h)).resolve_right λy=>cb.2.2 ((H.1.cons p.1.G0.ft).mp y)] at T;refine p8 T rt rt (yJ p.1 p.2.1 p.2.2.1 B' s' hm' w.1 z.2.1 z.2.2 (λc=>hr c) λg2 E2 lv2 ρ' k e h1 h3 h4 k1 k2 hz2 I2 G2 s2 B2=> ?_);exact LR I2 G2 B2 s2 sp' hm' h1 h3 h4 k1 k2 λE3 L3 J B3 s3=>hq _ _ _ _ _ _ ρ' e hz2 J B3 s3
def bA:M:=Yr (.uW (jF 83 (Y2 J4 J3)) (.one (jE .eq (.fz (jZ J8 [8] true (jS J4 (Ys "told")) (.not (.val (jF 80 (Y3 J4 J3 J8)))) [3,4])) (jP jN))))
theorem Ry(I:S9 lv E L)(B:eX qs K L)(s:LS m L lv)(hm:m<=100)(j:∀c,kk (.ret (.a9 (.bool true))) c):(A9 P 9 bA).b (.top,[]) ⟨ρ5 ns,[],hl P g K E L⟩ kk:=by
 haveI F:=s.iy hm;refine p8 (xq I.z7 I.vT F I.G0 I.good B.eb.bk) rt rt ?_;haveI J:=I.ask;generalize e1:({E with news:=[]})=r at J⊢;generalize e2:({L with fresh:=[]})=e at J⊢;haveI h:g5 e (F4 lv):=e2▸F.c rfl rfl;refine xN (τ:= .ltold) (yh (λb=>some (d9.M9 _ _)) J.z7.zt) TZ rfl (aY (c:=true) rfl) (⟨b9 (b9 (vh J.z7.len.2.1 (by decide))),?_⟩);refine rL (show((W4 _).map λp=>AV.a9 _)=e.told.map λw=>iv w.1 from jg ..) ?_;refine AI (λp m K q=> ?_) λρ'=> ?_
 ·exact p8 (J.z7.Ix rfl rfl (h.c rfl rfl) J.G0 J.good B.eb.bk (T7.mpr ⟨_,m⟩)) rt rt (q _)
 refine KU rfl rfl (b2:=hl P g K _ e) ((aY rfl).trans (yh _ (by have:=J.z7.zt;cases e;cases this;rfl))) ?_;show kk _ _;exact j _
theorem Iv(j:∀c,kk (.ret (.a9 (.bool true))) c):∀{N m g E L lv f K ρ'},m+N<=6->I5 [0,1,2,3,4] ρ'=ρ5 ns->(∀κ t,g.z κ t=false)->S9 lv E L->eX f K L->LS m L lv->
  (∀g E L lv f K,S9 lv E L->eX f K L->LS (m+N) L lv->kk .next ⟨ρ5 ns,[],hl P g K E L⟩)->lp ((A9 P 9 pK).b (.top,[])) (N5 true [5]) (IC.keep [0,1,2,3,4]) kk ((List.range' m N).map λ(i:Mh)=>iv i) ⟨ρ',[],hl P g K E L⟩:=by
 intro N;induction N with
 |zero=>
  intro m g E L _ _ K ρ' _ h _ I B s q;show kk .next ⟨I5 [0,1,2,3,4] ρ',_,_⟩;refine rL h ?_;exact q _ _ _ _ _ _ I B s
 |succ N p=>
  intro m g E L _ _ K ρ' hm h hz I B s q;haveI e:=(Og m N).symm;show(A9 P 9 _).b _ ⟨T9 (I5 [0,1,2,3,4] _) 5 _,[],hl P g K E L⟩ _;exact h▸lap I B s (dg (Nc (Qh m N)) hm) hz (λc=>j c) λg E L z' z' K z' h hz I B s=>(p (e▸hm) h hz I B s (e▸q))
def aA:M:=jH false [5] true (jB .range (Y1 (jO .add (Yi 3) (jF 72 (Y2 J1 (Yi 4)))))) pK [0,1,2,3,4] bA
theorem NE(I:S9 lv E L)(B:eX qs K L)(f:L.spot=0)(s:LS 0 L.nx lv)(hz:∀κ t,g.z κ t=false)(j:∀c,kk (.ret (.a9 (.bool true))) c)(e:I5 [0,1,2,3,4] ρ=ρ5 ns)(r:ρ.lookup 1=some (.g9 .feed))(h:(ρ.all λp=>VO .st p.2)=true):(A9 P 9 aA).b (.top,[]) ⟨ρ,[],hl P g K E L⟩ kk:=by
 refine k9 r ((B4 (cs:=L.cells) (i:=L.spot) (N:=4) (by decide)).elim λk q=> ?_);refine p8 (IZ (by decide) (f▸by decide) (vh s.ce (by decide)) q.2) rt ((gg _ _).mpr ⟨(gg _ _).mpr ⟨rfl,h⟩,rfl⟩) ?_;haveI h:=Yf q.1;refine⟨⟨(Af (3+k)),(Int.ofNat_le.mpr (vh (Sh h 3) (by decide)))⟩,?_⟩;exact rL (show oB _=(List.range' 0 (3+k)).map λ(i:Mh)=>iv i from by rw [<-List.range_eq_range'];rfl) (Iv (kk:=zW _ _) j (vh (Ph (kf _)) (Sh h 3)) e hz I.cg (B.cg rfl) s λg E L z' z' K I B s=>(Ry I B s (vh (Ph (kf _)) (vh (Sh h 3) (by decide))) j))
def L0(cs:xh Dh):Lw:=⟨cs.take 48,0,[0],λi=>if i=0 then some [] else none,TL,[],[],[],false,false⟩
def h0(cs:xh Dh):Tg->Ah d9:=up (λz'=>none) .feed (mR (cs.take 48) 0)
def h1(P:w8)(cs:xh Dh):Tg->Ah d9:=j0 (hY KJ) P.B (O0 KJ) (up (h0 cs) .bank (.inst P.B []))
def h2(P:w8)(cs:xh Dh):q9:=Jr (up (h1 P cs) .house (.inst P.C []))
def s1(P:w8)(cs:xh Dh):Tg->Ah d9:=up (up (hp P (h2 P cs) KZ G9.nul) (.lvl 0) (.list true [])) .levels (.list true [.g9 (.lvl 0)])
def s2(P:w8)(cs:xh Dh):Tg->Ah d9:=up (up (up (s1 P cs) .lwat (.M9 true [])) .ltold (.M9 true [])) .fresh (.list true [])
theorem aJ:up (s2 P cs) .state (.s8 (sD TL))=hl P (h2 P cs) KZ G9.nul (L0 cs):=funext λτ=>by
 cases τ with
 |ls k t=>cases k<;>rfl
 |w7 k=>cases k<;>rfl
 |lvl k=>cases k<;>rfl
 |_=>rfl
def sv:M:=jT 4 (jW .state (.dS (.pr (Ys "terms") (jF 73 (Y1 J2)) (.pr (Ys "levels") (jW .levels (jP (Y1 (jW (.lvl 0) (jP jN))))) (.pr (Ys "watched") (jW .lwat .dL) (.pr (Ys "told") (jW .ltold .dL) (.pr (Ys "fresh") (jW .fresh (jP jN)) jN))))))) aA
theorem zl:LS 0 (L0 cs).nx [[]]:=⟨rfl,⟨rfl,trivial⟩,rfl,Nb _ _,Oh 1,Oh 1,Oh 0⟩
theorem xJ(h:∀c,kk (.ret (.a9 (.bool true))) c):(A9 P 9 sv).b (.top,[]) ⟨[(0,.raw ns),(2,.g9 .bank),(1,.g9 .feed),(3,.g9 .house)],[],hp P (h2 P cs) KJ G9.nul⟩ kk:=by
 refine p8 (Hl) rt rt (⟨x6,(λo e=>(by nomatch e)),j9 rfl ?_⟩);refine⟨(λv m=>List.mem_singleton.mp m▸rfl),(λo e=>(by nomatch e)),j9 rfl ?_⟩;refine⟨(λz' m=>(by nomatch m)),(λo e=>(by nomatch e)),j9 rfl ?_⟩;refine⟨(λz' m=>(by nomatch m)),(λo e=>(by nomatch e)),j9 rfl ?_⟩;refine⟨x6,(λo e=>(by nomatch e)),j9 rfl ?_⟩;exact⟨(λx v e=>(I8 e).elim (λe=>e.2▸rfl) λe=>(I8 e).elim (λe=>e.2▸rfl) λe=>(I8 e).elim (λe=>e.2▸rfl) λe=>(I8 e).elim (λe=>e.2▸rfl) λe=>(I8 e).elim (λe=>e.2▸trivial) λe=>(by nomatch e)),j9 aJ (NE wK ⟨EB.zero,Ig,λz' m=>((by nomatch m)),λz' m=>((by nomatch m))⟩ rfl zl (λz' z'=>rfl) h rfl rfl rfl)⟩
end
section
variable{P:w8}{k:Mh}{kk:KB}{o:d9}{ds:xh Jh}{cs c:xh Dh}
theorem VZ{U:Tg->Prop}{s:Mh}:(mR c s).keeps U:=λx v e=>(I8 e).elim (λe=>e.2▸trivial) λe=>(I8 e).elim (λe=>e.2▸trivial) λe=>(by nomatch e)
theorem wN{U:Tg->Prop}{τ:Tg}(e:h0 cs τ=some o):o.keeps U:=by
 by_cases q:τ= .feed
 ·rw [q] at e;exact Bh e▸VZ
 ·exact nomatch (u8 q).symm.trans e
theorem JO{U:Tg->Prop}(e:ls ds=some o):o.keeps U:=Bh e▸λz' m=>(List.mem_map.mp m).elim λz' e=>e.2▸trivial
theorem vM{U:Tg->Prop}(e:O0 KJ k=some o):o.keeps U:=by
 rcases k with _|_|_|_|_|_|_|_|_|_|k
 case succ.succ.succ.succ.succ.succ.succ.succ.succ.zero=>
  exact Bh e▸λx v e=>(I8 e).elim (λe=>e.2▸trivial) λe=>(I8 e).elim (λe=>e.2▸trivial) λe=>(by nomatch e)
 case succ.succ.succ.succ.succ.succ.succ.succ.succ.succ=>exact(by nomatch e)
 all_goals exact JO e
theorem vN{τ:Tg}(n:τ≠ .house)(e:h1 P cs τ=some o):o.keeps (·≠ .house):=by
 cases τ with
 |bank=>exact Bh e▸λp m=>Q7 (List.all_eq_true.mp (rfl:(hY _).all (λp=>nt .house _)=true) p m)
 |bk k=>exact vM e
 |feed=>exact Bh e▸VZ
 |ls k t=>cases k<;>exact(s9 e rfl).elim
 |w7 k=>cases k<;>exact(s9 e rfl).elim
 |_=>exact(s9 e rfl).elim
theorem Bl(hz:cs.length<=1000)(hr:∀c,kk (.ret (.a9 (.bool true))) c):(A9 P 9 rq).b (.top,[]) ⟨[(0,.raw (HJ cs))],[],λz'=>none⟩ kk:=by
 refine⟨cs,rfl,b9 (vh hz (by decide)),?_⟩;refine⟨vh (Nb _ _) (by decide),?_⟩;refine⟨(λx v e=>(I8 e).elim (λe=>e.2▸trivial) λe=>(I8 e).elim (λe=>e.2▸trivial) λe=>(by nomatch e)),j9 (σ':=h0 cs) ?_ ?_⟩
 ·unfold h0 mR zs;rw [<-Pc];rfl
 refine⟨8,rfl,.lU,_,(Ml rfl (λj=>rfl)).up (by decide),(λτ o h e=>wN e),L8 rfl ?_⟩;refine⟨8,rfl,.lU,_,(l0 rfl ⟨rfl,λk=>rfl⟩ (λk=>rfl)).up (by decide),(λτ o h e=>vN h e),L8 rfl ?_⟩;exact xJ hr
end
section
variable{W:Wd}{ns:xh Dh}{vs:xh Nh}{L c:Mh}{x y:Str}
theorem SO:sa (L+1) (pg.sc 85).names []=[(S "state",L+1+1),(S "house",L+1)]:=by kernel_rfl
def JD(L:Mh):xh (Str×Mh):=[(S "state",L+1+1),(S "house",L+1)]
theorem dY:(JD L).lookup x=some c↔(x=S "state"/\c=L+1+1)\/(x=S "house"/\c=L+1):=by
 unfold JD;refine rL Gi (rL Gi ?_);by_cases e:x=S "state"
 ·exact rL (Lh e) (⟨λq=> .inl ⟨e,(Bh q).symm⟩,λq=>q.elim (λq=>q.2▸rfl) λq=>absurd (e.symm.trans q.1) (by decide)⟩)
 ·refine rL (Fh e) ?_;by_cases a:x=S "house"
  ·exact rL (Lh a) (⟨λq=> .inr ⟨a,(Bh q).symm⟩,λq=>q.elim (λq=>(e q.1).elim) λq=>q.2▸rfl⟩)
  ·exact rL (Fh a) (⟨λq=>((by nomatch q)),λq=>q.elim (λq=>(e q.1).elim) λq=>(a q.1).elim⟩)
def lF(nm:Str)(cd:Nh)(fa L:Mh):Ub:={envOfC nm (pg.sc 85) L fa cd with cells:=JD L}
theorem Gx{nm:Str}{a:Nh}{f:Mh}:envOfC nm (pg.sc 85) L f a=lF nm a f L:=yh (λc=>{envOfC _ _ L _ _ with cells:=c}) SO
def mF(nm:Str)(c:Nh)(f L:Mh):FD:=⟨callerA.deeper (lF nm c f L),lF nm c f L,[L,L+1+1,L+1],by kernel_rfl⟩
theorem hM(h:(JD L).lookup x=some c):c∈[L,L+1+1,L+1]/\L<c:=(dY.mp h).elim (λq=>by refine rL q.2 ?_;exact⟨.tail _ (.head _),Mc (uf L)⟩) λq=>by refine rL q.2 ?_;exact⟨.tail _ (.tail _ (.head _)),uf L⟩
theorem xK{P:w8}{nm:Str}{g:Nh}{b L:Mh}:FS ((mF nm g b L).f P 9):=
 ⟨(mF _ _ _ L).k,rfl,rfl,rfl,(by show 1+claimMargin+1+2*9<900;decide),(by show 4+3+20*9<9000;decide),λx y c e f=>(dY.mp e).elim (λp=>(dY.mp f).elim (λq=>p.1.trans q.1.symm) λq=>(Ka _ (p.2.symm.trans q.2)).elim) λp=>(dY.mp f).elim (λq=>(Ka _ (q.2.symm.trans p.2)).elim) λq=>p.1.trans q.1.symm,
  λx c e=>we (hM e).2,.head _,λa h=>(List.mem_cons.mp h).imp id λh=>(List.mem_cons.mp h).elim (λe=>⟨_,dY.mpr (.inl ⟨rfl,e⟩)⟩) λh=>⟨_,dY.mpr (.inr ⟨rfl,List.mem_singleton.mp h⟩)⟩,λz' x c e=>(hM e).1,
  λx e=>Option.isSome_iff_exists.mp (show((JD L).lookup x).isSome=true from(show JD L=_ from SO.symm)▸cellsFrom_some _ _ _ (.inl e))⟩
theorem law_go(k:KF W.K){L D l:Mh}{m:Str->Ah Nh}{C:Nh}{nm:Str}{Q:Flow->Uh->Prop}{E:Nh->Uh->Prop}{s:Uh}{B:xh qf}{w A:He}(hB:B=pg.body 85)(F:Fr W.b L s.heap m)(G:News W.b L s.heap [(L+1+1,w),(L+1,A)])(J:∃v,w.data= .cell v)(M:∃v,A.data= .cell v)(hm:m (S "script")=some (.ref l))(hl:W.b.IsList l vs.toArray)(T:IntsAre vs ns)(hz:ns.length<=1000)
  (q:∀s',SS s s'->(∃I,Fr W.b L s'.heap I)->Q (.ret (.bool true)) s'):og (Mk W) (callerA.deeper (envOfC nm (pg.sc 85) L D C)) (execs B (envOfC nm (pg.sc 85) L D C)) Q E s:=by
 obtain⟨K,R,V,n,hd⟩:=id hl;haveI Y:∀a,L<=a->W.b.get? a=none:=λa h=>Option.eq_none_iff_forall_ne_some.mpr λo e=>Nat.not_lt.mpr (vh F.above h) (vf e);haveI c1:=l9 (l9 (l9 (l9 Wq).1).1).1;haveI hs:∀τ o,(A4 [] λz'=>none) τ=some o->False:=λτ o e=>by
  cases q:τ.ti with
  |none=>rw [T8 q] at e;cases e
  |some _=>rw [G5 q] at e;cases e
 haveI H:(pg.sc 85).names.lookup (S "script")=some .local:=by kernel_rfl
 refine((ok (P:=lq W k) (rP (Hh c1.1) c1.2) _).b _ _ _ (Bl (kk:=λfl z'=>fl= .ret _) hz λc=>rfl) λτ o e=>(hs _ o e).elim).casesOn λfl z' X z' e1=> ?_;rw [e1] at X;have p:∀x v,List.lookup x (A0 pq [(0,.raw _)])=some v->x=S "script"/\v= .raw _:=λx v e=>by
  haveI e:List.lookup x [(S "script",AV.raw (HJ ns))]=some v:=e;rw [Kg] at e;split at e
  ·rename_i g;exact⟨beq_iff_eq.mp g,(Bh e).symm⟩
  ·cases e
 haveI U:ST ((mF nm C D L).f (lq W k) 9) (IC.cx _ ⟨[(0,.raw _)],[],λz'=>none⟩) ⟨W.b.get?,λz'=>none,λz'=>none,λz'=>0,λz'=>none⟩ s.heap:=
  ⟨⟨λa o e=>e,λa o e=>e.elim (F.keep a o) (nomatch ·),(λa z' o e=>(by nomatch e)),(λa z' o e=>(by nomatch e)),(λa o e=>(by nomatch e)),λτ o e=>(hs _ o e).elim,λτ o a e=>(hs _ o e).elim,λτ o a e=>(hs _ o e).elim,(λa z' e=>(by nomatch e))⟩,
   xK,⟨m,F.ns,λx v e z'=>by
    obtain⟨rfl,rfl⟩:=p x v e;exact⟨_,hm,l,K,rfl,R,V,_,n,hd,T⟩⟩,λx v e z=>by
    rw [(p x v e).1] at z;exact z.elim (λz=>by cases H.symm.trans z) (λz=>by cases H.symm.trans z),λx c e=>(dY.mp e).elim (λq=>J.imp λv h=>q.2▸⟨w,(G _ (.head _)).1,h⟩) λq=>M.imp λv h=>q.2▸⟨A,(G _ (.tail _ (.head _))).1,h⟩,λa t=>Gh.D4 ⟨rfl,Y a ((λa t=>(List.mem_cons.mp t).elim (λe=>e▸Oh _) λt=>(List.mem_cons.mp t).elim (λe=>e▸vg (Vg _)) λt=>List.mem_singleton.mp t▸Vg _) a t),rfl,rfl⟩,λx c e=>⟨rfl,.inl (hM e).1⟩⟩
 refine Yh (X _ rfl B (hB▸(l9 Wq).2) _ s U) (λf s' r=> ?_) λz' z' z=>z.elim;obtain⟨G',_,u,⟨v,e,O⟩,N⟩:=r;exact rL e (rL (show v= .bool _ from O) (q _ N (u.fr.ns.imp λI z=>⟨z.1,λb o e=>u.sr.y9 _ _ (.inl (u.sr.base _ _ e)),F.above⟩)))
end
namespace head
#print "10004968210546728623 10046488721125158466 10064413085623696276 1012307322726500892 10144926432722608811 10165431968968751118 10178686243629489081 10196448298402465541 10209039374229592208 10218059707884530613 102436769383368030 10245341562508545917 1026916259146773914 10288341847844054694 10289556748277466078 10310981372384372519 10313022789138511893 10323350097857441997 10326433227229921549 10333269780963272991 10338859181450622609 10343487397458017819 10390551338457105969 10403513753302479130 104248997913267698 10440470256551273718 10441500689708926378 10465892010561581982 10467852365440921670 10478411361968804352 10483051397799219287 10532295789626618253 10543712386442291379 10574963512794415595 1059163318146682468 10611000914816789194 10619135741265857928 10657940773215961958 10677006617423633188 10696463899954577153 10703926824214995897 10714201629055478824 10742104010770387711 10743851739164386354 10749026946326621215 10771887539982464465 10778376083544448290 10781547089232763873 10786028702629105334 10793811875839641842 10805854467555709794 10806634533459545381 1081918594029998349 10827897679061541192 10829295815040425643 10845594368882550940 10875764276356024609 10885930716135163624 10910662148547809146 10918473249476564785 10919377325588878479 10936523832443784857 1094486055635779632 10982946209367121509 11032554134783566749 11046677887984482611 1108876809500496841 11132521630908735952 11148025639844457423 11164902317844157328 11175660098989979826 11221188208691760953 11232978470920408358 1125208917562807246 11278131861169923487 11287203536343631484 11309609833603199455 11312444847361870107 11333961214768286601 11377860342115682839 11409394182237674072 11414849079480288724 11485815400417367690 11498089366116190899 11509219436781461689 11532515657967676718 11542963386671024406 1154745801677483937 11566841906782242053 11575903973748849822 11604614444025938197 11654851693395710637 11661065636700889516 11679397435755134892 11680863635135381657 11706630770760164152 11709681379492831003 11729432960898958820 11734387023926553616 11735541712165610263 11743441244443810487 11798683024389638473 11811601694450153820 11860589723203421292 11929757218136065980 11931330559654779212 11931392740866613471 11947121389895320567 1194786874175587333 11964108435493509918 11966087129274986415 11982184262622975068 12042323147584365760 12049423146163859425 12071836986092510387 12075202227317634358 12078229439370049644 12097889611720191176 12102787196800394369 12125221754952656040 12142385515706650059 12169433661247332737 12203473416507285816 1221140237713410010 12228158594811739220 12229761515936767099 12268107022977922378 12278463079101488128 12303835990030654623 12304027531897825301 12306518083596781285 12314344313618072767 12322725726572001430 12328297505516256082 12349259055231604262 12400829552769024433 12455520345694358024 1247117338844145269 1247440197491546652 12490366024630467340 12533188119829535936 12534521552944749137 12566224135570047525 12583066597068699183 1258453716306658304 12584948273278941721 12604432008983877658 12619512236032086282 12621192663148488146 12639482037638911433 12648024291328057292 12708123234126680708 12708590966113040610 12742234505937585760 12757151084355026914 1278451321631604521 12813849968160126556 12824015591217091490 12833563696867029993 12876724109531853304 12881004197342179623 12887062192404025258 12905125323518435587 12906616878968439657 12962800675557643984 12969973581304291635 12992531038351979029 13007202087462836646 13038121054318420537 13052173369479026832 13064243383841480089 13074133843078740547 13090210470212044747 13105012303010250491 13109634056560066191 13111057102255539402 13141228108489976410 13148544108415269593 13149666652136121732 1317351591387112958 13179102330720381960 13221240968849860500 13231323889132105171 1323558778686592361 13251416305544386811 13252064799419665012 13257972016065767947 13272653632137012334 1328941141683245047 13311012694725994139 13312725732919641165 13388910588309091474 13398390100420220105 13401292336569751603 13430421801755068649 13433233657428206792 13436008565774967011 13446957514743792861 13456512384384106229 13486987100687975238 13503784445409987810 13537632495512367073 13565100068041680847 13565670087438899335 1358449597577685809 13586621658033168467 13589924676094017053 13647467613375884496 1373012823760850595 13752030441720751821 13763259863565942290 13790758832561892277 13812406104552094168 13825956281807410768 13839247677454372258 13851134797264264420 13854868483263387329 13864285028588155430 13864736982000498215 13882234696957952739 13896250499497688330 13912586304887420795 13938314743558959367 14082094871413604490 14086282813714110018 14109380674944687050 1411274099146372379 14158428439919870864 14172424672946166034 14202255950262162344 14228115194959108029 14231805517815195468 14250243553150720892 14255320843353542408 14294982102292943780 14363887742018839356 14367920226926963119 14375063571132334751 14397015532696111410 14401466065109191019 14405755211371057577 14417383327440295455 1442861384686113144 14431188939852883394 14477604489051941744 14493282511541016206 14504264663935038925 14506496976691018925 1453673589703148230 14549435271706706224 14558566372639728533 14564241988698318373 14566449394318177135 14582795887350676893 14594217352909989919 14594469244564773350 14615677475450882168 14633424208812532277 14640619569106899106 1466144664807686202 14686138366110421397 14686663619095853031 14704451711062366978 14716760239956993399 14776828949437865282 14804807535031770434 14809388494844252968 14813904526722990485 14846908211111941746 1485951079949661044 14901954603512784952 14902749303576689216 14902837588030647693 14907395632340382734 14912406250155844462 14929068417886092385 14930278808943442820 14939700357920408252 14946424000415424946 14947980960965689406 14988240910421226704 15063069900258622093 1506493122784522776 15075481993605988605 150979079722049991 15099370444278567809 15106323820558608180 1511891059713779943 15128749181546931122 15138065235074995841 15152765047150231376 1515345725807219654 15161549903426448246 15182858166330841093 15185695549473199070 15201846218156111944 15202921462499427706 15225103352731655138 15228381388097102857 15266530685898783443 15279990767845995955 15311939220964185106 15318860832186169591 15329731994807047032 15332405847694572972 15359864109289789 15363273018220560083 15368349496343960223 15369050550832876565 15370769205218274421 15413299265640824211 15418431880819366655 15419450125499025513 15450062323825198675 15455170188983691658 15457526710863194040 15472401753886037627 1547330158025341957 15489742176703056555 1550954271274045814 15517624276369520 15520181941019334340 15527012874900490798 15553797352527871753 15554606659924641141 15572949344126905646 15631718473216897701 15647054619291945445 15650233195626454259 15654466625531938742 1567440863127649582 1567943673962162336 1568912342305137357 15738198401836456268 15785167706613062101 15792559764004085117 15797262173011076727 15830968035239220771 15880288827581452567 15893317856969978209 15911472369724303455 15912091044079083978 15925507543600243961 15929665536996360311 15938720242040571570 15949383635835789312 15974479345488772459 15987298236799223137 1599018632521883147 15991991953990720742 15996041460632315918 15996938239223969416 15997579793656432842 16002366332284682119 16030568412080735523 16055707317498819497 16068889945890959238 16102659116359997740 16138420628824636225 16149152401294737200 16170722059020510766 16256651097423524758 16293861684877478311 16297892007826214052 16299635379590263345 16358555599909018182 16361214446219043315 16392708975658356464 16415695218750827382 16460313092685165067 16470738274083341248 16503587982116582554 16531991790674821415 16551592612956221458 16554526779789546084 1656181690755500009 16581240675931604764 16623005101582439649 1662621770911083758 16638095363847938142 16668052298274276781 16692537232037948051 16728021840846876412 16729595403625350564 16777521522860482247 16797182098154794100 16840755293988039984 16854100568098985125 16880951475479886921 1688876610941822724 16913527823740358691 16936995887192446143 16951711990063688785 16979452091659690644 17013429710562117009 1705665465591260045 17097786386387354645 17100331334522449688 17132605601930520564 17139050826911359295 17143094881623060519 17155148735901461053 17165501156494301525 17201647169419101183 17237208602118822938 17263427690546889705 17292970962960149322 17297219793221002926 17333868739752232385 1735712362863950725 1737130595558553925 17391939332154934924 17393854343980579928 17407171449609617371 17421213231281661734 17431456679323178533 17455982768175728529 17484823706847619055 17500755431956896192 17506308255386958906 17510926542512762430 17546743832020271483 17547070963897388926 17567876552396240469 17576387167790452266 17576806870698252327 17589853756644411302 17594429827846230351 17608012506762601549 17613311456908602385 17618437575947658335 17630976985212021252 17644897776439644728 17650822020619547663 1765596292035907629 17682342131244598394 17708814002326905842 17713489380645325301 17743693862729980614 17803472654852465174 17840676843927578194 17841386997120191728 17856491329550843911 17870151092536345100 17879266493245626914 17929221164090874782 17981709744806268 17994589576782617821 18002631600328936663 18027623137396611546 1803827914629316465 18039750520779619118 18071378121363579176 18104016066901283141 18126802804303514045 18129246944988500376 18179354985623308581 18185829208802879769 18218894547561957484 18231679819947193826 18245091190975670729 18255462893550846401 18277882096832908412 18289451761536356138 18290675023729231418 18308072863541763719 18349109515238182760 18374166688396529900 18405740669185776274 18407380456907040068 1844467570389974658 1865247970343085854 1865986355926888367 1871131430832029716 1881055677477116581 1901947026874951026 1903809553442905389 1926143298797657736 1940695373123240344 1944605091054254097 1977347409374276855 1987557369150731712 1988755030936440388 1998152975310809562 2005824559283308544 2007915535196607075 2011731968932453 2043087103621964997 2043889385310230855 204814726684615984 2064619252918735094 2065884973380166366 2078090517514532923 2080864317826152883 2088969971902092759 2110877475482146926 2118006493534568469 2120349209514560818 2124781625166719259 2131911711366185128 2134257966403761398 215088660058033229 2169281033359032037 2211164086160396607 2229781084959714832 2300749246909507682 2323926309532271586 2336261679802283833 2369519236851512631 2373247585403660244 2398718288924477558 2422478181749461736 2423416151595942688 2430787486173218795 2431657681545466639 2439738643158869041 2441318031446764311 2453521283205649659 245658227047641187 246766493212783410 2468129496273715989 2469965030768400839 2587074192816195084 2598828398090235752 2608704221948599230 2611384508635057486 2624494413115057283 2643138091564768330 265169152525730486 2670417021402637304 2674806861483370198 2684990472390245953 2688960552751689224 2694128037389889325 2714067042623201800 2736538178757748039 2755820643727113742 2760578795835352852 2762088878838790826 2782546592773990476 278581248325843523 2829670097903492755 2841162563835548407 2851065943783126841 28651559375178625 2869377799857603687 2890209865472221383 2894152552507235424 2915901929375252862 2918443117542427209 2919749146745499586 2960898139891119717 298335191302580495 2990656774574987593 2993739083611638239 3003217347886287976 3052639238020543699 3077082300529035021 3087972217934253931 3097101300178927752 3111883404516310774 3135906202827797507 3146642883932764321 3154329806151034382 3170996000379527775 3202537428888129816 3241465772588796232 3244887638059355566 3248080294440303433 327085425411541729 3334355388040290027 3334692418263973119 3343984374828313861 3366343033411239668 3382608214973111774 3398423038984232883 3421387750874743176 3442542328804436530 3515292167392647833 3539023208464144308 3563018587571817148 3563479953845385512 35754638678869335 3600112065676380631 360943114214951545 3610420016983457965 3635525712308927271 364950591144210386 3664162495101484743 368270107659410887 3706193764460939757 3719757830788971985 3729568987708025634 3735690946278787565 3752576746709973395 3777320951872502428 379154397386507432 3796036621921146727 3803949532724674133 3824990019111102402 384100419241242765 3869182881569682240 3897190675560765510 3905749787061621520 3919622968385735570 3922205187945754679 3941796469025250358 4038296290503734956 4050939481493077499 4060700195381250067 4063569851180352202 4067203111510269444 4116136491773717686 4167199826336633745 4238889034677794361 4240350817474645616 4252894043837469053 4255666144921013795 4274313052582936651 4286042419483694078 4293379382155133889 4308027884169681377 4356994229188071200 4371241328660312010 4380319847576138298 4439044264226220048 4443641541309057203 4463040190649093840 4477118761818678279 4481052934663621475 4486621872756073951 4500438253849987814 4500565936341979993 4517080872264363356 4522409042203475749 4544289106498852243 4550462689801330482 4567146139349149416 458149121178462182 460493647788064181 4606372426461951411 4657073311724733658 4664621624991227399 4696402877033576756 4698016838820866720 4720382259942339842 4723723271744914184 4736740407286332697 4752274641016097417 4766937966870788380 4773304924162895731 4791830553219477182 4804523201834689056 4811286922782717070 4819178420594143062 4872695887633465018 4903428944905943755 4906231476152928751 4925291594519982632 4928989890952316381 4950721183540625033 4958055551472059035 4986859925826892238 5012512282137399879 5014626033260886234 5024588561011540511 5056389538755327401 5063786239965550723 5066669096059514188 50896459018227149 5091507448127722942 512018409098999112 5141336605604451889 514689421400378322 5151289576439492714 5152520497178031707 5155368293660787195 5161104113109860643 5180793443103303352 5190979149539639286 5206473230331900655 5209762194143493600 5212489079905177048 5212892116570103733 5219666640404862078 5233028440317534579 5281672172050905356 5294638443716959948 5305130906047112220 5317467589269379190 533293232872092415 5333940447847632476 5356129408469544919 5357483711101957424 53577880732208605 5360606905099673783 5367720379555559809 5387168689241914674 5389298798316334207 5394941613023254383 5447340478814526834 54855423550623310 5495607003866541921 5509060068099777413 5531843404549935594 5537773006019800010 5575261005901118753 5585298417887737123 5619015460091722138 5624202546242894388 562981246559913779 5636203721351222531 565821351612907790 5659527908169790468 5681861815129081166 5685686986798369517 5704201658500131572 573855439382118019 574299539326718891 575952367332253668 5761873415233972741 5763261649813281321 581329805104468181 5822558752609508091 5831084495787454658 5841653695726307987 5853792966756943488 5860108684231725331 5888525843779206497 5916877048245317213 5977049746020086556 5987770974067822719 600998845896309522 6015909709239590028 6056312283027283868 6068694611635865590 6106758186589717010 6112729762522461468 6118928204495084398 6131334067915698399 6151381817749291079 6152317046425230877 6157534640335305333 6163553270827759087 6166150500733165240 6176450103178853079 6200549489047768835 6204776756014468711 6220086916755017475 6295136114372876325 6302871324792935842 6306348304699022004 6326262103661479924 6345962803626072704 6360992666864919060 6411576796020146635 6441196650915534850 6486626807529291079 6501993735153680131 6515405409101657212 6536087584392566282 6556444311515432407 6558063594523118537 660241337831805204 6621614135285147381 6630738010656775419 6683920079252563978 6719656258133677700 672570726121695013 6747066739558179449 6748114179996522941 6750202040354555455 676965902777963080 6786778168509544517 682274491873781752 6823611985272463914 6835922771926613386 6846318180604402755 68791429988877841 6929394149058840621 6942814329375804992 695893946633948039 6962018899104020525 6984558992135690208 6991033499335250837 7002126486309990682 7004043142383214097 70407987180004669 7043688390471808656 7087371699663613359 7143396152686458431 7174902123892306615 7190595422212573131 7193755697066404029 7199030120425877829 7223094090682507471 7258877458190152819 7264651287706605586 727871655853585494 7288914432739094182 7376887436866901289 7398455674930932470 7406353873031182458 7453933950953202983 7456361490076408009 7468600366217884352 7487491745404429767 7527910484675740831 7528653340019378867 7549307538722317195 756069217127356742 7561941497841929019 7565973642626116232 7594393393143898134 7630614333878801388 7631663945417758667 7648735959780661627 7651935194775108272 7653770046041843074 7658535187610471328 7669542570389801355 7685603406797835371 7692529387714484404 7706266995361183031 7717097885034689735 7739960990069688279 7742056743536037903 7800988372487446763 7807750171704021493 7810815386330201434 7828029103933373108 7840641359469246451 7842224052649319562 7871040755861822600 7871400988371781522 7876380749562137144 78849457177150641 7887325764628733692 7914099146338004751 7918417721700312308 7934260813177360937 7950528230231018194 7980799833586399067 8025419442395314943 8035035416736859024 8053394759554831559 8091988528312788240 8122885039181923333 8143839383226190842 8164521253129739317 8173076531526851503 819674490487190345 8230188563286494058 8240196137473303414 8248575341118134407 8273974295544231241 8281194103447150273 8291344588662555915 8294512905778329867 829481414352493308 8300548885825651709 8300570662155676107 8317966185173962836 8321119226527775237 8333125123008790743 8333159287748754907 8341041181660773101 8343031900333054849 8348840159727542264 8350303324170192991 8352361911407452151 8363271796746967752 8374713163410265017 8376988493439413397 8380034559641552496 8383906017190836089 8397667373497710178 8406964992398057563 8427403130609186562 8457352393125183420 8470793768573589947 8488015001772446612 8491820067614933743 8498120614926182078 8519620345645670909 8564634812336065805 8568197537054905324 8675860802291742457 8691739093245523341 8702156241834018706 8708866331712903190 8712476970917502265 871252903898582465 8730119747510088245 8740491119249365079 8755073441035686192 8792897344874033733 8794538426755590552 8799397525684243439 8828762066905357110 8839027191431993605 885467010654446384 8882645185676685445 8939615490272855926 8957747082342985962 9021974018963436649 9026177583158334158 9033182001766740417 9060807947222167450 9063132295611338571 9066055609438617168 9094184492450977180 9138265704962542843 9149885144370575409 9178964171498209538 9188221901137457004 9194472977650436620 9199512911541942346 9204440531228079312 9208760602289501594 9216089146854100675 9217025424471583602 9256776686342206158 9258970225585006825 9270267985669984014 9287645345724030290 9326032329367935924 9343841776052470216 9360740354718025040 9372715231738170429 9417891802631395052 9434034715570441583 9438585840210694724 9456725078930572920 946311343286843416 9486179325711558089 9514788811957211624 9537380183471018052 9548861120244870157 9554088087165546030 9562597414353034826 9579116799109589182 9633808310430400454 9634045303191909956 9656145585253418624 9686857981684724386 969033425148315049 9694607215696738205 9705949629460322717 9714301357038778298 9714425267121465612 9738642721323792858 9750375429457580736 9788767914283571400 9790775765945250498 9818290015504433494 985719481007450075 9878117098344619581 9893352306937984402 994578777664213213 9991829656483592240 9993300197053530983 9995642456277745493"
end head
open PySem PySem.W PyProof.Rows
set_option Elab.async true
set_option tactic.hygienic true
set_option maxHeartbeats 8000000
theorem head : PySem.Challenge.rw_nz0156_01.Holds := by
  (w_on; o_law; k_head; (case hw => w_witness2); w_strict (k_go0; (all_goals try k_fold); refine law_go (W := Wd.mk _ _ _ _ _ _ _ _ ‹Frag.In _ _› (topRead_of ‹Top _ _ _ _ _ _›)) ?zkf ?zhB ‹Fr _ _ _ _› ‹News _ _ _ _› ?zh1 ?zh2 ?zhm ‹Heap.IsList _ _ _› ‹IntsAre _ _› ?zhz ?zq; (case zkf => constructor <;> kernel_rfl); (case zhB => kernel_rfl); (case zh1 => exact ⟨_, by assumption⟩); (case zh2 => exact ⟨_, by assumption⟩); (case zhm => rfl); (case zhz => exact Int.ofNat_le.mp (Int.le_trans (Int.not_lt.mp ‹¬ _ < (_ : Int)›) (by decide))); (intro s' hs hF; obtain ⟨m', F'⟩ := hF; obtain ⟨g1, g2, g3⟩ := hs; refine goodW_bool (b := true) F' (g1.trans ‹_›) (raisesW_false ?hn) ?hp g3); (case hn => wrow_none_raised); (case hp => first | rfl | kernel_rfl | (simp; done))))
end Mine.Internal
theorem PySem.Challenge.cw_nz0156_01_holds : PySem.Challenge.rw_nz0156_01.Holds := by
  exact Mine.Internal.head
