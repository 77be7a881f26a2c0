import PyProof.Rows.All
import Wide.All
import OpenK.AllK
import Wide.FinOn
import Wide.Txt2
import Lean
import PySem.Challenge.RW_nz0156_01
set_option Elab.async false
set_option maxRecDepth 100000
set_option linter.unusedVariables false
set_option maxHeartbeats 4000000
set_option genSizeOfSpec false
set_option genInjectivity false
set_option genSizeOf false
set_option bootstrap.genMatcherCode false
set_option compiler.extract_closed false
set_option genCtorIdx false
set_option tactic.hygienic false
namespace Mine.Internal
open PySem PySem.W PySem.Calls PyProof.Rows PySem.SeqAt PySem.Challenge
theorem nq1 {α : Type} {a : α} {P : Prop} (h : none = some a) : P := by cases h
theorem nq2 {P : Prop} (h : false = true) : P := by cases h
theorem nq3 {α : Type} {a : α} {P : Prop} (h : a ∈ ([] : List α)) : P := (List.not_mem_nil h).elim
theorem nq4 {α : Type} {a : α} {P : Prop} (h : some a = none) : P := by cases h
local macro_rules | `(tactic| nomatch $e:term) => `(tactic| first | exact nq1 $e | exact nq2 $e | exact nq3 $e | exact nq4 $e | cases $e:term)
open _root_.Nat renaming le_trans->bg,le_refl->Ag,le_of_eq->Bg,le_add_right->Cg,add_le_add_left->Eg,succ_le_succ->Hg,lt_of_lt_of_le->Og,lt_of_le_of_lt->Qg,zero_le->Xg,le_succ_of_le->bf,add_le_add->mf,add_right_comm->tf,le_of_ble_eq_true->vf,succ_add_eq_add_succ->Af,le_succ->Gf,add_assoc->Hf,add_comm->Mf,le_of_succ_le->Pf,add_le_add_right->Qf,zero_add->Tf,le_of_lt->Uf,lt_succ_self->be,lt_add_of_pos_right->se,succ_pos->ye,lt_of_succ_lt_succ->ze,ne_of_lt->Ie,le_of_lt_succ->Oe,mul_le_mul_left->Pe,add_left_cancel->Qe,zero_lt_succ->Ve,succ_lt_succ->We,le_of_not_lt->Xe,le_antisymm->ld,ne_of_gt->qd,sub_self->cc,ble->dc,add_sub_cancel'->ic,eq_of_beq_eq_true->Lc,sub_le->Pc,not_lt_zero->Wc,add_lt_add_of_lt_of_le->xb,sub_pos_of_lt->Fb,lt_succ_of_lt->Gb,lt_succ_of_le->Hb,lt_of_succ_lt->Ib,lt_of_not_le->Qb,exists_eq_add_of_lt->Rb,le_add_left->Wb,add_add_add_comm->xa,add_sub_cancel->Sa,lt_trans->Æ,lt_or_ge->Ç,succ_ne_self->Í,one_pos->Ô,beq->í,sub_lt->õ,le_of_add_le_add_right->ö,add_sub_cancel_left->ă,blt->č,not_succ_le_self->ĝ,mul_le_mul_right->Ğ
open _root_ renaming List->dg,congrArg->eg,Option->gg,Int->kg,if_neg->og,of_decide_eq_true->qg,Bool->wg,if_pos->xg,Nat->yg,decide_eq_true->Dg,decide_eq_false->Ig,DecidableEq->ef,beq_false_of_ne->gf,beq_self_eq_true->jf,Array->Rf,decide_eq_true_iff->ae,and_congr->ud,exists_congr->vd,String->wb,of_decide_eq_false->Nb,Decidable->Zb,Unit->sa,or_iff_left->Ma,or_congr->Na,ite_self->Oa,decide_eq_true_eq->Þ,bne_self_eq_false->á,and_iff_left->â,cond->ô,not_or->Ċ
open PySem renaming wpAny_bind->fg,wpAny_pure->ug,PyData->vg,Value->zg,Shared->Gg,wpAny_mono->Jg,wpAny->Yg,Scope->lf,wpAny_ite_split->Lf,wpAny_holding->Nf,valueAt->Vf,Stmt->Xf,mainGlobals->fe,Pos->re,model->ue,wpAny_call_entry->ve,compareOp->we,starEach->Ae,Heap->Be,swapsWith->Ce,codeAny_builtin->De,wpAny_setState_of->Se,swappedStores->xd,wpAny_callSpecial?_slot->zd,Obj->Fd,sizeLine->Pd,wpAny_standAt->Qd,attributeBase->Rd,Program->Vd,wpAny_isInstance->lc,wpAny_askSetting->mc,wpAny_setItem_pairs->rc,Around->vc,plainId_quiet->wc,cStatics->xc,SetTable->yc,Comprehension->zc,wpAny_specialOf->Ac,backTo->Dc,assignEach->Fc,eval->Nc,codeAny_mono->Oc,codeAny->ab,subscripted->gb,binaryOp->ib,NameKind->jb,World->Ab,intKind->Bb,setItem->Sb,foldedSetIterable->Tb,behindInMarks->Ub,wpAny_typeOf->da,wpAny_rule->ga,wpAny_Name->ia,wpAny_Assign_Subscript->ja,bootBuiltins->oa,Env->Ia,wpAny_seqItems->Ja,wpAny_newTuple->Ka,Sem->Ra,FuncData->Va,standAt->Wa,holding->Xa,cellsFrom->À,DictEntry->Â,swapsWithSole->Ë,operate->Û,getMethod_builtin->Ü,delItem->Ý,call_meetsIn->ß,callEnvC->à,plainObj_wpAny_Assign_Attribute->ç,stored->ð,pyNext->ñ,pyIter->ò,wpAny_letGo->ú,sizeLine_eq->û,cLine->ü,hashInt->ā,getItem->Ă,sysModules->ĉ,wpAny_attempt->Ę,arm_evalThenUse_ListComp->ę
open _root_.Option.some renaming inj->ig
open _root_.List renaming length_append->jg,length_map->ng,append_nil->Fg,mem_append_left->Kg,append_assoc->Lg,map_append->Ng,mem_append_right->Rg,map_map->Vg,getElem?_map->Wg,range->af,getElem?_eq_getElem->sf,nodup_nil->uf,lookup_cons->xf,length_range->Bf,map_cons->Cf,length_filter_le->Df,getElem?_append_right->Kf,mem_singleton->ke,mem_of_getElem?->qe,getElem?_set_self->xe,filter_cons_of_pos->Je,filter_cons_of_neg->Le,any_cons->Ue,getElem?_append_left->ed,find?_cons->jd,mem_cons_of_mem->pd,map_congr_left->wd,reverse_cons->Nd,map_reverse->Xd,length_cons->Yd,idxOf?_cons->Zd,filter_cons->ac,mem_cons->jc,nodup_cons->pc,mem_append->qc,length->uc,toArray->Bc,length_drop->Mc,reverse_reverse->Rc,eq_nil_of_length_eq_zero->Sc,mergeSort_perm->Xc,length_reverse->Yc,getD_eq_getElem?_getD->ub,size_toArray->Cb,map_take->Jb,mem_reverse->Pb,getElem?_eq_none->Xb,mem_map_of_mem->ya,length_take_le->Aa,getElem?_range->Ba,filter_sublist->Ca,zip_cons_cons->Ha,filter_congr->Á,eraseIdx_eq_take_drop_succ->È,eraseIdxIfInBounds_toArray->É,map_id->Î,nil_append->Õ,mem_filter->Ö,length_nil->Ø,head?_drop->Ù,perm_ext_iff_of_nodup->î,drop_eq_getElem_cons->ø,range_succ_eq_map->Ą,drop_eq_nil_of_le->ą,lookup_cons_self->Ď,eq_nil_or_concat->ď,concat_eq_append->Đ,getElem?_set_ne->Ė,reverse_append->ğ,filterMap_cons->Ġ
open _root_.Bool renaming and_eq_true->Sg,false_ne_true->cf,eq_false_or_eq_true->Ff,or_eq_true->Jf,not_eq_true'->Od,and_false->Cc
open _root_.Eq renaming refl->Ug
open _root_.Array renaming length_toList->Zg,getElem?_toList->Sf,getElem?_eq_getElem->Ye,toList_push->Kd,getD_eq_getD_getElem?->Ld,toList_append->ec,forIn_toList->Ga,getElem?_eq_none_iff->æ,getElem?_eq_none->Ā
open _root_.Option renaming map->kf,isSome_map->rf,some_ne_none->Tc,elim->Å,isSome->ë
open _root_.List.cons renaming inj->qf
open PySem.Heap renaming get?_push_size->yf,get?_push_of_some->zf,lt_size->de,SameBut->Ge,get?_update_self->Jc,ExtBut->Ð,get?_update_other->Ĉ
open _root_.Iff renaming rfl->Ef,trans->ć
open PySem.F renaming plain_extend_loop->Yf,slot_dict_get->Bd,entry_extend_loop->Td,entry_dict_get->Ob,slot_zip_next->ca,slot_dict_delitem->Ñ,slot_list_extend->ã,slot_list_append->ä,plain_list_iadd->è,plainAttrs_dict->é,args_dict_get_3->ê,slot_list_pop->ý,plain_set_new->þ
open _root_.Prod.mk renaming inj->Zf
open PySem.PyData renaming eqv->je,canLayAll0->Ze,strOk->Ud,depthAll->Qc,eqvAll->ua,keyHash->Ò,int->Ó
open _root_.Int renaming natCast_nonneg->me,lt_of_le_of_lt->Fe,le_of_lt->Gd,ne_of_lt->Gc,le_trans->Hc,toNat_of_nonneg->db,lt_asymm->Vb,le_antisymm->Yb,add_sub_cancel->Ua,natCast_add->å,eq_ofNat_of_zero_le->Ć,toNat_lt->đ,sub_zero->Ē,le_of_eq->ē,lt_add_one_of_le->Ģ
open PySem.NameKind renaming free->te
open PySem.Around renaming under_plainId->He
open PySem.Builtin.Tuple renaming tupleHashOf->Re
open PySem.Builtin.SmallTypes renaming nextOf->yd
open PySem.W renaming findIn->Ad,sortI_perm->Mb,instObj->na,getL->Fa,emptyDict->Za,sortI->Ì,putName_dict->Ú,nsIn->ó,keepIn->ċ,cellsFrom_some->Č
open PySem.Heap.SameBut renaming update->Hd
open _root_.ForInStep renaming yield->bc
open _root_.Ne renaming symm->gc
open PySem.Builtin.List renaming listExtendWith->Ic,listSameRef->Ä
open PyProof.Rows renaming assign_Name->Uc,subscriptTail->Zc,slot_tupleiter_next->yb
open PySem.W.KasT renaming kasWp_bind->Vc
open _root_.Prod renaming ext->nb
open PyProof.Rows.F renaming entry_set_update_loop->Db
open PySem.Builtin.Dict renaming takeOut->Kb
open PySem.Value renaming ref->aa,isInt_shape->Qa,none->Ě
open _root_.List.Sublist renaming map->ba
open PySem.pickOrder renaming go->ma
open _root_.List.Nodup renaming length_le_of_subset->Da
open PySem.Calls renaming Name_function_global->Ta
open PySem.Builtin.Range renaming rangeSize->Ã
open PySem.Builtin renaming divisionGoesByPylong->Ê
open _root_.List.Perm renaming eq_of_pairwise->Ï,cons_inv->ÿ,swap->ġ
open _root_.Nat.succ renaming inj->ì
open _root_.Classical renaming choose_spec->ï,choose->Ĕ
open _root_.And renaming left->ù
open _root_.Array.Perm renaming refl->ĕ
open PySem.IntMulOk renaming of_left->ė
open PySem.Obj renaming putName->ě,data_mapDictKeys->Ĝ
section
@[elab_as_elim] theorem rL{c:Sort _}{a b:c}{motive:c->Prop}(h:a=b)(m:motive b):motive a:=h▸m
@[elab_as_elim] theorem rR{c:Sort _}{a b:c}{motive:c->Prop}(h:b=a)(m:motive b):motive a:=h▸m
theorem zE{c:Sort _}{R:c->Prop}{Q:Prop}(h:∃a,R a)(k:∀a,R a->Q):Q:=h.elim λx e=>k _ e
theorem zA{P:Prop}{R:Prop}{Q:Prop}(h:P/\R)(k:P->R->Q):Q:=h.elim λx c=>k x c
theorem M8{c:Sort _}{e:Sort _}{R:c->e->Prop}{Q:Prop}(h:∃f,∃a,R f a)(k:∀f,∀a,R f a->Q):Q:=h.elim λm l=>l.elim λx g=>k _ _ g
theorem O8{c:Sort _}{P:c->Prop}{R:c->Prop}{Q:Prop}(h:∃a,P a/\R a)(k:∀a,P a->R a->Q):Q:=h.elim λg f=>f.elim λx e=>k _ x e
theorem aL{P:Prop}{c:Sort _}{R:c->Prop}{Q:Prop}(h:P/\(∃a,R a))(k:P->∀a,R a->Q):Q:=h.elim λx f=>f.elim λg e=>k x _ e
theorem eP{c:Prop}{P:Prop}{R:Prop}{Q:Prop}(h:c/\P/\R)(k:c->P->R->Q):Q:=h.elim λg f=>f.elim λx e=>k g x e
theorem D6{c:Sort _}{e:Sort _}{l:Sort _}{R:c->e->l->Prop}{Q:Prop}(h:∃g,∃f,∃a,R g f a)(k:∀g,∀f,∀a,R g f a->Q):Q:=M8 h λp x n=>n.elim λq m=>k _ _ _ m
theorem Z5{c:Sort _}{e:Sort _}{P:c->e->Prop}{R:c->e->Prop}{Q:Prop}(h:∃f,∃a,P f a/\R f a)(k:∀f,∀a,P f a->R f a->Q):Q:=M8 h λn m l=>l.elim λx g=>k _ _ x g
theorem yL{c:Sort _}{P:c->Prop}{f:Sort _}{R:c->f->Prop}{Q:Prop}(h:∃a,P a/\(∃e,R a e))(k:∀a,P a->∀e,R a e->Q):Q:=O8 h λm x l=>l.elim λn g=>k _ x _ g
theorem e6{c:Sort _}{P:c->Prop}{e:c->Prop}{R:c->Prop}{Q:Prop}(h:∃a,P a/\e a/\R a)(k:∀a,P a->e a->R a->Q):Q:=O8 h λm x g=>g.elim λl f=>k _ x l f
theorem eC{P:Prop}{c:Sort _}{f:Sort _}{R:c->f->Prop}{Q:Prop}(h:P/\(∃e,∃a,R e a))(k:P->∀e,∀a,R e a->Q):Q:=aL h λx m l=>l.elim λn g=>k x _ _ g
theorem fC{P:Prop}{c:Sort _}{e:c->Prop}{R:c->Prop}{Q:Prop}(h:P/\(∃a,e a/\R a))(k:P->∀a,e a->R a->Q):Q:=aL h λx m g=>g.elim λl f=>k x _ l f
theorem hC{e:Prop}{P:Prop}{c:Sort _}{R:c->Prop}{Q:Prop}(h:e/\P/\(∃a,R a))(k:e->P->∀a,R a->Q):Q:=eP h λl x g=>g.elim λm f=>k l x _ f
theorem mH{c:Prop}{P:Prop}{e:Prop}{R:Prop}{Q:Prop}(h:c/\P/\e/\R)(k:c->P->e->R->Q):Q:=eP h λl x g=>g.elim λm f=>k l x m f
theorem T6{e:Sort _}{f:Sort _}{m:Sort _}{c:Sort _}{R:e->f->m->c->Prop}{Q:Prop}(h:∃l,∃g,∃a,∃n,R l g a n)(k:∀l,∀g,∀a,∀n,R l g a n->Q):Q:=D6 h λt x u p=>p.elim λr q=>k _ _ _ _ q
theorem f8{c:Sort _}{e:Sort _}{l:Sort _}{P:c->e->l->Prop}{R:c->e->l->Prop}{Q:Prop}(h:∃g,∃f,∃a,P g f a/\R g f a)(k:∀g,∀f,∀a,P g f a->R g f a->Q):Q:=D6 h λq p r m=>m.elim λx n=>k _ _ _ x n
theorem Bq{c:Sort _}{e:Sort _}{P:c->e->Prop}{g:Sort _}{R:c->e->g->Prop}{Q:Prop}(h:∃f,∃a,P f a/\(∃l,R f a l))(k:∀f,∀a,P f a->∀l,R f a l->Q):Q:=Z5 h λr p x m=>m.elim λq n=>k _ _ x _ n
theorem u8{c:Sort _}{e:Sort _}{g:c->e->Prop}{P:c->e->Prop}{R:c->e->Prop}{Q:Prop}(h:∃f,∃a,g f a/\P f a/\R f a)(k:∀f,∀a,g f a->P f a->R f a->Q):Q:=Z5 h λq p n l=>l.elim λx m=>k _ _ n x m
theorem Cq{c:Sort _}{P:c->Prop}{g:Sort _}{f:Sort _}{R:c->g->f->Prop}{Q:Prop}(h:∃a,P a/\(∃e,∃l,R a e l))(k:∀a,P a->∀e,∀l,R a e l->Q):Q:=yL h λq x r m=>m.elim λp n=>k _ x _ _ n
theorem Dq{c:Sort _}{P:c->Prop}{f:Sort _}{g:c->f->Prop}{R:c->f->Prop}{Q:Prop}(h:∃a,P a/\(∃e,g a e/\R a e))(k:∀a,P a->∀e,g a e->R a e->Q):Q:=yL h λp x q l=>l.elim λn m=>k _ x _ n m
theorem dC{c:Sort _}{P:c->Prop}{g:c->Prop}{e:Sort _}{R:c->e->Prop}{Q:Prop}(h:∃a,P a/\g a/\(∃f,R a f))(k:∀a,P a->g a->∀f,R a f->Q):Q:=e6 h λq x n l=>l.elim λp m=>k _ x n _ m
theorem Fq{c:Sort _}{P:c->Prop}{f:c->Prop}{e:c->Prop}{R:c->Prop}{Q:Prop}(h:∃a,P a/\f a/\e a/\R a)(k:∀a,P a->f a->e a->R a->Q):Q:=e6 h λp x n g=>g.elim λm l=>k _ x n m l
theorem Gq{P:Prop}{e:Sort _}{g:Sort _}{c:Sort _}{R:e->g->c->Prop}{Q:Prop}(h:P/\(∃f,∃a,∃l,R f a l))(k:P->∀f,∀a,∀l,R f a l->Q):Q:=eC h λx p r m=>m.elim λq n=>k x _ _ _ n
theorem Hq{g:Prop}{c:Sort _}{f:Sort _}{P:c->f->Prop}{R:c->f->Prop}{Q:Prop}(h:g/\(∃e,∃a,P e a/\R e a))(k:g->∀e,∀a,P e a->R e a->Q):Q:=eC h λn p q l=>l.elim λx m=>k n _ _ x m
theorem Iq{P:Prop}{c:Sort _}{g:c->Prop}{e:Sort _}{R:c->e->Prop}{Q:Prop}(h:P/\(∃a,g a/\(∃f,R a f)))(k:P->∀a,g a->∀f,R a f->Q):Q:=fC h λx p n l=>l.elim λq m=>k x _ n _ m
theorem F0{e:Prop}{c:Sort _}{f:c->Prop}{P:c->Prop}{R:c->Prop}{Q:Prop}(h:e/\(∃a,f a/\P a/\R a))(k:e->∀a,f a->P a->R a->Q):Q:=fC h λm p n g=>g.elim λx l=>k m _ n x l
theorem Jq{g:Prop}{P:Prop}{e:Sort _}{c:Sort _}{R:e->c->Prop}{Q:Prop}(h:g/\P/\(∃a,∃f,R a f))(k:g->P->∀a,∀f,R a f->Q):Q:=hC h λn x q l=>l.elim λp m=>k n x _ _ m
theorem gC{f:Prop}{P:Prop}{c:Sort _}{e:c->Prop}{R:c->Prop}{Q:Prop}(h:f/\P/\(∃a,e a/\R a))(k:f->P->∀a,e a->R a->Q):Q:=hC h λn x p g=>g.elim λm l=>k n x _ m l
theorem WJ{e:Prop}{P:Prop}{f:Prop}{c:Sort _}{R:c->Prop}{Q:Prop}(h:e/\P/\f/\(∃a,R a))(k:e->P->f->∀a,R a->Q):Q:=mH h λm x n g=>g.elim λp l=>k m x n _ l
theorem XJ{e:Prop}{P:Prop}{f:Prop}{c:Prop}{R:Prop}{Q:Prop}(h:e/\P/\f/\c/\R)(k:e->P->f->c->R->Q):Q:=mH h λn x p g=>g.elim λm l=>k n x p m l
inductive KI where
 |int (i:kg)
 |str (s:Str)
 |tup (l:dg kg)
noncomputable def KI.ctorIdx(x:KI):yg:=KI.casesOn x (λz'=>0) (λz'=>1) (λz'=>2)
deriving noncomputable instance ef for KI
noncomputable def KI.a9:KI->vg
 | .int i=> .int i
 | .str s=> .str s
 | .tup l=> .tuple (l.map .int)
noncomputable def KI.draws:KI->yg
 | .int _=>1
 | .str _=>1
 | .tup l=>l.length+1
noncomputable def KI.hash(prog:Vd)(w:Ab):KI->kg
 | .int i=>ā i
 | .str s=>hashStr w s
 | .tup l=>tupleKeyHash (Bb prog w) l
theorem yR{e:Type}[ef e]{f:e->vg}(h:∀a b,je (f a) (f b)=decide (a=b)):∀a b:dg e,ua (a.map f) (b.map f)=decide (a=b):=by
 intro a;induction a with
 |nil=>
  intro b;cases b with
  |nil=>rfl
  |cons=>rfl
 |cons x a i=>
  intro b;cases b with
  |nil=>rfl
  |cons y b=>
   show(je _ _&&ua _ _)=_;rw [h,i,<-Bool.decide_and];exact decide_eq_decide.mpr List.cons_eq_cons.symm
theorem KI.eqv(a b:KI):je a.a9 b.a9=decide (a=b):=by
 haveI n:∀{p} [Zb p],¬p->false=decide p:=λh=>(Ig h).symm;cases a with
 |int i=>cases b with
  |int j=>exact(by rfl:_=decide (i=j)).trans (decide_eq_decide.mpr ⟨eg _,λe=>by injection e⟩)
  |_=>exact n (λe=>(by nomatch e))
 |str i=>cases b with
  |str j=>exact(by rfl:_=decide (i=j)).trans (decide_eq_decide.mpr ⟨eg _,λe=>by injection e⟩)
  |_=>exact n (λe=>(by nomatch e))
 |tup i=>cases b with
  |tup j=>exact(yR (λz' z'=>by rfl) i j).trans (decide_eq_decide.mpr ⟨eg _,λe=>by injection e⟩)
  |_=>exact n (λe=>(by nomatch e))
section
variable{α β:Type}{R R':α->β->Prop}
inductive r9(R:α->β->Prop):dg α->dg β->Prop
 |nil:r9 R [] []
 |cons {x:α} {y:β} {xs:dg α} {c:dg β} (r:R x y) (e:r9 R xs c):r9 R (x::xs) (y::c)
theorem r9.mono{xs:dg α}{c:dg β}(r:r9 R xs c)(h:∀x∈xs,∀y,R x y->R' x y):r9 R' xs c:=by
 induction r with
 |nil=>exact .nil
 |cons r _ i=>exact .cons (h _ (.head _) _ r) (i λx m=>h x (.tail _ m))
theorem r9.length{xs:dg α}{y:dg β}(r:r9 R xs y):xs.length=y.length:=by
 induction r with
 |nil=>rfl
 |cons _ _ i=>exact eg _ i
theorem r9.append{xs us:dg α}{y vs:dg β}(r:r9 R xs y)(q:r9 R us vs):r9 R (xs++us) (y++vs):=by
 induction r with
 |nil=>exact q
 |cons r _ i=>exact .cons r i
theorem r9.take{xs:dg α}{y:dg β}(r:r9 R xs y):∀n,r9 R (xs.take n) (y.take n):=by
 induction r with
 |nil=>intro n;refine rL List.take_nil (rL List.take_nil ?_);exact .nil
 |cons r _ i=>intro n;cases n with
  |zero=>exact .nil
  |succ n=>exact .cons r (i n)
theorem r9.reverse{xs:dg α}{y:dg β}(r:r9 R xs y):r9 R xs.reverse y.reverse:=by
 induction r with
 |nil=>exact .nil
 |cons r _ i=>refine rL Nd (rL Nd ?_);exact i.append (.cons r .nil)
end
theorem r9.nil_inv{e c:Type}{R:e->c->Prop}{y:dg c}(r:r9 R [] y):y=[]:=by cases r;rfl
theorem r9.sI{e c:Type}{R:e->c->Prop}{xs:dg e}(r:r9 R xs []):xs=[]:=by cases r;rfl
theorem r9.cons_inv{f g:Type}{R:f->g->Prop}{x:f}{xs:dg f}{e:dg g}(r:r9 R (x::xs) e):∃y c,e=y::c/\R x y/\r9 R xs c:=by cases r with|cons r q=>exact⟨_,_,rfl,r,q⟩
theorem r9.vM{g e:Type}{R:g->e->Prop}{xs:dg g}{y:e}{f:dg e}(r:r9 R xs (y::f)):∃x c,xs=x::c/\R x y/\r9 R c f:=by cases r with|cons r q=>exact⟨_,_,rfl,r,q⟩
section
variable{α β:Type}(prog:Vd)(w:Ab)
noncomputable def LY(h:Be):KI->zg->Prop
 | .int i,v=>∃t,v= .int i t
 | .str s,v=>Ud s=true/\∃t,v= .str s t
 | .tup l,v=>∃a,v= .ref a/\IsTupleKey (Bb prog w) h l a
def K6(h:Be)(k:dg KI)(a:yg):Prop:=∃o items n,h.get? a=some o/\o.cls= .type "tuple"/\o.data= .seq items n/\r9 (LY prog w h) k items.toList
variable{prog w}{h h':Be}{k a b:KI}{v:zg}{ks x y:dg KI}{vs:dg zg}{d i j:yg}{o:Fd}{es:Rf Â}{ep:yg}
noncomputable def Kq:zg->gg KI
 | .int i _=>some (.int i)
 | .str s _=>some (.str s)
 |_=>none
theorem LY.vk(x:LY prog w h k v):Kq v=some k\/Kq v=none/\∃a l,v= .ref a/\k= .tup l/\IsTupleKey (Bb prog w) h l a:=by
 cases k with
 |int i=>exact .inl (x.elim λt e=>eg _ e)
 |str s=>exact .inl (x.2.elim λt e=>eg _ e)
 |tup l=>exact .inr (x.elim λa x=>⟨eg _ x.1,a,l,x.1,rfl,x.2⟩)
theorem LY.inj(x:LY prog w h a v)(y:LY prog w h b v):a=b:=
 x.vk.elim (λp=>y.vk.elim (λq=>ig (p.symm.trans q)) λq=>(by nomatch p.symm.trans q.1)) λp=>y.vk.elim (λq=>(by nomatch p.1.symm.trans q)) λq=>M8 p.2 λi l p=>M8 q.2 λj m q=>by
  exact rL p.2.1 (rL q.2.1 (rL (p.2.2.inj (Value.ref.inj (p.1.symm.trans q.1)▸q.2.2)) rfl))
theorem bZ.inj(p:r9 (LY prog w h) x vs):∀{y},r9 (LY prog w h) y vs->x=y:=by
 induction p with
 |nil=>exactλ{y} q=>q.sI.symm
 |cons p _ i=>exactλ{y} q=>M8 q.vM λk e r=>by rw [r.1,p.inj r.2.1,i r.2.2]
noncomputable def Mj:Data->Rf zg
 | .seq i _=>i
 |_=>#[]
theorem K6.inj(hx:K6 prog w h x d)(c:K6 prog w h y d):x=y:=
 D6 hx λo f n hx=>M8 c λo' i c=>c.elim λg c=>
  haveI e:f=i:=eg Mj (hx.2.2.1.symm.trans ((eg _ (ig (hx.1.symm.trans c.1))).trans c.2.2.1))
  bZ.inj hx.2.2.2 (e▸c.2.2.2)
theorem LY.keeps(c:h.get? d=some o)(hd:o.data= .dict es ep)(hs:Ge d h h')(x:LY prog w h k v):LY prog w h' k v:=by
 cases k with
 |tup l=>exact x.imp λa x=>⟨x.1,x.2.keeps c hd hs⟩
 |_=>exact x
theorem K6.keeps(x:K6 prog w h ks i)(c:h.get? d=some o)(hd:o.data= .dict es ep)(hs:Ge d h h'):K6 prog w h' ks i:=
 x.imp λo' x=>x.imp λitems x=>x.imp λn x=>⟨(hs.2 i λe=>by
  haveI q:=ig (c.symm.trans (e▸x.1));have q:=hd.symm.trans (q▸x.2.2.1);cases q).trans x.1,x.2.1,x.2.2.1,x.2.2.2.mono λz' z' z' r=>r.keeps c hd hs⟩
theorem K6.typeIs{s:Gg}(x:K6 prog w s.heap ks i):s.TypeIs (.ref i) "tuple":=D6 x λo z' z' x=>⟨o,x.1,x.2.1⟩
theorem Ch{l:dg kg}(r:ItemsAre (Bb prog w) l vs):∃as,ReadsAll h vs (l.map .int) as:=by
 induction r with
 |nil=>exact⟨_,.nil⟩
 |cons p _ i=>exact i.elim λas q=>(Qa p).elim λt e=>⟨_,by refine rL e ?_;exact ReadsAll.cons (.int _ t) q⟩
theorem LY.reads(x:LY prog w h k v):∃as,Reads h v k.a9 as:=by
 cases k with
 |int i=>exact x.elim λt e=>⟨_,by refine rL e ?_;exact .int i t⟩
 |str i=>exact x.2.elim λt e=>⟨_,by refine rL e ?_;exact .str i t⟩
 |tup l=>exact x.elim λa x=>D6 x.2 λo z' n r=>(Ch r.2.2.2).elim λas q=>⟨_,by refine rL x.1 ?_;exact .tuple r.1 r.2.1 r.2.2.1 q⟩
theorem bZ.reads(x:r9 (LY prog w h) ks vs):∃as,ReadsAll h vs (ks.map KI.a9) as:=by
 induction x with
 |nil=>exact⟨_,.nil⟩
 |cons p _ i=>exact p.reads.elim λas q=>i.elim λbs r=>⟨_,.cons q r⟩
theorem Fh(l:dg kg):Ze (l.map .int)=true/\Qc (l.map .int)<=0:=by
 induction l with
 |nil=>exact⟨rfl,Ag 0⟩
 |cons x l i=>exact⟨i.1,Nat.max_le.mpr ⟨Ag 0,i.2⟩⟩
theorem LY.lay(x:LY prog w h k v):k.a9.canLay0=true/\k.a9.depth<=1:=by
 cases k with
 |int i=>exact⟨rfl,Xg _⟩
 |str i=>exact⟨x.1,Xg _⟩
 |tup l=>exact⟨(Fh l).1,Hg (Fh l).2⟩
theorem bZ.lay(x:r9 (LY prog w h) ks vs):Ze (ks.map KI.a9)=true/\Qc (ks.map KI.a9)<=1:=by
 induction x with
 |nil=>exact⟨rfl,Xg _⟩
 |cons p _ i=>exact⟨(Sg _ _).mpr ⟨p.lay.1,i.1⟩,Nat.max_le.mpr ⟨p.lay.2,i.2⟩⟩
variable{A:vc}{E:zg->Gg->Prop}{s:Gg}
theorem QQ{Q:wg->Gg->Prop}(e:A.units+8<ü)(hx:K6 prog w s.heap x i)(c:K6 prog w s.heap y j)(h:Q (decide (x=y)) s):Yg (ue prog w) A (eqBool (.ref i) (.ref j)) Q E s:=
 D6 hx λo g n hx=>D6 c λo' f l c=>(bZ.reads hx.2.2.2).elim λas r=>(bZ.reads c.2.2.2).elim λbs q=>
  eqBoolOverData _ w A E s _ _ _ _ _ _ Q (.tuple hx.1 hx.2.1 hx.2.2.1 r) (.tuple c.1 c.2.1 c.2.2.1 q) (bZ.lay hx.2.2.2).1 (bZ.lay c.2.2.2).1
   (Qg (Eg (bg (Nat.min_le_left _ _) (bg (Hg (bZ.lay hx.2.2.2).2) (by decide))) _) e) ((eg (λb=>Q b s) (yR KI.eqv x y)).mpr h)
theorem XK{Q:kg->Gg->Prop}(q:A.units<ü)(x:LY prog w s.heap k v)(h:Q (k.hash prog w) {s with toks:=s.toks+k.draws}):Yg (ue prog w) A (pyHash v) Q E s:=by
 cases k with
 |int i=>exact x.elim λt e=>e▸wpAny_pyHash_int h
 |str i=>exact x.2.elim λt e=>e▸wpAny_pyHash_str h
 |tup l=>exact x.elim λa x=>x.1▸wpAny_pyHash_tuple q x.2 h
noncomputable def nU(k:dg KI):yg:=(k.map KI.draws).sum
noncomputable def ZT(prog:Vd)(w:Ab)(k:dg KI):kg:=reduceHash (Re (k.map (KI.hash prog w)))
theorem vQ{Q:kg->Gg->Prop}(B:A.units+8<ü)(e:K6 prog w s.heap ks i)(h:Q (ZT prog w ks) {s with toks:=s.toks+(nU ks+1)}):Yg (ue prog w) A (pyHash (.ref i)) Q E s:=by
 haveI q:=e.typeIs;refine D6 e λo D n e=>(fg (wpAny_cRoomFor_or (.inr (Qg (Cg _ _) B)) ?_));refine fg (Ac q F.slot_tuple_hash.lookup ?_);refine fg (Ac q F.slot_tuple_hash.lookup ?_);refine fg (wpAny_callSpecialIfBoundUnlessNone?_slot q F.slot_tuple_hash (ve F.slot_tuple_hash q F.entry_tuple_hash ?_ (F.args_tuple_hash_1 _)));show Yg _ _ (Builtin.Tuple.tupleItemsOf _>>=_) _ _ s;refine fg (wpAny_tupleItemsOf e.1 e.2.2.1 ?_);refine fg (rR Ga ?_);refine wpAny_forIn_list _ (λrest (b) s'=>∃left t,r9 _ left rest/\s'={s with toks:=t}/\b.toList++left.map _=ks.map (KI.hash prog w)/\t+nU left=s.toks+nU _) _ (λx z' b z' I=> ?_) (λb z' I=> ?_) _ _ ⟨ks,s.toks,e.2.2.2,rfl,rfl,rfl⟩
 ·refine M8 I λleft t I=> ?_;refine rL I.2.1 (M8 I.1.vM λk u r=> ?_);haveI m:=r.1▸I.2.2.1;haveI f:=r.1▸I.2.2.2;exact fg (XK (Qg (Eg (by decide) _) B) r.2.1 (ug ⟨u,t+k.draws,r.2.2,rfl,by rw [Kd,Lg];exact m,(Hf ..).trans f⟩))
 ·refine M8 I λleft t I=> ?_;haveI m:=I.2.2.1;haveI f:=I.2.2.2;rw [I.1.sI] at m f;haveI f:t+1=s.toks+(nU _+1):=eg _ f;refine rL I.2.1 ?_;show Yg _ _ (retInt _) _ _ _;refine rL (((Fg _).symm.trans m)) (wpAny_ret_mkInt ?_);have h:=f.symm▸h;unfold ZT reduceHash at h;show Yg _ _ (if(decide (-(2)^63<=Re _)&&decide (Re _<2^63))=true then _ else _) Q E _;by_cases C:(decide (-(2)^63<=Re (ks.map (KI.hash prog w)))&&decide (Re (ks.map (KI.hash prog w))<2^63))=true
  ·rw [xg C] at h⊢;exact ug h
  ·rw [og C] at h⊢;exact fg (ga (ug h))
theorem RY{m n:yg}{c:Rf zg}{Q:wg->Gg->Prop}(e:s.TypeIs (.ref i) "tuple")(f:s.heap.get? i=some o)(hd:o.data= .seq c n)(H:∀v∈c.toList,∀{Q},Q true s->Yg (ue prog w) A (eqIsQuiet m v) Q E s)(h:Q true s):Yg (ue prog w) A (eqIsQuiet (m+1) (.ref i)) Q E s:=by
 unfold eqIsQuiet;refine fg (Ac e F.slot_tuple_eq.lookup ?_);refine fg (lc e isSubtype_tuple_tuple ?_);refine fg (Ja f hd ?_);refine fg (rR Ga ?_);refine wpAny_forIn_list _ (λrest r s'=>r.1=none/\s'=s/\∀v∈rest,v∈c.toList) _ (λv z' r z' I=>(rL I.2.1 (fg (H v (I.2.2 v (.head _)) (ug ⟨rfl,rfl,λu m=>I.2.2 u (.tail _ m)⟩))))) (λr z' I=> ?_) _ _ ⟨rfl,rfl,λz' m=>m⟩
 ·refine rL I.2.1 (rL (show r=(none,()) from nb I.1 rfl) ?_);exact ug h
theorem uQ{m:yg}{Q:wg->Gg->Prop}(x:LY prog w s.heap k v)(h:Q true s):Yg (ue prog w) A (eqIsQuiet (m+1) v) Q E s:=by
 cases k with
 |int i=>exact x.elim λt e=>by refine rL e ?_;exact ug h
 |str i=>exact x.2.elim λt e=>by refine rL e ?_;exact ug h
 |tup l=>
  refine x.elim λa x=>(rL x.1 ?_);exact D6 x.2 λo p n r=>RY x.2.typeIs r.1 r.2.2.1 (λv m {Q} h=>by refine rL (eqIsQuiet_byValue _ (r.2.2.2.byValue v m)) ?_;exact ug h) h
theorem r9.each{R:α->β->Prop}{xs:dg α}{y:dg β}(x:r9 R xs y):∀v∈y,∃k,R k v:=by
 induction x with
 |nil=>exactλz' m=>(by nomatch m)
 |cons r _ i=>exactλv m=>(List.mem_cons.mp m).elim (λe=>⟨_,e▸r⟩) (i v)
noncomputable def TZ(prog:Vd)(w:Ab):HeapKind prog w (dg KI) where
 is:=K6 prog w
 hash:=ZT prog w
 draws:=λe=>nU e+1
 room:=λA=>A.units+8<ü
 inj:=K6.inj
 keeps:=K6.keeps
 pyHash:=vQ
 eqBool:=QQ
 quiet:=λc h=>c.elim λo r=>r.elim λi r=>r.elim λn r=>RY c.typeIs r.1 r.2.2.1 (λv m {Q} h=>(r.2.2.2.each v m).elim λk q=>uQ q h) h
end
section
variable{prog:Vd}{w:Ab}{A:vc}{E:zg->Gg->Prop}{s:Gg}
variable{K:Type}[ef K]{knd:HeapKind prog w K}
noncomputable def a4(xs:dg (K×yg×zg))(k:K):dg (K×yg×zg):=xs.filter λx=> !decide (x.1=k)
theorem xZ{k:K}{p:yg×zg}{xs:dg (K×yg×zg)}:∀{j},(xs.map (·.1)).Nodup->xs[j]? =some (k,p)->a4 xs k=xs.eraseIdx j:=by
 induction xs with
 |nil=>exactλz' h=>(by nomatch h)
 |cons x _ i=>
  intro j hn c;have hn:=List.nodup_cons.mp hn;cases j with
  |zero=>
   have e:=ig c;refine(Le (by refine rL e (rL (Dg rfl) ?_);exact cf)).trans (List.filter_eq_self.mpr λy m=> ?_);refine rL (Ig λq=>hn.1 (List.mem_map.mpr ⟨y,m,by rw [q,e]⟩)) ?_;rfl
  |succ j=>
   exact(Je (by refine rL (Ig (λq=>hn.1 (List.mem_map.mpr ⟨(k,p),qe c,q.symm⟩))) ?_;rfl)).trans (eg _ (i hn.2 c))
theorem WX{e g:Type}{f:e->g}{l:dg e}:∀{j},(l.map f).eraseIdx j=(l.eraseIdx j).map f:=by
 induction l with
 |nil=>exactλ{j}=>rfl
 |cons x l i=>exactλ{j}=>Nat.casesOn j rfl λj=>eg _ i
theorem xX{d a:yg}{xs:dg (K×yg×zg)}{k:K}{Q:gg Â->Gg->Prop}(q:knd.room A)(h:knd.is s.heap k a)(hm:s.heap.DictOfH knd d xs)(r:(atKey xs k).isSome=true)
  (z:∀e h',h'.DictOfH knd d (a4 xs k)->Ge d s.heap h'->Q (some e) {s with heap:=h',toks:=s.toks+knd.draws k})
  (hsz:xs.length<=Pd):
  Yg (ue prog w) A (Kb d (.ref a)) Q E s:=by
 refine f8 hm λo es ep f u=>XJ u λB hd g c hn=> ?_;unfold Kb
 try with_reducible refine Nf ?_
 refine fg (knd.pyHash q h ?_);refine fg (wpAny_dictFind_heap q h f hd g c hn ?_ ?_)
 ·intro m;have r:=atKey_none_of_get m▸r;exact(by nomatch r)
 ·intro j p n;refine fg (wpAny_dictEntries f hd ?_);refine rL (entry_at g j) (rL n ?_);refine fg (wpAny_updateDictKeys (hz:=by haveI e:=size_of_entries g;lia) f hd (ug (z _ _ ⟨_,_,ep+1,Jc _ f (Obj.isFreed_of_dict (Ĝ hd _)),
   B.mapDictKeys _,Ĝ hd _,?_,?_,?_⟩ (Hd ..))))
  ·refine rL (xZ hn n) ?_;obtain⟨l⟩:=es;subst g;simp only [É];exact WX
  ·intro x hx;exact knd.keeps (c x (List.mem_filter.mp hx).1) f hd (Hd ..)
  ·exact hn.sublist (ba _ Ca)
theorem tW{d a:yg}{xs:dg (K×yg×zg)}{k:K}{Q:sa->Gg->Prop}(m:knd.room A.in1)(h:knd.is s.heap k a)(hm:s.heap.DictOfH knd d xs)(n:(atKey xs k).isSome=true)
  (p:∀h' t,h'.DictOfH knd d (a4 xs k)->Ge d s.heap h'->Q () {s with heap:=h',toks:=t})
  (hsz:xs.length<=Pd):
  Yg (ue prog w) A (Ý (.ref d) (.ref a)) Q E s:=by
 refine wpAny_delItem_slot hm.typeIs (by decide) F.slot_dict_delitem (ve F.slot_dict_delitem hm.typeIs F.entry_dict_delitem ?_ (F.args_dict_delitem_2 _ _));refine fg (fg (wpAny_notOrdered_dict hm.typeIs ?_));refine ug ?_;show Yg _ _ (Kb d _>>=_) _ _ s;exact fg (xX m h hm n (λe h' c f=>(fg (ú (ug ⟨.none,rfl,p _ _ c f⟩)))) hsz)
end
end
section
noncomputable def f9{K a:Type}[ef K](f:K->gg a)(k:K)(u:a):K->gg a:=λx=>if x=k then some u else f x
noncomputable def H9{K a:Type}[ef K](f:K->gg a)(k:K):K->gg a:=λx=>if x=k then none else f x
noncomputable def j7(t:kg):wg:=decide (0<=t)&&decide (t<500)
def vq{K α:Type}(f:K->gg α):Prop:=∃L:dg K,(∀k,(f k).isSome=true->k∈L)/\L.length<=1000000
section
variable{K:Type}[ef K]
theorem I9{p:K×zg}{kvs:dg (K×zg)}{x:K}:Vf (p::kvs) x=if p.1=x then some p.2 else Vf kvs x:=by
 unfold Vf;by_cases h:p.1=x
 ·simp [h]
 ·simp [h]
theorem QW{kvs:dg (K×zg)}{k x:K}{v:zg}:Vf (kvs.map λb=>if b.1=k then(b.1,v) else b) x=if x=k then(Vf kvs k).map λz'=>v else Vf kvs x:=by
 induction kvs with
 |nil=>unfold Vf;split<;>rfl
 |cons p _ i=>
  refine rL Cf (rL I9 ?_);rw [I9,I9,i];by_cases a:p.1=k
  ·refine rL (xg a) ?_;by_cases h:x=k
   ·refine rL (xg h) (rL (xg h) ?_);refine rL (xg (a.trans h.symm)) (rL (xg a) ?_);rfl
   ·refine rL (og h) (rL (og h) ?_);rw [og λe=>h (e.symm.trans a),og λe=>h (e.symm.trans a)]
  ·refine rL (og a) ?_;by_cases h:x=k
   ·exact rL (xg h) (rL (xg h) (rL (og λe=>a (e.trans h)) (rL (og a) rfl)))
   ·exact rL (og h) (rL (og h) rfl)
theorem AZ{kvs ls:dg (K×zg)}{x:K}:Vf (kvs++ls) x=match Vf kvs x with|some v=>some v|none=>Vf ls x:=by
 induction kvs with
 |nil=>rfl
 |cons p _ i=>
  refine rL I9 (rL I9 (rL i ?_));split<;>rfl
theorem P3{kvs:dg (K×zg)}{k:K}(h:¬kvs.any (λa=>decide (a.1=k))=true):Vf kvs k=none:=by
 induction kvs with
 |nil=>rfl
 |cons p _ i=>
  rw [Ue,Jf,Ċ] at h;exact rL I9 (rL (og (by simpa using h.1)) (rL (i h.2) rfl))
theorem u5{kvs:dg (K×zg)}{k:K}(h:kvs.any (λa=>decide (a.1=k))=true):∃v,Vf kvs k=some v:=by
 induction kvs with
 |nil=>simp at h
 |cons p _ i=>
  refine rL I9 ?_;by_cases q:p.1=k
  ·exact⟨_,xg q⟩
  ·refine rL (og q) ?_;refine i ?_;rw [Ue,Jf] at h;exact h.resolve_left (by simpa using q)
theorem f6{kvs:dg (K×zg)}{k x:K}{v:zg}:Vf (ð kvs k v) x=if x=k then some v else Vf kvs x:=by
 unfold ð;split
 ·rename_i h;refine zE (u5 h) λu a=> ?_;refine rL QW (rL a ?_);rfl
 ·rename_i h;refine rL AZ ?_;by_cases q:x=k
  ·refine rL q ?_;refine rL (P3 h) (rL (xg rfl) ?_);dsimp only;rw [I9,xg rfl]
  ·refine rL (og q) ?_;cases Vf _ x with
   |some u=>rfl
   |none=>dsimp only;refine rL I9 (rL (og (gc q)) ?_);rfl
theorem dZ{kvs:dg (K×zg)}{k x:K}:Vf (without kvs k) x=if x=k then none else Vf kvs x:=by
 unfold without;induction kvs with
 |nil=>split<;>rfl
 |cons p _ i=>
  refine rL ac ?_;by_cases q:p.1=k
  ·refine rL (og (by simpa using q)) (rL i (rL I9 ?_));by_cases h:x=k
   ·exact rL (xg h) (rL (xg h) rfl)
   ·exact rL (og h) (rL (og h) (rL (og λe=>h (e.symm.trans q)) rfl))
  ·refine rL (xg (by simpa using q)) ?_;refine rL I9 (rL I9 (rL i ?_));by_cases h:x=k
   ·exact rL (xg h) (rL (xg h) (rL (og λe=>q (e.trans h)) rfl))
   ·exact rL (og h) (rL (og h) rfl)
end
end
set_option genCtorIdx true
inductive LK where
 |mem|use|b8|C9
set_option genCtorIdx false
inductive Tg where
 |bank|house|root|value|up|table|sides|told|queue|trail|marks
 |C7 (k:LK)|ls (k:LK) (t:kg)
 |bk (k:yg)|Z8 (k:yg)|byr (k:yg)|feed|state|levels|lwat|lvl (i:yg)|news|ltold|fresh
noncomputable def Tg.ctorIdx(x:Tg):yg:=Tg.casesOn x 0 1 2 3 4 5 6 7 8 9 10 (λz'=>11) (λz' z'=>12) (λz'=>13) (λz'=>14) (λz'=>15) 16 17 18 19 (λz'=>20) 21 22 23
noncomputable def LK.code:LK->kg
 | .mem=>0
 | .use=>1
 | .b8=>2
 | .C9=>3
noncomputable def LK.of:kg->LK
 |0=> .mem
 |1=> .use
 |2=> .b8
 |_=> .C9
noncomputable def Tg.code:Tg->yg×kg
 | .bank=>(0,0)
 | .house=>(1,0)
 | .root=>(2,0)
 | .value=>(3,0)
 | .up=>(4,0)
 | .table=>(5,0)
 | .sides=>(6,0)
 | .told=>(7,0)
 | .queue=>(8,0)
 | .trail=>(9,0)
 | .marks=>(10,0)
 | .C7 k=>(11,k.code)
 | .ls .mem t=>(12,t)
 | .ls .use t=>(13,t)
 | .ls .b8 t=>(14,t)
 | .ls .C9 t=>(15,t)
 | .bk k=>(16,k)
 | .Z8 k=>(17,k)
 | .byr k=>(18,k)
 | .feed=>(19,0)
 | .state=>(20,0)
 | .levels=>(21,0)
 | .lwat=>(22,0)
 | .lvl k=>(23,k)
 | .news=>(24,0)
 | .ltold=>(25,0)
 | .fresh=>(26,0)
noncomputable def Tg.of(k:yg)(t:kg):Tg:=
 match k with
 |0=> .bank
 |1=> .house
 |2=> .root
 |3=> .value
 |4=> .up
 |5=> .table
 |6=> .sides
 |7=> .told
 |8=> .queue
 |9=> .trail
 |10=> .marks
 |11=> .C7 (.of t)
 |12=> .ls .mem t
 |13=> .ls .use t
 |14=> .ls .b8 t
 |15=> .ls .C9 t
 |16=> .bk t.toNat
 |17=> .Z8 t.toNat
 |18=> .byr t.toNat
 |19=> .feed
 |20=> .state
 |21=> .levels
 |22=> .lwat
 |23=> .lvl t.toNat
 |24=> .news
 |25=> .ltold
 |_=> .fresh
theorem Tg.LX(τ:Tg):Tg.of τ.code.1 τ.code.2=τ:=by
 cases τ with
 |C7 k=>cases k<;>rfl
 |ls k t=>cases k<;>rfl
 |_=>rfl
theorem Tg.inj{τ a:Tg}(e:τ.code=a.code):τ=a:=by rw [<-τ.LX,e,a.LX]
noncomputable instance Tg.dec:ef Tg:=λτ τ'=>
 match instDecidableEqProd τ.code τ'.code with
 | .isTrue e=> .isTrue (Tg.inj e)
 | .isFalse n=> .isFalse λe=>n (eg Tg.code e)
noncomputable def Tg.T9(τ:Tg):wg:=í τ.code.1 17
theorem Tg.EH{τ:Tg}(h:τ.T9=true):τ= .Z8 τ.code.2.toNat:=by
 haveI e:=τ.LX;exact(Lc h▸e).symm
noncomputable abbrev S(x:wb):Str:=PySem.Str.ofString x
noncomputable def ao:dg Str:=[S "bank",S "root",S "members",S "uses",S "value",S "apart",S "watchers",S "up",S "table",S "sides",S "told",S "news",S "queue",S "clash",S "clash_level",S "trail",S "marks",
 S "sort_names",S "sort_widths",S "fun_names",S "fun_args",S "fun_results",S "fresh_count",S "term_ops",S "term_args",S "term_sorts",S "term_datas",S "numbers",S "true_number",S "false_number"]
noncomputable def an(i:yg):Str:=ao.getD i ⟨#[]⟩
theorem iD{i j:yg}(a:i<30)(h:j<30)(e:an i=an j):i=j:=by
 haveI n:ao.Nodup:=by decide+kernel
 unfold an at e;rw [ub,ub,sf (a),sf (h)] at e;exact(List.getElem_inj n).mp e
inductive AV where
 |a9 (d:vg)
 |g9 (τ:Tg)
 |range (n:kg)
 |slice (l h s:gg kg)
 |raw (p:Fd->Prop)
 |typ (n:wb)
inductive d9 where
 |list (w:wg) (vs:dg AV)
 |p9 (w:wg) (f:kg->gg AV)
 |M9 (w:wg) (kvs:dg (kg×AV))
 |V9 (f:dg KI->gg AV)
 |w8 (f:Str->gg AV)
 |inst (C:yg) (as:dg (yg×AV))
noncomputable def d9.ctorIdx(x:d9):yg:=d9.casesOn x (λ_ _=>0) (λz' z'=>1) (λz' z'=>2) (λz'=>3) (λz'=>4) (λz' z'=>5)
noncomputable abbrev v7(items:Rf zg)(n:yg):Fd:={cls:= .type "tuple",data:= .seq items n}
structure Gh where
 P:yg->gg Fd
 K:yg->gg Fd
 Z:yg->gg (Tg×Fd)
 μ:Tg->yg
 own:yg->gg Tg
mutual
noncomputable def DR(P:yg->gg Fd):vg->zg->Prop
 | .none,v=>v= .none
 | .bool b,v=>v= .bool b
 | .int i,v=>∃t,v= .int i t
 | .str s,v=>Ud s=true/\∃t,v= .str s t
 | .tuple ds,v=>∃a items n,v= .ref a/\P a=some (v7 items n)/\O3 P ds items.toList
 | .list ds,v=>∃a items n,v= .ref a/\P a=some (listOf items n)/\O3 P ds items.toList
 | .dict _,_=>False
noncomputable def O3(P:yg->gg Fd):dg vg->dg zg->Prop
 |[],vs=>vs=[]
 |d::ds,vs=>∃y ys,vs=y::ys/\DR P d y/\O3 P ds ys
end
noncomputable def F9(G:Gh):AV->zg->Prop
 | .a9 d,v=>DR G.P d v
 | .g9 τ,v=>v= .ref (G.μ τ)
 | .range n,v=>∃a t g f,v= .ref a/\G.P a=some {cls:= .type "range",dict:=none,data:= .fields #[.int 0 t,.int n g,.int 1 f],slots:=#[]}
 | .slice b h e,v=>∃a l u s,v= .ref a/\G.P a=some {cls:= .type "slice",data:= .fields #[l,u,s]}/\IsPart l b/\IsPart u h/\IsPart s e
 | .raw p,v=>∃a o,v= .ref a/\G.P a=some o/\p o
 | .typ n,v=>v= .type n
section
structure Wd where
 prog:Vd
 w:Ab
 b:Be
 K:Frag
 p:Vd
 loose:dg Str
 mg:Str->gg zg
 mb:Str->gg zg
 bW:K.In b
 top:TopRead p loose mg mb b
structure Fm where
 W:Wd
 A:vc
 env:Ia
 fa:dg yg
 n:yg
section
variable{α β:Type}{R R':α->β->Prop}
noncomputable def R7(R:α->β->Prop):gg α->gg β->Prop
 |some a,some b=>R a b
 |none,none=>True
 |_,_=>False
theorem R7.mono{x:gg α}{y:gg β}(r:R7 R x y)(h:∀a,x=some a->∀b,R a b->R' a b):R7 R' x y:=by
 cases x with
 |none=>cases y with
  |none=>trivial
  |some b=>exact r
 |some a=>cases y with
  |none=>exact r
  |some b=>exact h a rfl b r
theorem r9.get{xs:dg α}{y:dg β}(r:r9 R xs y):∀i:yg,R7 R xs[i]? y[i]? :=by
 induction r with
 |nil=>exactλz'=>trivial
 |cons r _ b=>intro i;cases i with
  |zero=>exact r
  |succ i=>exact b i
end
variable{P P':yg->gg Fd}{G G':Gh}{W:Wd}{h h':Be}{a:yg}
theorem O3.all:∀{ds vs},O3 P ds vs->r9 (DR P) ds vs:=by
 intro ds;induction ds with
 |nil=>intro vs r;refine rL (r) ?_;exact .nil
 |cons d _ i=>intro vs r;refine u8 r λy b e r q=> ?_;refine rL e ?_;exact .cons r (i q)
theorem O3.of{ds:dg vg}{vs:dg zg}(r:r9 (DR P) ds vs):O3 P ds vs:=by
 induction r with
 |nil=>exact rfl
 |cons r _ i=>exact⟨_,_,rfl,r,i⟩
theorem DR.mono(e:∀a o,P a=some o->P' a=some o)(d:vg):∀v,DR P d v->DR P' d v:=
 PyData.rec (motive_2:=λd=>∀v,O3 P d v->O3 P' d v) (motive_3:=λz'=>True) (motive_4:=λz'=>True)
  (λz' r=>r) (λz' z' r=>r) (λz' z' r=>r) (λz' z' r=>r) (λz' b z' r=>by refine f8 r λa i n x p=>zA p λy z=> ?_;exact⟨a,i,n,x,e _ _ y,b _ z⟩) (λz' b z' r=>by refine f8 r λa i n x p=>zA p λy z=> ?_;exact⟨a,i,n,x,e _ _ y,b _ z⟩) (λz' z' z' r=>r)
  (λz' r=>r) (λz' z' c f z' r=>by refine u8 r λy g x r z=> ?_;exact⟨y,g,x,c _ r,f _ z⟩) trivial (λz' z' z' z'=>trivial) (λz' z' z' z'=>trivial) d
noncomputable def AV.keeps(U:Tg->Prop):AV->Prop
 | .g9 τ=>U τ
 |_=>True
structure Gr(U:Tg->Prop)(G G':Gh):Prop where
 p:∀a o,G.P a=some o->G'.P a=some o
 k:∀a o,G.K a=some o->G'.K a=some o/\G'.P a=G.P a
 z:∀a o,G.Z a=some o->G'.Z a=some o/\G'.P a=G.P a
 m:∀τ,U τ->G'.μ τ=G.μ τ
structure Gm(U:Tg->Prop)(G G':Gh):Prop where
 p:∀a o,G.P a=some o->G'.P a=some o
 m:∀τ,U τ->G'.μ τ=G.μ τ
theorem Gr.gm{U:Tg->Prop}(e:Gr U G G'):Gm U G G':=⟨e.p,e.m⟩
theorem F9.Z7{U:Tg->Prop}(e:Gm U G G'){x:AV}{v:zg}(k:x.keeps U)(r:F9 G x v):F9 G' x v:=by
 cases x with
 |a9 d=>exact DR.mono e.p d v r
 |g9 _=>exact Eq.trans r (eg _ (e.m _ k).symm)
 |range n=>exact r.imp λa q=>q.imp λz' q=>q.imp λz' q=>q.imp λz' q=>⟨q.1,e.p _ _ q.2⟩
 |slice _ _ _=>exact r.imp λa q=>q.imp λz' q=>q.imp λz' q=>q.imp λz' q=>⟨q.1,e.p _ _ q.2.1,q.2.2⟩
 |raw p=>exact r.imp λa q=>q.imp λz' q=>⟨q.1,e.p _ _ q.2.1,q.2.2⟩
 |typ n=>exact r
theorem F9.mono{U:Tg->Prop}(e:Gr U G G'){x:AV}{v:zg}(k:x.keeps U)(r:F9 G x v):F9 G' x v:=r.Z7 e.gm k
def AE(G:Gh)(x:yg×AV)(e:Â):Prop:=(x.1<30/\∃t,e.key= .str (an x.1) t)/\F9 G x.2 e.val
noncomputable def Ah(n:yg):dg kg:=(af n).map Int.ofNat
noncomputable def SK:dg Str:=[S "cells",S "spot",S "terms",S "levels",S "watched",S "told",S "fresh"]
noncomputable def KY:dg (dg kg):=[]::((Ah 60).map λi=>[i])++(Ah 60).flatMap λi=>(Ah 60).map λj=>[i,j]
noncomputable def Xy:dg KI:=((Ah 11).map .int)++(Ah 3).map λi=> .tup [i,1]
noncomputable def TK:dg (dg KI):=((Ah 500).flatMap λi=>(Ah 500).map λj=>[.int i,.int j])++
 [S "true",S "false",S "app",S "num",S "="].flatMap λo=>KY.flatMap λl=>[0,3].flatMap λs=>Xy.map λd=>[.str o,.tup l,.int s,d]
noncomputable def OR(W:Wd)(G:Gh)(h:Be)(a:yg):d9->Prop
 | .list w vs=>∃items n,h.get? a=some (listOf items n)/\r9 (F9 G) vs items.toList
 | .p9 w f=>∃kvs,h.DictOf (Bb W.prog W.w) a kvs/\(∀k,R7 (F9 G) (f k) (Vf kvs k))/\∀k,(f k).isSome=true->j7 k=true
 | .M9 w f=>∃kvs,h.DictOf (Bb W.prog W.w) a kvs/\r9 (λx y=>x.1=y.1/\F9 G x.2 y.2) f kvs
 | .w8 f=>∃kvs,h.DictOf (strKind W.prog W.w) a kvs/\(∀k,R7 (F9 G) (f k) (Vf kvs k))/\∀k,(f k).isSome=true->k∈SK
 | .V9 f=>(∀k,(f k).isSome=true->k∈TK)/\∃xs:dg (dg KI×yg×zg),(∃es ep,h.get? a=some {cls:= .type "dict",data:= .dict es ep}/\es.toList=xs.map (entryOfKey (TZ W.prog W.w)))/\(∀x∈xs,∃items n,G.P x.2.1=some (v7 items n)/\r9 (λk v=>DR G.P (KI.a9 k) v) x.1 items.toList)/\(xs.map (·.1)).Nodup/\∀k,R7 (F9 G) (f k) ((atKey xs k).map (·.2))
 | .inst C as=>0<a/\h.get? a=some (na C (a-1))/\∃es n,h.get? (a-1)=some (dictOf es n)/\r9 (AE G) as es/\(as.map (·.1)).Nodup
noncomputable def d9.keeps(U:Tg->Prop):d9->Prop
 | .list _ vs=>∀y∈vs,y.keeps U
 | .p9 _ f=>∀k v,f k=some v->v.keeps U
 | .M9 _ f=>∀y∈f,y.2.keeps U
 | .w8 f=>∀k v,f k=some v->v.keeps U
 | .V9 f=>∀k v,f k=some v->v.keeps U
 | .inst _ as=>∀y∈as,y.2.keeps U
noncomputable def d9.ad(a b:yg):d9->Prop
 | .inst _ _=>b=a\/b=a-1
 |_=>b=a
noncomputable def d9.wr:d9->wg
 | .list w _=>w
 | .p9 w _=>w
 | .M9 w _=>w
 |_=>true
theorem OR.Z7{U:Tg->Prop}(e:Gm U G G'){o:d9}(k:o.keeps U)(r:OR W G h a o):OR W G' h a o:=by
 cases o with
 |list w _=>refine Z5 r λi n x y=> ?_;exact⟨i,n,x,y.mono λx m z' r=>r.Z7 e (k x m)⟩
 |p9 w f=>refine e6 r λi x y z=> ?_;exact⟨i,x,λj=>(y j).mono λx m z' r=>r.Z7 e (k j x m),z⟩
 |M9 w f=>refine O8 r λi x y=> ?_;exact⟨i,x,y.mono λx m z' r=>⟨r.1,r.2.Z7 e (k x m)⟩⟩
 |w8 f=>refine e6 r λi x y z=> ?_;exact⟨i,x,λj=>(y j).mono λx m z' r=>r.Z7 e (k j x m),z⟩
 |V9 f=>refine F0 r λw i x z p=>zA p λn y=> ?_;exact⟨w,i,x,λx m=>(z x m).imp λi q=>q.imp λn q=>⟨e.p _ _ q.1,q.2.mono λz' z' z' r=>DR.mono e.p _ _ r⟩,n,λj=>(y j).mono λx m z' r=>r.Z7 e (k j x m)⟩
 |inst C _=>obtain⟨z,x,es,n,y,q,d⟩:=r;exact⟨z,x,es,n,y,q.mono λx m z' r=>⟨r.1,r.2.Z7 e (k x m)⟩,d⟩
theorem OR.mono{U:Tg->Prop}(e:Gr U G G'){o:d9}(k:o.keeps U)(r:OR W G h a o):OR W G' h a o:=r.Z7 e.gm k
theorem i5{K:Type}[ef K]{knd:KeyKind W.prog W.w K}{kvs:dg (K×zg)}(x:h.DictOf knd a kvs)(e:h'.get? a=h.get? a):h'.DictOf knd a kvs:=
 x.imp λo q=>q.imp λes q=>q.imp λep q=>⟨e.trans q.1,q.2⟩
theorem OR.move{o:d9}(r:OR W G h a o)(e:∀b,o.ad a b->h'.get? b=h.get? b):OR W G h' a o:=by
 cases o with
 |list w _=>exact r.imp λi q=>q.imp λn q=>⟨(e a rfl).trans q.1,q.2⟩
 |p9 w f=>exact r.imp λi q=>⟨i5 q.1 (e a rfl),q.2⟩
 |M9 w f=>exact r.imp λi q=>⟨i5 q.1 (e a rfl),q.2⟩
 |w8 f=>exact r.imp λi q=>⟨i5 q.1 (e a rfl),q.2⟩
 |V9 f=>exact⟨r.1,r.2.imp λi q=>⟨q.1.imp λes q=>q.imp λep q=>⟨(e a rfl).trans q.1,q.2⟩,q.2⟩⟩
 |inst C _=>exact⟨r.1,(e a (.inl rfl)).trans r.2.1,r.2.2.imp λes q=>q.imp λn q=>⟨(e _ (.inr rfl)).trans q.1,q.2⟩⟩
theorem T4{K:Type}[ef K]{knd:KeyKind W.prog W.w K}{kvs:dg (K×zg)}(x:h.DictOf knd a kvs):∃ob,h.get? a=some ob:=x.imp λz' q=>M8 q λz' z' q=>q.1
theorem OR.live{o:d9}(r:OR W G h a o){b:yg}(e:o.ad a b):∃ob,h.get? b=some ob:=by
 cases o with
 |list w _=>exact e▸M8 r λz' z' q=>⟨_,q.1⟩
 |p9 w f=>exact e▸r.elim λz' q=>T4 q.1
 |M9 w f=>exact e▸r.elim λz' q=>T4 q.1
 |w8 f=>exact e▸r.elim λz' q=>T4 q.1
 |V9 f=>exact e▸r.2.elim λz' q=>M8 q.1 λz' z' q=>⟨_,q.1⟩
 |inst C _=>exact e.elim (λe=>e▸⟨_,r.2.1⟩) λe=>e▸M8 r.2.2 λz' z' q=>⟨_,q.1⟩
end
section
structure Cx where
 ρ:dg (Str×AV)
 σ:Tg->gg d9
def Gh.has(G:Gh)(a:yg):Prop:=(∃τ,G.own a=some τ)\/(∃o,G.P a=some o\/G.K a=some o)\/∃o,G.Z a=some o
structure SR(W:Wd)(σ:Tg->gg d9)(G:Gh)(h:Be):Prop where
 base:∀a o,W.b.get? a=some o->G.P a=some o
 y9:∀a o,G.P a=some o\/G.K a=some o->h.get? a=some o
 W7:∀a τ o,G.Z a=some (τ,o)->h.get? a=some o
 pX:∀a τ o,G.Z a=some (τ,o)->xc<a
 kz:∀a o,G.K a=some o->G.Z a=none
 g9:∀τ o,σ τ=some o->OR W G h (G.μ τ) o
 own:∀τ o a,σ τ=some o->o.wr=true->o.ad (G.μ τ) a->G.own a=some τ
 V5:∀τ o a,σ τ=some o->o.wr=false->o.ad (G.μ τ) a->∃ob,G.Z a=some (τ,ob)
 at_:∀a τ,G.own a=some τ->(G.P a=none/\G.K a=none/\G.Z a=none/\xc<a)/\∃o,σ τ=some o/\o.wr=true/\o.ad (G.μ τ) a
structure FS(F:Fm):Prop where
 kind:F.env.scope.kind= .function
 glob:F.env.globals=fe
 blt:F.env.builtins=builtinsNs
 tU:F.A.handled=none
 depth:F.A.depth+2*F.n<900
 units:F.A.units+20*F.n<9000
 inj:∀x y c,F.env.cells.lookup x=some c->F.env.cells.lookup y=some c->x=y
 ne:∀x c,F.env.cells.lookup x=some c->c≠F.env.locals
 VD:F.env.locals∈F.fa
 Jr:∀a∈F.fa,a=F.env.locals\/∃x,F.env.cells.lookup x=some a
 Op:F.env.func.isSome=true->∀x c,F.env.cells.lookup x=some c->c∈F.fa
 TR:∀x,F.env.kindOf x=some .cell->∃c,F.env.cells.lookup x=some c
structure FR F(b:dg (Str×AV)) G(h:Be):Prop where
 st:FS F
 ns:∃m,h.Ns F.env.locals m/\∀x v,b.lookup x=some v->F.env.kindOf x=some .local->∃y,m x=some y/\F9 G v y
 cell:∀x v,b.lookup x=some v->F.env.kindOf x=some .cell\/F.env.kindOf x=some .free->∃c y,F.env.cells.lookup x=some c/\h.IsCell c (some y)/\F9 G v y
 live:∀x c,F.env.cells.lookup x=some c->∃d,h.IsCell c d
 zY:∀a∈F.fa,¬G.has a
 k5:∀x c,F.env.cells.lookup x=some c->G.own c=none/\(c∈F.fa\/(G.K c).isSome=true)
structure ST(F:Fm)(c:Cx) G h:Prop where
 sr:SR F.W c.σ G h
 fr:FR F c.ρ G h
variable{c:Cx}{F:Fm}{W:Wd}{σ:Tg->gg d9}{ρ:dg (Str×AV)}{G G':Gh}{h h':Be}{τ:Tg}{o o':d9}{U:Tg->Prop}
theorem n7{c:yg}{v:gg zg}(x:h.IsCell c v)(e:h'.get? c=h.get? c):h'.IsCell c v:=x.imp λz' r=>⟨e.trans r.1,r.2⟩
theorem pZ{a:yg}{m:Str->gg zg}(x:h.Ns a m)(e:h'.get? a=h.get? a):h'.Ns a m:=x.imp λz' r=>r.imp λz' r=>r.imp λz' r=>⟨e.trans r.1,r.2⟩
theorem Gh.x8{a:yg}(q:¬G.has a):G.own a=none/\G.P a=none/\G.K a=none/\G.Z a=none:=
 ⟨Option.eq_none_iff_forall_ne_some.mpr λτ e=>q (.inl ⟨τ,e⟩),Option.eq_none_iff_forall_ne_some.mpr λo e=>q (.inr (.inl ⟨o,.inl e⟩)),Option.eq_none_iff_forall_ne_some.mpr λo e=>q (.inr (.inl ⟨o,.inr e⟩)),Option.eq_none_iff_forall_ne_some.mpr λo e=>q (.inr (.inr ⟨o,e⟩))⟩
theorem s9{b:Type}{x:gg b}{a:b}(e:x=some a)(n:x=none):False:=Tc a (e.symm.trans n)
theorem Gh.O4{a:yg}(q:G.own a=none/\G.P a=none/\G.K a=none/\G.Z a=none):¬G.has a:=λz=>
 z.elim (λz=>z.elim λτ e=>s9 e q.1) λz=>z.elim (λz=>z.elim λo e=>e.elim (λe=>s9 e q.2.1) λe=>s9 e q.2.2.1) λz=>z.elim λo e=>s9 e q.2.2.2
theorem SR.has(S:SR W σ G h)(e:σ τ=some o){a:yg}(q:o.ad (G.μ τ) a):G.has a:=by
 cases w:o.wr with
 |true=>exact .inl ⟨τ,S.own _ o a e w q⟩
 |false=>exact .inr (.inr ((S.V5 _ o a e w q).elim λob z=>⟨_,z⟩))
theorem SR.live(S:SR W σ G h){a:yg}(q:G.has a):∃ob,h.get? a=some ob:=
 q.elim (λq=>q.elim λτ e=>(S.at_ a _ e).2.elim λo e=>(S.g9 _ o e.1).live e.2.2) λq=>q.elim (λq=>q.imp λo e=>S.y9 a o e) λq=>q.elim λo e=>⟨_,S.W7 a _ _ e⟩
theorem SR.step(S:SR W σ G h)(d:∀a,G.has a->h'.get? a=h.get? a):SR W σ G h' where
 base:=S.base
 y9:=λa o e=>(d a (.inr (.inl ⟨o,e⟩))).trans (S.y9 a o e)
 W7:=λa z' o e=>(d a (.inr (.inr ⟨_,e⟩))).trans (S.W7 a _ o e)
 pX:=S.pX
 kz:=S.kz
 g9:=λτ o e=>(S.g9 _ o e).move λb q=>d b (S.has e q)
 own:=S.own
 V5:=S.V5
 at_:=S.at_
theorem FR.step(S:FR F ρ G h)(b:h'.get? F.env.locals=h.get? F.env.locals)(a:∀x c,F.env.cells.lookup x=some c->h'.get? c=h.get? c):FR F ρ G h' where
 st:=S.st
 ns:=S.ns.imp λm q=>⟨pZ q.1 b,q.2⟩
 cell:=λx v e k=>(S.cell x v e k).imp λc q=>q.imp λy q=>⟨q.1,n7 q.2.1 (a x c q.1),q.2.2⟩
 live:=λx c e=>(S.live x c e).imp λv q=>n7 q (a x c e)
 zY:=S.zY
 k5:=S.k5
theorem FR.alive(S:FR F ρ G h):(∃o,h.get? F.env.locals=some o)/\∀x c,F.env.cells.lookup x=some c->∃o,h.get? c=some o:=
 ⟨S.ns.elim λz' q=>q.1.imp λz' q=>M8 q λz' z' q=>q.1,λx c e=>(S.live x c e).elim λz' q=>q.imp λz' q=>q.1⟩
theorem b5(d:∀b o,h.get? b=some o->h'.get? b=some o){a:yg}(e:∃o,h.get? a=some o):h'.get? a=h.get? a:=e.elim λo e=>(d a o e).trans e.symm
theorem SR.keeps(S:SR W σ G h)(a:∀b o,h.get? b=some o->h'.get? b=some o):SR W σ G h':=S.step λz' q=>b5 a (S.live q)
theorem FR.keeps(S:FR F ρ G h)(a:∀b o,h.get? b=some o->h'.get? b=some o):FR F ρ G h':=S.step (b5 a S.alive.1) λx c e=>b5 a (S.alive.2 x c e)
theorem ST.keeps(S:ST F c G h)(a:∀b o,h.get? b=some o->h'.get? b=some o):ST F c G h':=⟨S.sr.keeps a,S.fr.keeps a⟩
theorem FR.SN(S:FR F ρ G h){a:yg}(q:a∈F.fa):∃o,h.get? a=some o:=
 (S.st.Jr a q).elim (λe=>e▸S.alive.1) λe=>e.elim λx e=>S.alive.2 x a e
theorem FR.mono(S:FR F ρ G h)(e:Gr U G G')(k:∀x v,ρ.lookup x=some v->v.keeps U)(d:∀a∈F.fa,¬G'.has a)(f:∀a o,G.K a=some o->G.own a=none->G'.own a=none):FR F ρ G' h where
 st:=S.st
 ns:=S.ns.imp λm q=>⟨q.1,λx v e1 b=>(q.2 x v e1 b).imp λy r=>⟨r.1,r.2.mono e (k x v e1)⟩⟩
 cell:=λx v e1 b=>(S.cell x v e1 b).imp λc q=>q.imp λy q=>⟨q.1,q.2.1,q.2.2.mono e (k x v e1)⟩
 live:=S.live
 zY:=d
 k5:=λx c q=>(S.k5 x c q).2.elim (λz=>⟨(G'.x8 (d c z)).1,.inl z⟩) λz=>(Option.isSome_iff_exists.mp z).elim λo z=>⟨f c o z (S.k5 x c q).1,.inr (rL ((e.k c o z).1) rfl)⟩
theorem SR.fresh(S:SR W σ G h){a:yg}(b:h.objs.size<=a):¬G.has a:=λq=>(S.live q).elim λz' e=>Nat.not_lt.mpr b (de e)
theorem FR.fresh(S:FR F ρ G h){a:yg}(b:h.objs.size<=a):a∉F.fa:=λq=>(S.SN q).elim λz' e=>Nat.not_lt.mpr b (de e)
theorem SR.statics(S:SR W σ G h): @LT.lt yg _ xc h.objs.size:=
 W.top.nolimit.elim λm q=>D6 q.1 λo z' z' q=>de (S.y9 _ o (.inl (S.base _ o q.1)))
noncomputable def up(σ:Tg->gg d9)(τ:Tg)(o:d9):Tg->gg d9:=λτ'=>if τ'=τ then some o else σ τ'
theorem u7:up σ τ o τ=some o:=xg rfl
theorem v8{a:Tg}(q:a≠τ):up σ τ o a=σ a:=og q
theorem g3{a:Tg}(q:up σ τ o a=some o'):(a=τ/\o'=o)\/(a≠τ/\σ a=some o'):=by
 by_cases z:a=τ
 ·rw [z,u7] at q;exact .inl ⟨z,(ig q).symm⟩
 ·rw [v8 z] at q;exact .inr ⟨z,q⟩
theorem SR.upd(S:SR W σ G h)(e:σ τ=some o)(hw:o.wr=true)(i:o'.wr=true)(g:∀a,o'.ad (G.μ τ) a↔o.ad (G.μ τ) a)(hs:∀a,G.own a≠some τ->h'.get? a=h.get? a)(R:OR W G h' (G.μ τ) o'):SR W (up σ τ o') G h' where
 base:=S.base
 y9:=λa x q=>(hs a λz=>q.elim (λq=>s9 q (S.at_ a _ z).1.1) λq=>s9 q (S.at_ a _ z).1.2.1).trans (S.y9 a x q)
 W7:=λa t x q=>(hs a λz=>s9 q (S.at_ a _ z).1.2.2.1).trans (S.W7 a t x q)
 pX:=S.pX
 kz:=S.kz
 g9:=λd x q=>(g3 q).elim (λz=>z.1▸z.2▸R) λz=>(S.g9 _ x z.2).move λb r=>hs b λy=>by
  cases w:x.wr with
  |true=>exact z.1 (ig ((S.own _ x b z.2 w r).symm.trans y))
  |false=>exact(S.V5 _ x b z.2 w r).elim λob q=>s9 q (S.at_ b _ y).1.2.2.1
 own:=λd x a q w r=>(g3 q).elim (λz=>z.1▸S.own _ o a e hw ((g a).mp (z.2▸z.1▸r))) λz=>S.own _ x a z.2 w r
 V5:=λd x a q w r=>(g3 q).elim (λz=>absurd (i.symm.trans (z.2▸w)) (by decide)) λz=>S.V5 _ x a z.2 w r
 at_:=λa d q=>⟨(S.at_ a _ q).1,(S.at_ a _ q).2.elim λx r=>by
  by_cases z:d=τ
  ·haveI r:=z▸r;haveI:=r.1;exact⟨o',z▸u7,i,by refine rL z ?_;exact(g a).mpr (ig (e▸this)▸r.2.2)⟩
  ·exact⟨x,(v8 z).trans r.1,r.2⟩⟩
theorem ST.upd(S:ST F c G h)(e:c.σ τ=some o)(hw:o.wr=true)(d:o'.wr=true)(b:∀a,o'.ad (G.μ τ) a↔o.ad (G.μ τ) a)(hs:∀a,G.own a≠some τ->h'.get? a=h.get? a)(R:OR F.W G h' (G.μ τ) o'):ST F ⟨c.ρ,up c.σ τ o'⟩ G h':=
 ⟨S.sr.upd e hw d b hs R,S.fr.step (hs _ λq=>S.fr.zY _ S.fr.st.VD (.inl ⟨_,q⟩)) λx c q=>hs _ λz=>Tc _ (z.symm.trans (S.fr.k5 x c q).1)⟩
end
section
noncomputable abbrev Mk(W:Wd):Model:=ue W.prog W.w
abbrev no:zg->Gg->Prop:=λz' z'=>False
abbrev D0:Tg->Prop:=λz'=>True
def SS(s s':Gg):Prop:=s'.gens=s.gens/\s'.drawn=s.drawn/\s'.os=s.os
inductive Fl where
 |next
 |ret (a:AV)
noncomputable def Fl.ctorIdx(x:Fl):yg:=Fl.casesOn x 0 λz'=>1
noncomputable def dH(G:Gh):Fl->Flow->Prop
 | .next,f=>f= .next
 | .ret a,f=>∃v,f= .ret v/\F9 G a v
inductive RA{α:Type}(F:Fm)(U:Tg->Prop)(c:Cx)(G:Gh)(s:Gg)(R:Gh->α->Prop)(v:α)(s':Gg):Prop
 |mk (G':Gh) (e:Gr U G G') (S:ST F c G' s'.heap) (r:R G' v) (q:SS s s')
variable{α:Type}{c c1 c2 c3:Cx}{F:Fm}{W:Wd}{G G' G'':Gh}{h:Be}{τ:Tg}{o:d9}{U U':Tg->Prop}{s s' s'':Gg}{a b r:AV}{R:Gh->α->Prop}
theorem SS.refl:SS s s:=⟨Ug _,Ug _,Ug _⟩
theorem SS.trans(x:SS s s')(y:SS s' s''):SS s s'':=⟨y.1.trans x.1,y.2.1.trans x.2.1,y.2.2.trans x.2.2⟩
theorem SS.heap(h:Be)(t:yg):SS s {s with heap:=h,toks:=t}:=⟨Ug _,Ug _,Ug _⟩
theorem Gr.refl:Gr U G G:=⟨λz' z' q=>q,λz' z' q=>⟨q,Ug _⟩,λz' z' q=>⟨q,Ug _⟩,λz' z'=>Ug _⟩
theorem Gr.trans(x:Gr U G G')(y:Gr U G' G''):Gr U G G'':=
 ⟨λa o q=>y.p a o (x.p a o q),λa o q=>⟨(y.k a o (x.k a o q).1).1,(y.k a o (x.k a o q).1).2.trans (x.k a o q).2⟩,λa o q=>⟨(y.z a o (x.z a o q).1).1,(y.z a o (x.z a o q).1).2.trans (x.z a o q).2⟩,λτ q=>(y.m _ q).trans (x.m _ q)⟩
theorem AV.U9:a.keeps D0:=by cases a<;>trivial
def Do{α:Type}(F:Fm)(U:Tg->Prop)(c:Cx)(t:Ra α)(R:Gh->α->Prop)(c':Cx):Prop:=
 ∀G s,ST F c G s.heap->Yg (Mk F.W) F.A t (RA F U c' G s R) no s
def Ev(F:Fm)(U:Tg->Prop)(c:Cx)(e:Expr)(a:AV)(c':Cx):Prop:=Do F U c (Nc e F.env) (λG=>F9 G a) c'
def pw(F:Fm)(U:Tg->Prop)(c:Cx)(f:zg->Ra zg)(a r:AV)(c':Cx):Prop:=
 ∀G s x,ST F c G s.heap->F9 G a x->Yg (Mk F.W) F.A (f x) (RA F U c' G s λG=>F9 G r) no s
def X5(F:Fm)(U:Tg->Prop)(c:Cx)(f:zg->zg->Ra zg)(a b r:AV)(c':Cx):Prop:=
 ∀G s x y,ST F c G s.heap->F9 G a x->F9 G b y->Yg (Mk F.W) F.A (f x y) (RA F U c' G s λG=>F9 G r) no s
def X4(F:Fm)(U:Tg->Prop)(c:Cx)(f:dg zg->Ra zg)(as:dg AV)(r:AV)(c':Cx):Prop:=
 ∀G s xs,ST F c G s.heap->r9 (F9 G) as xs->Yg (Mk F.W) F.A (f xs) (RA F U c' G s λG=>F9 G r) no s
def Lx(F:Fm)(U:Tg->Prop)(c:Cx)(a:AV)(t:wg)(c':Cx):Prop:=
 ∀G s x,ST F c G s.heap->F9 G a x->Yg (Mk F.W) F.A (truthy x) (RA F U c' G s λz' b=>b=t) no s
def Xs(F:Fm)(U:Tg->Prop)(c:Cx)(s:dg Xf)(f:Fl)(c':Cx):Prop:=Do F U c (execs s F.env) (λG=>dH G f) c'
def X1(F:Fm)(U:Tg->Prop)(c:Cx)(s:Xf)(f:Fl)(c':Cx):Prop:=Do F U c (exec s F.env) (λG=>dH G f) c'
def It(F:Fm)(U:Tg->Prop)(c:Cx)(e:Expr)(t:wg)(c':Cx):Prop:=Do F U c (isTrue e F.env (Nc e F.env)) (λz' b=>b=t) c'
theorem RA.BT{v:α}(e:Gr U G G')(q:SS s s')(x:RA F U c G' s' R v s''):RA F U c G s R v s'':=x.casesOn λg d S r f=>⟨g,e.trans d,S,r,q.trans f⟩
theorem RA.here{v:α}(S:ST F c G s'.heap)(r:R G v)(q:SS s s'):RA F U c G s R v s':=⟨G,.refl,S,r,q⟩
theorem Do.bind{t:Ra α}{Q:α->Gg->Prop}(E:Do F U c t R c1)(S:ST F c G s.heap)(k:∀G' v s',ST F c1 G' s'.heap->R G' v->Gr U G G'->SS s s'->Q v s'):Yg (Mk F.W) F.A t Q no s:=
 Jg (E G s S) (λv z' x=>x.casesOn λg e S r q=>k g v _ S r e q) λz' z' z=>z
theorem jh{t:Ra α}(e:Gr U G G')(q:SS s s')(x:Yg (Mk F.W) F.A t (RA F U c G' s' R) no s'):Yg (Mk F.W) F.A t (RA F U c G s R) no s':=Jg x (λz' z' x=>x.BT e q) λz' z' z=>z
theorem Do.then{t:Ra α}(E:Do F U c t R c1)(e:Gr U G G')(q:SS s s')(S:ST F c G' s'.heap):Yg (Mk F.W) F.A t (RA F U c1 G s R) no s':=jh e q (E _ _ S)
theorem Gr.weak(h:∀τ,U' τ->U τ)(g:Gr U G G'):Gr U' G G':=⟨g.p,g.k,g.z,λτ q=>g.m _ (h _ q)⟩
theorem Do.weak{t:Ra α}(h:∀τ,U' τ->U τ)(E:Do F U c t R c1):Do F U' c t R c1:=λG s S=>Jg (E G s S) (λz' z' z=>z.casesOn λd g S r q=>⟨d,g.weak h,S,r,q⟩) λz' z' z=>z
theorem Vy{l r:Expr}{o:Operator}{pos:re}{x:AV}(E1:Ev F U c l a c1)(E:Ev F U' c1 r b c2)(h:∀τ,U τ->U' τ)(i:a.keeps U')(O:X5 F U c2 (ib o) a b x c3):Ev F U c (.BinOp l o r pos) x c3:=λG s S=>
 wpAny_BinOp (E1.bind S λn v z' e m j q=>E.bind e λt w p f d g k=>jh (j.trans (g.weak h)) (q.trans k) (O _ _ v w f (m.mono g i) d))
theorem Ry{l r:Expr}{o:CmpOp}{pos:re}{x:AV}(E1:Ev F U c l a c1)(E:Ev F U' c1 r b c2)(h:∀τ,U τ->U' τ)(i:a.keeps U')(O:X5 F U c2 (we o) a b x c3)(hm:Ub o r=false):Ev F U c (.Compare l [o] [r] pos) x c3:=λG s S=>
 wpAny_Compare1 (E1.bind S λn v z' e m j q=>E.bind e λt w p f d g k=>jh (j.trans (g.weak h)) (q.trans k) (O _ _ v w f (m.mono g i) d)) hm
theorem Ky{l r:Expr}{pos:re}{x:AV}(E1:Ev F U c l a c1)(E:Ev F U' c1 r b c2)(h:∀τ,U τ->U' τ)(i:a.keeps U')(O:X5 F U c2 (Zc l r) a b x c3):Ev F U c (.Subscript l r pos) x c3:=λG s S=>
 Subscript_ (E1.bind S λn v z' e m j q=>E.bind e λt w p f d g k=>jh (j.trans (g.weak h)) (q.trans k) (O _ _ v w f (m.mono g i) d))
theorem iJ{l:Expr}{o:UnaryOp}{pos:re}{x:AV}(E1:Ev F U c l a c1)(O:pw F U c1 (unaryOp o) a x c2):Ev F U c (.UnaryOp o l pos) x c2:=λG s S=>
 wpAny_UnaryOp (E1.bind S λe v z' d r g q=>jh g q (O _ _ v d r))
theorem wE{k:yg}{pos:re}:Ev F U c (.Constant .none k pos) (.a9 .none) c:=λG s S=>ug (.here S (Ug _) .refl)
theorem FE{k:yg}{pos:re}{b:wg}:Ev F U c (.Constant (.bool b) k pos) (.a9 (.bool b)) c:=λG s S=>ug (.here S (Ug _) .refl)
theorem Oy{k:yg}{pos:re}{i:kg}:Ev F U c (.Constant (.int i) k pos) (.a9 (.int i)) c:=λG s S=>wpAny_mkInt (.here S ⟨_,Ug _⟩ (SS.heap _ _))
theorem Ly{k:yg}{pos:re}{x:Str}(hx:Ud x=true):Ev F U c (.Constant (.str x) k pos) (.a9 (.str x)) c:=λG s S=>wpAny_mkText (.here S ⟨hx,_,Ug _⟩ (SS.heap _ _))
noncomputable def XZ:gg jb->wg
 |some .local=>true
 |some .cell=>true
 |some .free=>true
 |_=>false
theorem gM{x:Str}{pos:re}(f:c.ρ.lookup x=some a)(e:XZ (F.env.kindOf x)=true)(hd:(x==("__debug__"))=false)(p:(x==("__classdict__"))=false):Ev F U c (.Name x pos) a c:=λG s S=>by
 cases q:F.env.kindOf x with
 |none=>haveI e:=q▸e;cases e
 |some k=>
  cases k with
  |«local»=>obtain⟨m,hn,hm⟩:=S.fr.ns;obtain⟨y,l,r⟩:=hm x a f q;exact ia (wpAny_loadName_local S.fr.st.kind q hn l (.here S r .refl)) hd
  |cell=>obtain⟨c,y,h,g,r⟩:=S.fr.cell x a f (.inl q);exact ia (wpAny_loadName_cell S.fr.st.kind q h g (.here S r .refl)) hd
  |free=>obtain⟨c,y,h,g,r⟩:=S.fr.cell x a f (.inr q);exact ia (wpAny_loadName_free S.fr.st.kind q h g (.here S r .refl) p) hd
  |_=>have e:=q▸e;cases e
theorem ST.base(S:ST F c G h)(b:yg)(o:Fd)(e:F.W.b.get? b=some o):h.get? b=some o:=S.sr.y9 b o (.inl (S.sr.base b o e))
theorem ST.bW(S:ST F c G h):F.W.K.In h:=F.W.bW.keeps S.base
theorem BE{x:Str}{pos:re}{v:zg}(e:ó F.W.K fe x=some (some v))(hx:F.env.kindOf x=some .globalImplicit)(h:∀G,(∀a o,F.W.K.lookup a=some o->G.P a=some o)->F9 G a v)(hd:(x==("__debug__"))=false):Ev F U c (.Name x pos) a c:=λG s S=>
 Ta S.fr.st.kind hx (loadGlobal_global (S.fr.st.glob▸F.W.top.g.keeps S.base) (mg_of F.W.bW F.W.top.g e) (.here S (h _ λb o q=>S.sr.base b o (F.W.bW b o q)) .refl)) hd
variable{σ:Tg->gg d9}{ρ:dg (Str×AV)}{h':Be}{t u:wg}{fl:Fl}
theorem Lx.then{v:zg}(O:Lx F U c1 a t c2)(e:Gr U G G')(q:SS s s')(S:ST F c1 G' s'.heap)(r:F9 G' a v):Yg (Mk F.W) F.A (truthy v) (RA F U c2 G s λz' b=>b=t) no s':=jh e q (O _ _ v S r)
theorem yX{b:wg}:Lx F U c (.a9 (.bool b)) b c:=λG s x S r=>by refine rL (r) ?_;exact wpAny_truthy_bool (.here S (Ug _) .refl)
theorem ly{e:Expr}(E:Ev F U c e a c1)(O:Lx F U c1 a t c2)(h:∀env w,isTrue e env w=(do let v<-w;Wa e.pos;Xa [v] (truthy v))):It F U c e t c2:=λG s S=>
 wpAny_isTrue_value (E.bind S λf v z' d r g q=>O.then g q d r) (h _ _)
theorem ny{l r:Expr}{o:CmpOp}{pos:re}(E1:Ev F U c l a c1)(E:Ev F U' c1 r b c2)(h:∀τ,U τ->U' τ)(f:a.keeps U')(O:X5 F U c2 (we o) a b (.a9 (.bool t)) c3)(hm:Ub o r=false):It F U c (.Compare l [o] [r] pos) t c3:=λG s S=>
 wpAny_isTrue_Compare1 (E1.bind S λH v z' n y e m=>E.bind n λC w D i k g p=>Jg (O _ _ v w i (y.mono g f) k) (λx z' z=>z.casesOn λB A d j q=>yX.then ((e.trans (g.weak h)).trans A) ((m.trans p).trans q) d j) λz' z' z=>z) hm
theorem my{x:Expr}{pos:re}(E:It F U c x t c1):It F U c (.UnaryOp .Not x pos) (!t) c1:=λG s S=>
 wpAny_isTrue_Not (E.bind S λe v z' d r g q=>⟨e,g,d,eg _ r,q⟩)
def At(F:Fm)(U:Tg->Prop)(c:Cx)(o:BoolOp)(es:dg Expr)(t:wg)(c':Cx):Prop:=Do F U c (allTrue o es F.env) (λz' b=>b=t) c'
theorem iW{o:BoolOp}{es:dg Expr}{pos:re}(E:At F U c o es t c1):It F U c (.BoolOp o es pos) t c1:=λG s S=>wpAny_isTrue_BoolOp (E G s S)
theorem rD:At F U c .And [] true c:=λG s S=>wpAny_allTrue_And_nil (.here S (Ug _) .refl)
theorem Fx:At F U c .Or [] false c:=λG s S=>wpAny_allTrue_Or_nil (.here S (Ug _) .refl)
theorem SM{e:Expr}{es:dg Expr}(E:It F U c e u c1)(k:if u=true then At F U c1 .And es t c2 else t=false/\c2=c1):At F U c .And (e::es) t c2:=λG s S=>
 wpAny_allTrue_And_cons (E.bind S λj v z' i r g q=>by
  refine rL (r) ?_;cases u with
  |true=>exact Do.then k g q i
  |false=>obtain⟨rfl,rfl⟩:=k;exact⟨j,g,i,rfl,q⟩)
theorem oD{e:Expr}{es:dg Expr}(E:It F U c e u c1)(k:if u=true then t=true/\c2=c1 else At F U c1 .Or es t c2):At F U c .Or (e::es) t c2:=λG s S=>
 wpAny_allTrue_Or_cons (E.bind S λj v z' i r g q=>by
  refine rL (r) ?_;cases u with
  |false=>exact Do.then k g q i
  |true=>obtain⟨rfl,rfl⟩:=k;exact⟨j,g,i,rfl,q⟩)
theorem Py{x b o:Expr}{pos:re}(E:It F U c x t c1)(k:if t=true then Ev F U c1 b a c2 else Ev F U c1 o a c2):Ev F U c (.IfExp x b o pos) a c2:=λG s S=>
 wpAny_IfExp (E.bind S λe v z' d r g q=>by
  refine rL (r) ?_;cases t<;>exact Do.then k g q d)
theorem Ny{o:BoolOp}{e:Expr}{pos:re}(E:Ev F U c e a c1):Ev F U c (.BoolOp o [e] pos) a c1:=λG s S=>BoolOp_one (E G s S)
theorem OI{e d:Expr}{rest:dg Expr}{pos:re}(E:Ev F U c e a c1)(O:Lx F U c1 a t c2)(h:a.keeps U)(k:if t=true then Ev F U c2 (.BoolOp .And (d::rest) pos) b c3 else b=a/\c3=c2):Ev F U c (.BoolOp .And (e::d::rest) pos) b c3:=λG s S=>
 BoolOp_and (E.bind S λy v z' x r j q=>Jg (O _ _ v x r) (λw z' z=>z.casesOn λn g l p m=>by
  refine rL (p) ?_;cases t with
  |true=>exact Do.then k (j.trans g) (q.trans m) l
  |false=>obtain⟨rfl,rfl⟩:=k;exact⟨n,j.trans g,l,r.mono g h,q.trans m⟩) λz' z' z=>z)
theorem lC:Xs F U c [] .next c:=λG s S=>ug (.here S (Ug _) .refl)
theorem qH{e:Xf}{d:dg Xf}(E:X1 F U c e .next c1)(k:Xs F U c1 d fl c2):Xs F U c (e::d) fl c2:=λG s S=>by
 exact fg (E.bind S λi v z' f r g q=>by refine rL (r) ?_;exact Do.then k g q f)
theorem xU{d:Xf}{e:dg Xf}(E:X1 F U c d (.ret a) c1):Xs F U c (d::e) (.ret a) c1:=λG s S=>by
 exact fg (E.bind S λj v z' i f g q=>by refine O8 f λw h r=> ?_;subst h;exact ug ⟨j,g,i,⟨w,Ug _,r⟩,q⟩)
theorem mC{x:Expr}{b o:dg Xf}{pos:re}(E:It F U c x t c1)(k:if t=true then Xs F U c1 b fl c2 else Xs F U c1 o fl c2):X1 F U c (.If x b o pos) fl c2:=λG s S=>by
 refine fg (Qd (fg (E.bind S λe v z' d r g q=> ?_)));refine rL (r) ?_;cases t<;>exact Do.then k g q d
theorem sP{e:Expr}{pos:re}(E:Ev F U c e a c1):X1 F U c (.Return (some e) pos) (.ret a) c1:=λG s S=>
 wpAny_Return_some (E.bind S λf v z' d r g q=>⟨f,g,d,⟨v,Ug _,r⟩,q⟩)
theorem fQ{pos:re}:X1 F U c (.Return none pos) (.ret (.a9 .none)) c:=λG s S=>wpAny_Return_none (.here S ⟨_,Ug _,Ug _⟩ .refl)
theorem pH{e:Expr}{pos:re}(E:Ev F U c e a c1)(hs:∀env,Ce e none pos.line env=pure false):X1 F U c (.Expr e pos) .next c1:=λG s S=>
 wpAny_Expr_any (E.bind S λf v z' d z' g q=>⟨f,g,d,Ug _,q⟩) (by unfold interactive;refine rL S.fr.st.kind ?_;rfl) (hs _)
section
variable{K:Type}{β:Type _}[ef K]{ρ:dg (K×β)}{a:β}
noncomputable def W9:dg (K×β)->K->β->dg (K×β)
 |[],x,a=>[(x,a)]
 |(y,b)::r,x,a=>if y=x then(x,a)::r else(y,b)::W9 r x a
theorem nZ{x:K}:(W9 ρ x a).lookup x=some a:=by
 induction ρ with
 |nil=>exact Ď
 |cons p r i=>
  unfold W9;split
  ·exact Ď
  ·rename_i z;refine rL xf (rL (gf (gc z)) ?_);exact i
theorem F6{x y:K}(q:y≠x):(W9 ρ x a).lookup y=ρ.lookup y:=by
 induction ρ with
 |nil=>unfold W9;rw [xf,gf q]
 |cons p r i=>
  unfold W9;split
  ·rename_i e;rw [xf,xf,e,gf q]
  ·exact rL xf (rL xf (rL i rfl))
theorem sQ{x:K}:∀y∈(W9 ρ x a).map (·.1),y=x\/y∈ρ.map (·.1):=by
 induction ρ with
 |nil=>exactλy m=> .inl (List.mem_singleton.mp m)
 |cons p r i=>
  unfold W9;split
  ·exactλy m=>(List.mem_cons.mp m).imp id λm=> .tail _ m
  ·exactλy m=>(List.mem_cons.mp m).elim (λe=> .inr (e▸ .head _)) λm=>(i y m).imp id λm=> .tail _ m
theorem YU{x:K}(h:(ρ.map (·.1)).Nodup):((W9 ρ x a).map (·.1)).Nodup:=by
 induction ρ with
 |nil=>exact List.nodup_cons.mpr ⟨(nomatch ·),uf⟩
 |cons p r i=>
  rw [Cf,pc] at h;unfold W9;split
  ·rename_i e;exact List.nodup_cons.mpr ⟨e▸h.1,h.2⟩
  ·rename_i n;exact List.nodup_cons.mpr ⟨λm=>(sQ p.1 m).elim n h.1,i h.2⟩
end
noncomputable def b6:gg jb->wg
 |some .local=>true
 |some .cell=>true
 |_=>false
theorem SR.frame{a:yg}(S:SR W σ G h)(q:¬G.has a)(hs:Ge a h h'):SR W σ G h':=S.step λb z=>hs.2 b λe=>q (e▸z)
theorem m6{x:Str}{v:zg}{Q:sa->Gg->Prop}(hk:b6 (F.env.kindOf x)=true)(hf:F.env.func.isSome=true\/F.env.kindOf x=some .local)(S:ST F c G s.heap)(r:F9 G a v)
  (k:∀s',ST F ⟨W9 c.ρ x a,c.σ⟩ G s'.heap->SS s s'->Q () s'):Yg (Mk F.W) F.A (storeName F.env x v) Q no s:=by
 obtain⟨m,hn,hm⟩:=S.fr.ns;cases q:F.env.kindOf x with
 |none=>rw [q] at hk;cases hk
 |some kd=>
  cases kd with
  |«local»=>
   refine wpAny_storeName_local q hn (λh' h1 hs=>k _ ⟨S.sr.frame (S.fr.zY _ S.fr.st.VD) hs,S.fr.st,⟨_,h1,λy w e kl=> ?_⟩,λy w e kl=> ?_,λy c e=>(S.fr.live y c e).imp λv0 z=>n7 z (hs.2 c (S.fr.st.ne y c e)),S.fr.zY,S.fr.k5⟩ (SS.heap _ _)) (by rw [S.fr.st.kind];rfl)
   ·by_cases z:y=x
    ·rw [z,nZ] at e;exact⟨v,xg z,ig e▸r⟩
    ·rw [F6 z] at e;rw [og z];exact hm y w e kl
   ·have z:y≠x:=λz=>by rw [z,q] at kl;rcases kl with kl|kl<;>cases kl
    rw [F6 z] at e;exact(S.fr.cell y w e kl).imp λc z=>z.imp λu z=>⟨z.1,n7 z.2.1 (hs.2 c (S.fr.st.ne y c z.1)),z.2.2⟩
  |cell=>
   have hf:=hf.resolve_right (by rw [q];intro z;cases z);obtain⟨c',hc⟩:=S.fr.st.TR x q;obtain⟨v0,hv⟩:=S.fr.live x c' hc;refine wpAny_storeName_cell S.fr.st.kind q hc hv λh' h1 hs=>k _ ⟨S.sr.frame (S.fr.zY _ (S.fr.st.Op hf x c' hc)) hs,S.fr.st,⟨m,pZ hn (hs.2 _ (gc (S.fr.st.ne x c' hc))),λy w e kl=> ?_⟩,λy w e kl=> ?_,λy c e=> ?_,S.fr.zY,S.fr.k5⟩ (SS.heap _ _)
   ·have z:y≠x:=λz=>by rw [z,q] at kl;cases kl
    rw [F6 z] at e;exact hm y w e kl
   ·by_cases z:y=x
    ·rw [z,nZ] at e;exact⟨c',v,z▸hc,h1,ig e▸r⟩
    ·rw [F6 z] at e;exact(S.fr.cell y w e kl).imp λd u=>u.imp λz' u=>⟨u.1,n7 u.2.1 (hs.2 d λp=>z (S.fr.st.inj y x d u.1 (p▸hc))),u.2.2⟩
   ·by_cases z:c=c'
    ·exact⟨_,z▸h1⟩
    ·exact(S.fr.live y c e).imp λv0 u=>n7 u (hs.2 c z)
  |_=>rw [q] at hk;cases hk
theorem nH{x:Str}{p pos:re}{e:Expr}(E:Ev F U c e a c1)(j:b6 (F.env.kindOf x)=true)(h:F.env.func.isSome=true\/F.env.kindOf x=some .local)(hs:Ce e (some (.Name x p)) pos.line F.env=pure false):X1 F U c (.Assign [.Name x p] e pos) .next ⟨W9 c1.ρ x a,c1.σ⟩:=λG s S=>
 wpAny_Assign_Name (E.bind S λk v z' f r g q=>m6 j h f r λl d i=>⟨k,g,d,Ug _,q.trans i⟩) hs
variable{d:AV}
noncomputable def Gh.y9(G:Gh)(a:yg)(o:Fd):Gh:={G with P:=λb=>if b=a then some o else G.P b}
theorem d9.U9:o.keeps D0:=by
 cases o with
 |list w _=>exactλy z'=>y.U9
 |p9 w f=>exactλz' v z'=>v.U9
 |M9 w f=>exactλy z'=>y.2.U9
 |w8 f=>exactλz' v z'=>v.U9
 |V9 f=>exactλz' v z'=>v.U9
 |inst C _=>exactλy z'=>y.2.U9
theorem Gr.y9{a:yg}{ob:Fd}(q:¬G.has a):Gr U G (G.y9 a ob):=
 haveI n:=G.x8 q
 ⟨λb x e=>(og λz=>s9 (z▸e) n.2.1).trans e,λb x e=>⟨e,og λz=>s9 (z▸e) n.2.2.1⟩,λb x e=>⟨e,og λz=>s9 (z▸e) n.2.2.2⟩,λz' z'=>Ug _⟩
theorem SR.grow(S:SR W σ G h)(e:Gr D0 G G')(f:G'.own=G.own)(hz:G'.Z=G.Z)(kz:∀a x,G'.K a=some x->G.Z a=none)(p:∀a x,G'.P a=some x\/G'.K a=some x->h.get? a=some x)(g:∀a τ,G.own a=some τ->G'.P a=none/\G'.K a=none):SR W σ G' h where
 base:=λa x q=>e.p a x (S.base a x q)
 y9:=p
 W7:=λa t x q=>S.W7 a t x (hz▸q)
 pX:=λa t x q=>S.pX a t x (hz▸q)
 kz:=λa x q=>hz▸kz a x q
 g9:=λτ x q=>e.m _ trivial▸(S.g9 _ x q).mono e x.U9
 own:=λτ x a q w z=>f▸S.own _ x a q w (e.m _ trivial▸z)
 V5:=λτ x a q w z=>hz▸S.V5 _ x a q w (e.m _ trivial▸z)
 at_:=λa z' q=>by
  have q:=f▸q;exact zA (S.at_ a _ q) λz x=>(rL (e.m _ trivial) (rL hz (⟨⟨(g a _ q).1,(g a _ q).2,z.2.2⟩,x⟩)))
theorem WS{a b:yg}{ob:Fd}(m:b≠a)(z:¬G.has b):¬(G.y9 a ob).has b:=λy=>z (y.imp id λy=>y.imp (λy=>y.imp λx y=>y.imp (λy=>(og m).symm.trans y) id) id)
theorem ST.F4{a:yg}{ob:Fd}(S:ST F c G h)(q:¬G.has a)(f:a∉F.fa)(e:h.get? a=some ob):ST F c (G.y9 a ob) h:=by
 refine⟨S.sr.grow (.y9 q) rfl rfl S.sr.kz (λb x z=> ?_) (λb z' z=>⟨(og λ(y)=>s9 (y▸z) (G.x8 q).1).trans (S.sr.at_ b _ z).1.1,(S.sr.at_ b _ z).1.2.1⟩),S.fr.mono (.y9 q) (λz' v z'=>v.U9) (λb m=>WS (λy=>f (y▸m)) (S.fr.zY b m)) λz' z' z' z=>z⟩;by_cases y:b=a
 ·exact z.elim (λz=>by refine rL y ?_;exact e.trans ((xg y).symm.trans z)) λz=>S.sr.y9 b x (.inr z)
 ·exact z.elim (λz=>S.sr.y9 b x (.inl ((og y).symm.trans z))) λz=>S.sr.y9 b x (.inr z)
theorem ST.push(S:ST F c G h)(ob:Fd):ST F c G (h.push ob):=S.keeps λz' z' e=>zf _ e
theorem ST.data{ob:Fd}(S:ST F c G h)(nf:ob.isFreed=false):Gr U G (G.y9 h.objs.size ob)/\ST F c (G.y9 h.objs.size ob) (h.push ob)/\(G.y9 h.objs.size ob).P h.objs.size=some ob:=
 have q:=S.sr.fresh (Ag h.objs.size)
 ⟨.y9 q,(S.push ob).F4 q (S.fr.fresh (Ag _)) (yf _ nf),xg rfl⟩
theorem r9.R6{ds:dg vg}{vs:dg zg}(r:r9 (F9 G) (ds.map .a9) vs):O3 G.P ds vs:=by
 induction ds generalizing vs with
 |nil=>cases r;exact rfl
 |cons d _ i=>cases r with|cons r q=>exact⟨_,_,rfl,r,i q⟩
theorem O3.R6{ds:dg vg}{vs:dg zg}(r:O3 G.P ds vs):r9 (F9 G) (ds.map .a9) vs:=by
 induction ds generalizing vs with
 |nil=>refine rL (r) ?_;exact .nil
 |cons d _ i=>refine u8 r λy f e r q=> ?_;refine rL e ?_;exact .cons r (i q)
theorem O3.mono{P f:yg->gg Fd}(e:∀a o,P a=some o->f a=some o){ds:dg vg}{vs:dg zg}(r:O3 P ds vs):O3 f ds vs:= .of (r.all.mono λd z' v r=>r.mono e)
def cS(F:Fm)(U:Tg->Prop)(c:Cx)(es:dg Expr)(as:dg AV)(c':Cx):Prop:=∀pos,Do F U c (spliced (Dc pos (Ae es F.env))) (λG=>r9 (F9 G) as) c'
theorem bX:cS F U c [] [] c:=λpos G s S=>spliced_none (.here S .nil .refl)
theorem q4{e:Expr}{es:dg Expr}{as:dg AV}(E:Ev F U c e a c1)(k:cS F U' c1 es as c2)(l:∀τ,U τ->U' τ)(p:a.keeps U')(h:∀env,Ae (e::es) env=(false,Nc e env)::Ae es env):cS F U c (e::es) (a::as) c2:=λpos G s S=>
 spliced_more (E.bind S λx v z' m w n i=>(k _).bind m λf z' z' j r g q=>⟨f,n.trans (g.weak l),j,.cons (w.mono g p) r,i.trans q⟩) (h _)
theorem j3{n:yg}{f e:Type}{R:f->e->Prop}{xs:dg f}{y:dg e}(r:r9 R xs y)(hz:xs.length<=n):y.length<=n:=r.length▸hz
theorem qx{n:yg}(h:n<=1000000):(n:kg)<2^63:=Fe (Int.ofNat_le.mpr h) (by decide)
theorem PU(m:yg):(-1+(m:kg)).toNat=m-1:=by
 cases m with
 |zero=>rfl
 |succ m=>rw [Int.natCast_succ,Int.add_comm,Int.add_neg_cancel_right];rfl
theorem O9{n:yg}(h:n<=10000000):n<=Pd:=û▸bg h (by decide)
theorem kJ{es:dg Expr}{k:yg}{pos:re}{ds:dg vg}(E:cS F U c es (ds.map .a9) c1)(hz:(ds.map AV.a9).length<=10000000):Ev F U c (.Tuple es k pos) (.a9 (.tuple ds)) c1:=λG s S=>
 Tuple_ ((E _).bind S λj z' z' e r i q=>Ka (by
  obtain⟨g,f,p⟩:=e.data (ob:=v7 _ 0) rfl;exact⟨_,i.trans g,f,⟨_,_,_,rfl,p,O3.mono g.p r.R6⟩,q.trans ⟨rfl,rfl,rfl⟩⟩) (O9 (j3 r hz)))
theorem xV{ds:dg vg}{vs:dg zg}(S:ST F c G s.heap)(r:O3 G.P ds vs)(hz:vs.length<=10000000):Yg (Mk F.W) F.A (newList vs) (RA F U c G s λG=>F9 G (.a9 (.list ds))) no s:=
 wpAny_newList (by
  obtain⟨g,e,p⟩:=S.data (ob:=listOf _ 0) rfl;exact⟨_,g,e,⟨_,_,_,rfl,p,r.mono g.p⟩,rfl,rfl,rfl⟩) (O9 hz)
theorem yE{es:dg Expr}{pos:re}{ds:dg vg}(E:cS F U c es (ds.map .a9) c1)(hz:(ds.map AV.a9).length<=10000000):Ev F U c (.List es pos) (.a9 (.list ds)) c1:=λG s S=>
 List_ ((E _).bind S λf z' z' e r g q=>jh g q (xV e r.R6 (j3 r hz)))
def As(F:Fm)(c:Cx)(t:Expr)(a:AV)(c':Cx):Prop:=∀G s x,ST F c G s.heap->F9 G a x->Yg (Mk F.W) F.A (assign t F.env x) (RA F D0 c' G s λz' z'=>True) no s
theorem wZ{x:Str}{pos:re}(h:b6 (F.env.kindOf x)=true)(e:F.env.func.isSome=true\/F.env.kindOf x=some .local):As F c (.Name x pos) a ⟨W9 c.ρ x a,c.σ⟩:=λG s y S r=>
 Uc (m6 h e S r λs' f q=>⟨G,.refl,f,trivial,q⟩)
def AD(F:Fm)(c:Cx)(t:dg Expr)(as:dg AV)(c':Cx):Prop:=∀G s xs,ST F c G s.heap->r9 (F9 G) as xs->Yg (Mk F.W) F.A (assignInOrder ((Fc t F.env).map (·.2)) xs) (RA F D0 c' G s λz' z'=>True) no s
theorem ZR:AD F c [] [] c:=λG s z' S r=>by exact assignInOrder_nil (.here S trivial .refl)
theorem gU{t:Expr}{e:dg Expr}{as:dg AV}(E:As F c t a c1)(k:AD F c1 e as c2)(h:∀env,Fc (t::e) env=(false,assign t env)::Fc e env):AD F c (t::e) (a::as) c2:=λG s z' S r=>by
 cases r with
 |cons r j=>
  rw [h];exact assignInOrder_cons (Jg (E G s _ S r) (λz' z' z=>z.casesOn λl g i z' q=>jh g q (k _ _ _ i (j.mono λx z' y r=>r.mono g x.U9))) λz' z' x=>x)
theorem o0{h h':Be}(k:Ð h.objs.size h h'):∀b o,h.get? b=some o->h'.get? b=some o:=λb o e=>k b o (Ie (de e)) e
theorem GP(S:ST F c G h){ds:dg vg}{y:zg}(r:F9 G (.a9 (.tuple ds)) y):∃x items,y= .ref x/\IsTup h x items/\r9 (F9 G) (ds.map .a9) items.toList:=
 r.imp λx r=>r.imp λitems r=>r.elim λn r=>⟨r.1,⟨_,S.sr.y9 _ _ (.inl r.2.1),rfl,_,rfl⟩,r.2.2.R6⟩
theorem iU{t:dg Expr}{k:yg}{pos:re}{ds:dg vg}(E:AD F c t (ds.map .a9) c1)(hn:∀env,(Fc t env).length=(ds.map AV.a9).length)(hs:∀env,(Fc t env).findIdx? (·.1)=none):As F c (.Tuple t k pos) (.a9 (.tuple ds)) c1:=λG s y S r=>by
 refine u8 (GP S r) λx z' q g f=> ?_;subst q;exact assign_Tuple_tuple S.fr.st.tU g ((hn _).trans (f.length.trans Zg)) (hs _) λh' k=>(jh .refl (SS.heap _ _) (E G {s with heap:=h'} _ (S.keeps (o0 k)) f))
theorem AL{f:dg Expr}{k:yg}{t pos:re}{e:Expr}(E:Ev F U c e a c1)(T:As F c1 (.Tuple f k t) a c2)(hs:Ë [.Tuple f k t] e pos.line F.env=pure false)(hw:xd [.Tuple f k t] e F.env=pure none):X1 F U c (.Assign [.Tuple f k t] e pos) .next c2:=λG s S=>
 Assign_Tuple (E.bind S λp v z' m r n j=>Jg (T _ _ v m r) (λz' z' z=>z.casesOn λi g l z' q=>⟨i,n.trans ⟨g.p,g.k,g.z,λτ z'=>g.m _ trivial⟩,l,Ug _,j.trans q⟩) λz' z' x=>x) hs hw
variable{as:dg (yg×AV)}{es:dg Â}{C i:yg}{x:Str}
theorem AE.isStr{e:Â}(r:AE G (i,a) e)(y:Str):e.key.isStr y=(an i==y)/\e.refKey=false:=by
 refine zA r λq z'=>(aL q λz' t z=> ?_);constructor
 ·refine rL z ?_;rfl
 ·unfold DictEntry.refKey;rw [z]
theorem PM{i j:yg}(f:i<30)(h:j<30):(an i==an j)=(i==j):=by
 by_cases q:i=j
 ·refine rL q ?_;rw [jf,jf]
 ·exact rL (gf q) (rL (gf λe=>q (iD f h e)) rfl)
theorem QM(r:r9 (AE G) as es):es.any (·.refKey)=false:=by
 induction r with
 |nil=>rfl
 |cons r _ i=>refine rL Ue (rL ((AE.isStr r ⟨#[]⟩).2) (rL i ?_));rfl
theorem WT(r:r9 (AE G) as es)(h:i<30):∃v,Fa (an i) es=some v/\R7 (F9 G) (as.lookup i) v:=by
 haveI n:=QM r;have l:R7 (F9 G) (as.lookup i) ((es.find? (·.key.isStr (an i))).map (·.val)):=by
  clear n;induction r with
  |nil=>trivial
  | @cons p e _ _ r _ j=>
   refine rL xf (rL (jd) ?_);rw [(AE.isStr r _).1,PM r.1.1 h];by_cases q:i=p.1
   ·refine rL q ?_;rw [jf];exact r.2
   ·refine rL (gf q) (rL (gf (gc q)) ?_);exact j
 unfold Fa;cases q:es.find? _ with
 |some e=>haveI l:=q▸l;exact⟨_,rfl,l⟩
 |none=>haveI l:=q▸l;refine rL n ?_;exact⟨none,rfl,l⟩
theorem Bx(r:r9 (AE G) as es)(hx:∀i,i<30->an i≠x):Fa x es=some none:=by
 haveI n:=QM r;haveI l:es.find? (·.key.isStr x)=none:=by
  clear n;induction r with
  |nil=>rfl
  | @cons p e _ _ r _ g=>refine rL (jd) (rL ((AE.isStr r x).1) (rL (gf (hx _ r.1.1)) ?_));exact g
 unfold Fa;refine rL l (rL n ?_);rfl
theorem lD(r:r9 (AE G) as es){y:zg}(h:kg)(tk:Tok)(f:i<30)(q:F9 G' a y)(n:(as.map (·.1)).Nodup)(hm:∀p∈as,p.1≠i->∀y,F9 G p.2 y->F9 G' p.2 y):r9 (AE G') (W9 as i a) (putL (an i) h (.str (an i) tk) y es):=by
 induction r with
 |nil=>exact .cons ⟨⟨f,_,rfl⟩,q⟩ .nil
 | @cons p e _ _ r j k=>
  rw [Cf,pc] at n;unfold W9 putL;refine rL ((AE.isStr r _).1) (rL (PM r.1.1 f) ?_);by_cases z:p.1=i
  ·refine rL (xg z) ?_;refine rL z ?_;rw [jf];exact .cons ⟨z▸r.1,q⟩ (j.mono λp' m z' r=>⟨r.1,hm _ (.tail _ m) (λe=>n.1 (List.mem_map.mpr ⟨p',m,e.trans z.symm⟩)) _ r.2⟩)
  ·exact rL (og z) (rL (gf z) (.cons ⟨r.1,hm p (.head _) z _ r.2⟩ (k n.2 λp m=>hm p (.tail _ m))))
structure A4(W:Wd)(C:yg):Prop where
 get:Ad W.K (.ref C) "__getattribute__"=some (some (.builtin "object.__getattribute__"))
 Kv:Ad W.K (.ref C) "__getattr__"=some none
 YF:hasDictIn W.K C=true
 set:Ad W.K (.ref C) "__setattr__"=some (some (.builtin "object.__setattr__"))
 over:plainOver W.K C=true
theorem wV{l:dg yg}(h:l.Nodup)(b:∀i∈l,i<30):l.length<=30:=
 bg (Da h λi m=>List.mem_range.mpr (b i m)) (Bg Bf)
theorem MJ(r:r9 (AE G) as es):∀i∈as.map (·.1),i<30:=by
 induction r with
 |nil=>exactλz' m=>(by nomatch m)
 |cons r _ f=>exactλi m=>(List.mem_cons.mp m).elim (λe=>e▸r.1.1) (f i)
structure vD(G:Gh)(h:Be)(τ:Tg)(C:yg)(as:dg (yg×AV))(es:dg Â)(k:yg):Prop where
 I:InstAt h (G.μ τ) (na C (G.μ τ-1)) C (some (dictOf es k))
 r:r9 (AE G) as es
 p:0<G.μ τ
 d:(as.map (·.1)).Nodup
 z:es.length<=30
theorem tZ(S:SR W σ G h)(e:σ τ=some (.inst C as)):∃es k,vD G h τ C as es k:=
 let⟨z,x,es,k,y,q,d⟩:=S.g9 _ _ e
 ⟨es,k,⟨x,rfl,rfl,y⟩,q,z,d,by rw [<-q.length,<-ng];exact wV d (MJ q)⟩
theorem DR.handed{P:yg->gg Fd}{d:vg}{y:zg}(r:DR P d y):handedIn y=true:=by
 cases d with
 |none=>refine rL (r) ?_;rfl
 |bool b=>refine rL (r) ?_;rfl
 |int i=>refine zE r λt e=> ?_;refine rL e ?_;rfl
 |str i=>refine aL r λz' t e=> ?_;refine rL e ?_;rfl
 |tuple i=>refine f8 r λz' z' z' e z'=> ?_;rw [e];rfl
 |list i=>refine f8 r λz' z' z' e z'=> ?_;rw [e];rfl
 |dict i=>exact r.elim
theorem F9.handed{y:zg}(r:F9 G a y):handedIn y=true:=by
 cases a with
 |a9 d=>exact DR.handed r
 |g9 _=>refine rL (r) ?_;rfl
 |range n=>refine T6 r λz' z' z' z' p=>zA p λe z'=> ?_;refine rL e ?_;rfl
 |slice _ _ _=>refine T6 r λz' z' z' z' p=>zA p λe z'=> ?_;refine rL e ?_;rfl
 |raw _=>refine Z5 r λz' z' e z'=> ?_;refine rL e ?_;rfl
 |typ _=>refine rL (r) ?_;rfl
theorem LG(e:c.σ τ=some (.inst C as))(hc:A4 F.W C)(hp:Ad F.W.K (.ref C) (an i)=some none)(hi:i<30)(hx:as.lookup i=some a):pw F U c (λo=>getAttr o (an i) true) (.g9 τ) a c:=λG s y S r=>by
 rw [show y=_ from r];obtain⟨es,m,I⟩:=tZ S.sr e;obtain⟨v,ho,hr⟩:=WT I.r hi;rw [hx] at hr;cases v with
 |none=>exact hr.elim
 |some v=>exact get_value S.bW I.I hc.get (findObj_own hc.YF hp (by rfl) (by rw [lookIn_dict];exact ho)) (F9.handed hr) (.here S hr (SS.heap s.heap _))
theorem IE{o:Expr}{pos:re}(E:Ev F U c o a c1)(O:pw F U c1 (λv=>getAttr v x true) a b c2)(h:∀env,Rd o x env (Nc o env)=Nc o env):Ev F U c (.Attribute o x pos) b c2:=λG s S=>by
 show Yg _ _ (do
  let e<-Rd o x _ _
  Wa _;let r<-Xa [e] _
  letTemporaryGo o _ r
  pure r) _ _ s
 rw [h];exact fg (E.bind S λk v z' f j g q=>fg (Qd (fg (Nf (Jg (O _ _ v f j) (λr z' z=>fg (wpAny_letTemporaryGo (ug (z.BT g q)))) λz' z' x=>x)))))
theorem gV{A:vc}{E:zg->Gg->Prop}{x C d:yg}{n:yg}{name:Str}{v:zg}{Q:sa->Gg->Prop}(X:W.K.In s.heap)
  (I:InstAt s.heap x (na C d) C (some (dictOf es n))) (h:A4 W C) (H:takerIn W.K C name=some none) (hl:(getL name es).isSome=true) (hz:es.length<=1000)
  (k:Q () {s with heap:=s.heap.update d (ě name (Ò W.w.params name) (.str name (s.toks+1)) v),toks:=s.toks+2}):Yg (Mk W) A (setAttr (.ref x) name v) Q E s:=by
 refine set_plain X I h.set (osa_open X I h.over H λb=> ?_);refine O8 (any_some h.YF) λc p m=> ?_;obtain⟨hx,-,-,hd⟩:=I;haveI D:=hd;haveI J:(s.heap.update _ (ě name (Ò W.w.params name) (.str name (s.toks+1)) v)).get? _=some _:=
  Jc _ D (by rw [Ú];rfl)
 refine fg (ug (fg (fg (wpAny_loadPart hx (fg ((looks_clsIn X p).at ?_))))));refine rL m (ug (fg (ug (fg ?_))));refine fg (fg (mc (ug (fg (wpAny_mkText (fg (wpAny_loadPart D ?_)))))));haveI q:(!es.toArray.any (·.key.isStr _)&&es.toArray.any (·.refKey))=false:=by
  refine rR Array.any_toList (rR Array.any_toList ?_);unfold getL at hl;cases q:es.find? _ with
  |some e=>refine rL (List.any_eq_true.mpr ⟨e,List.mem_of_find?_eq_some q,List.find?_some q⟩) ?_;rfl
  |none=>
   haveI hl:=q▸hl;cases z:es.any (·.refKey) with
   |false=>exact Cc _
   |true=>haveI hl:=z▸hl;exact(by nomatch hl)
 dsimp only;rw [aRefKeyMayBeTheName_at,q];refine wpAny_updatePart D (fg (wpAny_lookBehind J (by rw [Ú];refine pastItsLine_dict ?_;rw [Cb,û,<-putL_find];split<;>simp<;>lia) ?_));exact ug k
theorem JZ{Q:sa->Gg->Prop}{v:zg}(X:W.K.In s.heap)(S:SR W σ G s.heap)(e:σ τ=some (.inst C as))(hc:A4 W C)(hp:Ad W.K (.ref C) (an i)=some none)(hi:i<30){A:vc}
  (k:∀h',Ge (G.μ τ-1) s.heap h'->(∀G',(∀p∈as,p.1≠i->∀y,F9 G p.2 y->F9 G' p.2 y)->∀a,G'.μ τ=G.μ τ->F9 G' a v->OR W G' h' (G.μ τ) (.inst C (W9 as i a)))->∀tk,Q () {s with heap:=h',toks:=tk}):Yg (Mk W) A (setAttr (.ref (G.μ τ)) (an i) v) Q no s:=by
 obtain⟨es,m,I⟩:=tZ S e;obtain⟨w,ho,_⟩:=WT I.r hi;have hd:=I.I.dict;have hs:=Hd s.heap (G.μ τ-1) (ě (an i) (Ò W.w.params (an i)) (.str (an i) (s.toks+1)) v);refine gV X I.I hc (by unfold takerIn;rw [hp];rfl) (by rw [ho];rfl) (bg I.z (by decide)) (k _ hs (λG' hm a hμ ra=>⟨I.p,?_,_,_,(Jc _ hd (by rw [Ú];rfl)).trans (eg some (Ú ..)),lD I.r _ _ hi ra I.d hm,YU I.d⟩) _);rw [hs.2 _ (qd (õ I.p Ô))];exact I.I.at_
theorem xQ(e:c.σ τ=some (.inst C as))(hc:A4 F.W C)(hp:Ad F.W.K (.ref C) (an i)=some none)(hi:i<30)(S:ST F c G s.heap){v:zg}(r:F9 G a v):
  Yg (Mk F.W) F.A (setAttr (.ref (G.μ τ)) (an i) v) (RA F U ⟨c.ρ,up c.σ τ (.inst C (W9 as i a))⟩ G s λz' z'=>True) no s:=
 JZ S.bW S.sr e hc hp hi λh' hs hO tk=>⟨G,.refl,S.upd e rfl rfl (λz'=>Ef) (λa ha=>hs.2 a λq=>ha (q▸S.sr.own τ _ _ e rfl (.inr rfl))) (hO G (λz' z' z' z' r=>r) _ rfl r),trivial,SS.heap _ _⟩
theorem rH{y:Str}{p p' pos:re}{e:Expr}(E:Ev F U c e a c1)(D:c1.ρ.lookup y=some (.g9 τ))(A:XZ (F.env.kindOf y)=true)(hd:(y==("__debug__"))=false)(h:(y==("__classdict__"))=false)
  (B:c1.σ τ=some (.inst C as)) (k:A4 F.W C) (hp:Ad F.W.K (.ref C) (an i)=some none) (f:i<30) (hs:∀env,Ce e (some (.Attribute (.Name y p') (an i) p)) pos.line env=pure false):
  X1 F U c (.Assign [.Attribute (.Name y p') (an i) p] e pos) .next ⟨c1.ρ,up c1.σ τ (.inst C (W9 as i a))⟩:=λG s S=>
 ç (E.bind S λM v z' w r n q=>(gM D A hd h).bind w λL o z' l K g I=>by
  exact(K)▸Jg (xQ B k hp f l (r.mono g a.U9)) (λz' z' z=>z.casesOn λH J j z' m=>⟨H,(n.trans (g.weak λz' z'=>trivial)).trans J,j,rfl,(q.trans I).trans m⟩) λz' z' z=>z) (hs _)
variable{σ':Tg->gg d9}{p:Tg->wg}
noncomputable def xh(p:Tg->wg)(σ:Tg->gg d9):Tg->gg d9:=λτ=>if p τ=true then none else σ τ
noncomputable def qh(p:Tg->wg)(σ σ':Tg->gg d9):Tg->gg d9:=λτ=>if p τ=true then σ τ else σ' τ
structure Wf(p:Tg->wg)(σ:Tg->gg d9):Prop where
 Z8:∀τ o,p τ=true->σ τ=some o->o.keeps λz'=>False
 old:∀τ o,σ τ=some o->o.keeps λτ=>p τ=false
theorem AV.t9(h:∀τ,U τ->U' τ)(k:a.keeps U):a.keeps U':=by
 cases a with
 |g9 _=>exact h _ k
 |_=>trivial
theorem d9.t9(h:∀τ,U τ->U' τ)(k:o.keeps U):o.keeps U':=by
 cases o with
 |list w _=>exactλy m=>AV.t9 h (k y m)
 |p9 w f=>exactλy v m=>AV.t9 h (k y v m)
 |M9 w f=>exactλy m=>AV.t9 h (k y m)
 |w8 f=>exactλy v m=>AV.t9 h (k y v m)
 |V9 f=>exactλy v m=>AV.t9 h (k y v m)
 |inst C _=>exactλy m=>AV.t9 h (k y m)
def Gh.GY(G:Gh)(p:Tg->wg)(f:dg yg)(a:yg):Prop:=a∈f\/(G.own a).any p=true
noncomputable instance{p:Tg->wg}{G:Gh}{fa:dg yg}{a:yg}:Zb (G.GY p fa a):=by unfold Gh.GY;infer_instance
theorem Gr.rC(g:Gr U G G')(h:∀τ,U' τ->U τ):Gr U' G G':=⟨g.p,g.k,g.z,λτ q=>g.m _ (h _ q)⟩
noncomputable def Gh.enter(G:Gh)(p:Tg->wg)(h:Be)(fa:dg yg):Gh:={P:=G.P,K:=λa=>if G.GY p fa a then h.get? a else G.K a,Z:=G.Z,μ:=G.μ,own:=λa=>if(G.own a).any p=true then none else G.own a}
noncomputable def Gh.back(p:Tg->wg)(G G':Gh):Gh:={P:=G'.P,K:=G.K,Z:=G'.Z,μ:=λτ=>if p τ=true then G.μ τ else G'.μ τ,own:=λa=>if(G.own a).any p=true then G.own a else G'.own a}
theorem NS{a:yg}(q:(G.own a).any p=true):∃τ,G.own a=some τ/\p τ=true:=by
 cases e:G.own a with
 |none=>have q:=e▸q;cases q
 |some τ=>haveI q:=e▸q;exact⟨τ,rfl,q⟩
theorem ST.u6(S:ST F c G h):Gr D0 G (G.enter p h F.fa):=
 ⟨λz' z' e=>e,λb x e=>⟨by
  show(if G.GY p _ b then h.get? b else G.K b)=some x;split
  ·exact S.sr.y9 b x (.inr e)
  ·exact e,rfl⟩,λz' z' e=>⟨e,rfl⟩,λz' z'=>rfl⟩
theorem ST.aX(S:ST F c G h){a:yg}(q:G.GY p F.fa a):∃ob,h.get? a=some ob/\(G.enter p h F.fa).K a=some ob:=by
 exact(q.elim S.fr.SN λq=>(NS q).elim λτ z=>S.sr.live (.inl ⟨τ,z.1⟩)).imp λob e=>⟨e,(xg q).trans e⟩
theorem rZ(q:p τ=true):qh p σ σ' τ=σ τ:=xg q
theorem P2(q:p τ=false):qh p σ σ' τ=σ' τ:=og (Bool.eq_false_iff.mp q)
theorem H6(e:xh p σ τ=some o):p τ=false/\σ τ=some o:=by
 unfold xh at e;cases q:p _ with
 |true=>have e:=q▸e;cases e
 |false=>haveI e:=q▸e;exact⟨rfl,e⟩
theorem lW(q:p τ=false):xh p σ τ=σ τ:=by unfold xh;refine rL q ?_;rfl
theorem ST.enter(S:ST F c G h):SR F.W (xh p c.σ) (G.enter p h F.fa) h where
 base:=S.sr.base
 y9:=λa x e=>e.elim (λe=>S.sr.y9 a x (.inl e)) λe=>by
  haveI e:(if G.GY p _ a then h.get? a else G.K a)=some x:=e;split at e
  ·exact e
  ·exact S.sr.y9 a x (.inr e)
 W7:=S.sr.W7
 pX:=S.sr.pX
 kz:=λa x e=>by
  have e:(if G.GY p _ a then h.get? a else G.K a)=some x:=e;split at e
  ·rename_i m;exact m.elim (λm=>(G.x8 (S.fr.zY a m)).2.2.2) λm=>(NS m).elim λτ z=>(S.sr.at_ a _ z.1).1.2.2.1
  ·exact S.sr.kz a x e
 g9:=λτ x e=>(S.sr.g9 _ x (H6 e).2).mono (S.u6) x.U9
 V5:=λτ x a e w q=>S.sr.V5 _ x a (H6 e).2 w q
 own:=λτ x a e w q=>by
  have:=S.sr.own _ x a (H6 e).2 w q;exact(og λz=>by haveI z:=this▸z;exact cf ((H6 e).1.symm.trans z)).trans this
 at_:=λa τ e=>by
  have e:(if(G.own a).any p=true then none else G.own a)=some τ:=e;split at e
  ·exact(by nomatch e)
  ·rename_i n;refine aL (S.sr.at_ a _ e) λz o r=>(⟨⟨z.1,(og λm=>m.elim (λm=>S.fr.zY a m (.inl ⟨τ,e⟩)) n).trans z.2.1,z.2.2⟩,o,(lW (Bool.eq_false_iff.mpr λq=>n ?_)).trans r.1,r.2⟩);refine rL e ?_;exact q
theorem ST.back(S:ST F c G h)(e:Gr U (G.enter p h F.fa) G')(R:SR F.W σ' G' h')(w:Wf p c.σ)(w':Wf p σ')(ht:∀τ o,σ' τ=some o->p τ=false)
  (hρ:∀x v,c.ρ.lookup x=some v->v.keeps λτ=>U τ\/p τ=true):Gr (λτ=>U τ\/p τ=true) G (G.back p G')/\ST F ⟨c.ρ,qh p c.σ σ'⟩ (G.back p G') h'/\(∀a,a.keeps (λτ=>p τ=false)->∀v,F9 G' a v->F9 (G.back p G') a v):=by
 have kk:∀a x,G.K a=some x->G'.K a=some x/\G'.P a=G.P a:=λa x q=>e.k a x ((S.u6).k a x q).1;have km:∀a,G.GY p F.fa a->(∃x,G'.K a=some x/\h.get? a=some x)/\G'.P a=G.P a:=λa q=>(S.aX q).elim λx z=>⟨⟨x,(e.k a x z.2).1,z.1⟩,(e.k a x z.2).2⟩;have hk:∀a,G.GY p F.fa a\/(∃x,G.K a=some x)->h'.get? a=h.get? a:=λa q=>q.elim (λq=>(km a q).1.elim λx z=>(R.y9 a x (.inr z.1)).trans z.2.symm) λq=>q.elim λx q=>(R.y9 a x (.inr (kk a x q).1)).trans (S.sr.y9 a x (.inr q)).symm;have hz:∀a x,G.Z a=some x->h'.get? a=h.get? a:=λa x q=>(R.W7 a x.1 x.2 (e.z a x q).1).trans (S.sr.W7 a x.1 x.2 q).symm;have μt:∀τ,p τ=true->(G.back p G').μ τ=G.μ τ:=λτ q=>xg q;have μn:∀τ,p τ=false->(G.back p G').μ τ=G'.μ τ:=λτ q=>og (Bool.eq_false_iff.mp q);have g1:Gr (λτ=>U τ\/p τ=true) G (G.back p G'):=⟨e.p,λa x q=>⟨q,(kk a x q).2⟩,e.z,λτ q=>by
  cases z:p τ with
  |true=>exact μt τ z
  |false=>rw [z] at q;exact(μn τ z).trans (e.m τ (q.resolve_right cf))⟩
 have own0:∀a,G.GY p F.fa a->G'.own a=none:=λa q=>Option.eq_none_iff_forall_ne_some.mpr λτ z=>(km a q).1.elim λx y=>s9 y.1 (R.at_ a τ z).1.2.1;refine⟨g1,⟨⟨R.base,λa x q=> ?_,R.W7,R.pX,λa x q=>R.kz a x (kk a x q).1,λτ x q=> ?_,λτ x a q wr ad=> ?_,λτ x a q wr ad=> ?_,λa τ q=> ?_⟩,?_⟩,λa k v r=> ?_⟩
 ·exact q.elim (λq=>R.y9 a x (.inl q)) λq=>R.y9 a x (.inr (kk a x q).1)
 ·have q:qh p c.σ σ' τ=some x:=q;cases z:p τ with
  |true=>
   rw [rZ z] at q;rw [μt τ z];refine((S.sr.g9 τ x q).mono (g1.rC λz' z=>z.elim) (w.Z8 τ x z q)).move λb ad=> ?_;cases wr:x.wr with
   |true=>exact hk b (.inl (.inr (by rw [S.sr.own τ x b q wr ad];exact z)))
   |false=>exact(S.sr.V5 τ x b q wr ad).elim λob q=>hz b _ q
  |false=>
   rw [P2 z] at q;rw [μn τ z];exact OR.Z7 (G:=G') (G':=G.back p G') ⟨λz' z' z=>z,μn⟩ (w'.old τ x q) (R.g9 τ x q)
 ·have q:qh p c.σ σ' τ=some x:=q;cases z:p τ with
  |true=>
   rw [rZ z] at q;rw [μt τ z] at ad;have:=S.sr.own τ x a q wr ad;exact(xg (by rw [this];exact z)).trans this
  |false=>
   rw [P2 z] at q;rw [μn τ z] at ad;have:=R.own τ x a q wr ad;exact(og λy=>s9 this (own0 a (.inr y))).trans this
 ·have q:qh p c.σ σ' τ=some x:=q;cases z:p τ with
  |true=>
   rw [rZ z] at q;rw [μt τ z] at ad;exact(S.sr.V5 τ x a q wr ad).imp λob y=>(e.z a _ y).1
  |false=>
   rw [P2 z] at q;rw [μn τ z] at ad;exact R.V5 τ x a q wr ad
 ·have q:(if(G.own a).any p=true then G.own a else G'.own a)=some τ:=q;split at q
  ·rename_i z;obtain⟨y,x,r⟩:=S.sr.at_ a τ q
   have zt:p τ=true:=by rw [q] at z;exact z
   exact⟨⟨(km a (.inr z)).2.trans y.1,y.2.1,(km a (.inr z)).1.elim λx z=>R.kz a x z.1,y.2.2.2⟩,x,(rZ zt).trans r.1,r.2.1,by rw [μt τ zt];exact r.2.2⟩
  ·obtain⟨y,x,r⟩:=R.at_ a τ q
   have zt:=ht τ x r.1;exact⟨⟨y.1,Option.eq_none_iff_forall_ne_some.mpr λx z=>s9 (kk a x z).1 y.2.1,y.2.2⟩,x,(P2 zt).trans r.1,r.2.1,by rw [μn τ zt];exact r.2.2⟩
 ·refine(S.fr.step (hk _ (.inl (.inl S.fr.st.VD))) λx d q=>hk _ ((S.fr.k5 x d q).2.imp .inl Option.isSome_iff_exists.mp)).mono g1 hρ (λa m=> ?_) λa x q z=> ?_
  ·have n:=G.x8 (S.fr.zY a m);exact Gh.O4 ⟨(og λy=>by rw [n.1] at y;cases y).trans (own0 a (.inl m)),(km a (.inl m)).2.trans n.2.1,n.2.2.1,(km a (.inl m)).1.elim λx z=>R.kz a x z.1⟩
  ·refine(og λy=> ?_).trans (Option.eq_none_iff_forall_ne_some.mpr λτ y=>s9 (kk a x q).1 (R.at_ a τ y).1.2.1);rw [z] at y;cases y
 ·exact F9.Z7 (G:=G') (G':=G.back p G') (U:=λτ=>p τ=false) ⟨λz' z' z=>z,μn⟩ k r
end
section
variable{α:Type}{c c1 c2 c3:Cx}{F:Fm}{W:Wd}{σ σ':Tg->gg d9}{as bs:dg AV}{es:dg Expr}{G G':Gh}{h:Be}{τ:Tg}{o:d9}{U U':Tg->Prop}{s s':Gg}{a b r:AV}{R:Gh->α->Prop}{C n:yg}{x name:Str}{pos:re}{f:zg}
inductive RC W U σ G s a(r:Result) s':Prop
 |mk G' v (z:r= .ok (.ret v)) (e:Gr U G G') (S:SR W σ G' s'.heap) (r:F9 G' a v) (q:SS s s')
def Fn(W:Wd)(U:Tg->Prop)(n:yg)(f:zg)(as:dg AV)(σ:Tg->gg d9)(a:AV)(σ':Tg->gg d9):Prop:=
 ∀A G s xs,A.handled=none->A.depth+2*n<900->A.units+20*n<9000->SR W σ G s.heap->r9 (F9 G) as xs->ab (Mk W) A (.call f ⟨xs,[]⟩) (RC W U σ' G s a) s
structure zD(U:Tg->Prop)(c:Cx)(σ':Tg->gg d9):Prop where
 w:Wf Tg.T9 c.σ
 w':Wf Tg.T9 σ'
 ht:∀τ o,σ' τ=some o->τ.T9=false
 hρ:∀x v,c.ρ.lookup x=some v->v.keeps λτ=>U τ\/τ.T9=true
theorem pI(E:Fn F.W U F.n f as (xh Tg.T9 c.σ) a σ')(q:zD U c σ')(h:a.keeps λτ=>τ.T9=false):X4 F (λτ=>U τ\/τ.T9=true) c (λxs=>call f xs []) as a ⟨c.ρ,qh Tg.T9 c.σ σ'⟩:=λG s z' S r=>
 wpAny_call (Oc (E _ _ s _ S.fr.st.tU S.fr.st.depth S.fr.st.units S.enter (r.mono λx z' z' r=>r.mono S.u6 x.U9)) λr z' z=>z.casesOn λG' v z e R i l=>by
  refine eP (S.back e R q.w q.w' q.ht q.hρ) λg j k=> ?_;refine rL z ?_;exact⟨_,g,j,k a h v i,l⟩)
def Kp(W:Wd)(f:zg):Prop:=∀h,W.K.In h->∃k,(k=Keeper.frame\/k=Keeper.machine\/k=Keeper.boundFrame)/\Looks (Mk W) h (keeperOf f) k
theorem uT(e:ċ W.K f=true):Kp W f:=λh X=>keeps_K e h X
theorem r6{i:wb}:Kp W (.builtin i):=λh X=>⟨.machine,.inr (.inl rfl),Looks.of_pure rfl⟩
theorem sZ{i:wb}:Kp W (.type i):=λh X=>⟨.machine,.inr (.inl rfl),Looks.of_pure rfl⟩
theorem fY{A:vc}{env:Ia}{Q0:dg zg->Gg->Prop}{Q:Args->Gg->Prop}(E:Yg (Mk W) A (spliced (Dc pos (Ae es env))) Q0 no s)
  (hn:(Dc pos (Ae es env)).any (·.1)=false) (k:∀vs s',Q0 vs s'->Q ⟨vs,[]⟩ s'):Yg (Mk W) A (evalArgs f true (Dc pos (Ae es env)) []) Q no s:=by
 cases q:Dc _ _ with
 |nil=>
  haveI E:=q▸E;exact fg (Jg E (λvs z' z=>fg (ug (Nf (fg (ug (fg (ug (ug (k _ _ z))))))))) λz' z' x=>x)
 |cons p r=>
  obtain⟨b,x⟩:=p;rw [q] at E hn;rw [Ue,Bool.or_eq_false_iff] at hn;haveI h:b=false:=hn.1;rw [h] at E⊢;exact evalArgs_plain (Jg E (λvs z' z=>k _ _ z) λz' z' x=>x)
theorem U0{Q:Args->Gg->Prop}(E:cS F U c es as c1)(S:ST F c G s.heap)(hn:(Dc pos (Ae es F.env)).any (·.1)=false)
  (k:∀vs s',RA F U c1 G s (λG=>r9 (F9 G) as) vs s'->Q ⟨vs,[]⟩ s'):Yg (Mk F.W) F.A (evalArgs f true (Dc pos (Ae es F.env)) []) Q no s:=fY (E _ G s S) hn k
theorem X0{first:dg zg}(j:Kp F.W f)(S:ST F c G s.heap)(i:r9 (F9 G) bs first)(h:∀τ,U τ->U' τ)(k:∀b∈bs,b.keeps U')(E:cS F U' c es as c1)(O:X4 F U c1 (λxs=>call f xs []) (bs++as) a c2)(hn:(Dc pos (Ae es F.env)).any (·.1)=false):
  Yg (Mk F.W) F.A (callWith pos f first (Dc pos (Ae es F.env)) []) (RA F U c2 G s λG=>F9 G a) no s:=
 callWith_of (rL hn rfl) j (U0 E S hn λvs z' z=>z.casesOn λp g e l q=>⟨e.bW,jh (g.weak h) q (O _ _ _ e ((i.mono λx m z' r=>r.mono g (k x m)).append l))⟩)
def ZD(F:Fm)(c:Cx)(x:Str)(p:re)(f:zg):Prop:=∀G s,ST F c G s.heap->∀Q:zg->Gg->Prop,(∀s',s'.heap=s.heap->SS s s'->Q f s')->Yg (Mk F.W) F.A (Nc (.Name x p) F.env) Q no s
theorem N3{p:re}(N:ZD F c x p f)(hk:Kp F.W f)(E:cS F U c es as c1)(O:X4 F U c1 (λxs=>call f xs []) as a c2)
  (hn:∀env,(Dc pos (Ae es env)).any (·.1)=false):Ev F U c (.Call (.Name x p) es [] pos) a c2:=λG s S=>
 Call_Name rfl (N G s S _ λs' hs q=>jh .refl q (X0 hk (hs▸S) .nil (λz' h=>h) (λz' m=>(by nomatch m)) E O (hn _)))
theorem FO{p:re}{v:zg}(e:ó F.W.K fe x=some (some v))(hx:F.env.kindOf x=some .globalImplicit)(hd:(x==("__debug__"))=false):ZD F c x p v:=λG s S Q k=>
 Ta S.fr.st.kind hx (loadGlobal_global (S.fr.st.glob▸F.W.top.g.keeps S.base) (mg_of F.W.bW F.W.top.g e) (k s rfl .refl)) hd
theorem k7{p:re}{v:zg}(e:ó F.W.K fe x=some none)(h:oa x=some v)(hn:x≠"__name__")(hx:F.env.kindOf x=some .globalImplicit)(hd:(x==("__debug__"))=false):ZD F c x p v:=λG s S Q k=>
 Ta S.fr.st.kind hx (loadGlobal_builtin (S.fr.st.glob▸F.W.top.g.keeps S.base) (mg_none_of F.W.bW F.W.top.g e) (S.fr.st.blt▸F.W.top.b.keeps S.base) ((F.W.top.builtins x hn).trans h) (k s rfl .refl)) hd
def Mt(F:Fm)(c:Cx)(a:AV)(name:Str)(f:zg):Prop:=∀G s x (pl:Ra wg) (Q:zg×dg zg->Gg->Prop),ST F c G s.heap->F9 G a x->Q (f,[x]) s->Yg (Mk F.W) F.A (getMethod x name pl) Q no s
theorem qT{env:Ia}{n:yg}(hn:(Dc pos (Ae es env)).any (·.1)=false)(hl:n<30):methodCallForm n (Dc pos (Ae es env)) []=true:=by
 unfold methodCallForm;haveI:(Dc _ _).all _=true:=by
  rw [<-Bool.not_eq_false,<-List.not_any_eq_all_not,hn];decide
 exact rL this (Dg hl)
theorem hM{o:Expr}{e:re}(E1:Ev F U c o b c1)(M:Mt F c1 b name f)(l:Kp F.W f)(k:∀τ,U τ->U' τ)(p:b.keeps U')(E:cS F U' c1 es as c2)(O:X4 F U c2 (λxs=>call f xs []) (b::as) a c3)
  (hn:∀env,(Dc pos (Ae es env)).any (·.1)=false) (h:∀env,Rd o name env (Nc o env)=Nc o env) (hl:(e.endLine==pos.line)=true) (hz:es.length+0<30):Ev F U c (.Call (.Attribute o name e) es [] pos) a c3:=λG s S=>by
 haveI j:Nc (.Call (.Attribute o _ _) _ [] _) _=(do
  let w<-Rd o _ _ _
  Wa _
  methodCall o name e pos F.env _ (es.length+0) _ []):=rfl
 refine rL j ?_;rw [h];refine fg (E1.bind S λy v z' g r i q=>fg (Qd ?_));unfold methodCall;refine rL (qT (hn _) hz) ?_;refine fg (Nf ?_);refine M _ _ v _ _ g r ?_;unfold methodCallPos;exact rL hl (fg (ug (jh i q (X0 l g (.cons r .nil) k (λx m=>(List.mem_singleton.mp m)▸p) E O (hn _)))))
theorem sR{xs:dg (yg×AV)}{f:yg}(e:c.σ τ=some (.inst C xs))(hc:A4 F.W C)(hf:Ad F.W.K (.ref C) name=some (some (.ref f)))(ht:isFn F.W.K (.ref f)=true)(hx:∀i,i<30->an i≠name):Mt F c (.g9 τ) name (.ref f):=λG s y pl Q S r q=>by
 obtain rfl:y= .ref (G.μ τ):=r;obtain⟨es,m,I⟩:=tZ S.sr e;exact method_fn S.bW I.I hc.get hc.Kv hf (beq_iff_eq.mp ht) (by show(lookIn name (dictOf es m)).map _=_;rw [lookIn_dict,Bx I.r hx];rfl) q
variable{d:AV}{t u:wg}{fl:Fl}
section
variable{kindOf:Str->gg jb}
theorem ZQ:∀{b:dg (Str×zg)} {m:Str->gg zg},x∉b.map (·.1)->bindL kindOf b m x=m x:=by
 intro b;induction b with
 |nil=>exactλz'=>rfl
 |cons p r i=>
  intro m h;have h:=Cf▸h;rw [jc,Ċ] at h;refine rL (i h.2) ?_;split
  ·exact og h.1
  ·rfl
theorem aP:∀{b:dg (Str×zg)} {m:Str->gg zg},x∉b.map (·.1)->bindC kindOf b m x=m x:=by
 intro b;induction b with
 |nil=>exactλz'=>rfl
 |cons p r i=>
  intro m h;have h:=Cf▸h;rw [jc,Ċ] at h;refine rL (i h.2) ?_;split
  ·rfl
  ·exact og h.1
theorem MW{g:Type}:∀{f:dg Str} {xs:dg g},x∈(f.zip xs).map (·.1)->x∈f:=by
 intro f;induction f with
 |nil=>intro xs h;exact h
 |cons p _ i=>
  intro xs h;cases xs with
  |nil=>cases h
  |cons y _=>exact(List.mem_cons.mp h).elim (λe=>e▸ .head _) λh=> .tail _ (i h)
theorem WR{g:dg Str}{xs:dg zg}(hn:g.Nodup)(r:r9 (F9 G) as xs):∀{v},(g.zip as).lookup x=some v->x∈g/\∃y,F9 G v y/\(∀m,kindOf x=some .local->bindL kindOf (g.zip xs) m x=some y)/\∀m,kindOf x≠some .local->bindC kindOf (g.zip xs) m x=some y:=by
 induction r generalizing g with
 |nil=>intro v h;haveI h:=List.zip_nil_right▸h;exact(by nomatch h)
 | @cons a y _ f r _ i=>
  intro v h;cases g with
  |nil=>cases h
  |cons p g=>
   rw [pc] at hn;rw [Ha,xf] at h;by_cases q:x=p
   ·rw [q,jf] at h;haveI e:p∉(g.zip f).map _:=λz=>hn.1 (MW z);refine⟨q▸ .head _,y,ig h▸r,λm k=> ?_,λm k=> ?_⟩
    ·refine rL Ha (rL q ?_);refine rL (ZQ e) (rL (xg (q▸k)) ?_);exact xg rfl
    ·refine rL Ha (rL q ?_);refine rL (aP e) (rL (og (q▸k)) ?_);exact xg rfl
   ·rw [gf q] at h;exact F0 (i hn.2 h) λz w r l1 l2=>(⟨.tail _ z,w,r,λm k=>l1 _ k,λm k=>l2 _ k⟩)
end
noncomputable def Cy(W:Wd)(fd:Va)(f n:yg)(A:vc)(L:yg):Fm:=⟨W,A,à fd L f,L::(À (L+1) fd.scope.names []).map (·.2),n⟩
structure ZM(W:Wd)(f:yg)(fd:Va)(body:dg Xf)(ps:dg Str):Prop where
 at_:∃oc od osl,W.K.lookup f=some ⟨oc,od,.func fd,osl⟩
 code:codeIn W.K fd.code fd.qualname=true
 body:fd.body= .stmts body
 glob:fd.globals=fe
 blt:fd.builtins=builtinsNs
 Oj:fd.closure=[]
 bind:∀xs:dg zg,xs.length=ps.length->bindArgs fd ⟨xs,[]⟩=pure (ps.zip xs)
 kind:∀p∈ps,b6 (fd.scope.names.lookup p)=true
 nd:ps.Nodup
 Nj:((À 0 fd.scope.names []).map (·.1)).Nodup
 co:fd.scope.isCoroutine=false
 gen:fd.scope.isGenerator=false
 fn:fd.scope.kind= .function
theorem KV{k:gg jb}(h:b6 k=true):k=some .local\/k=some .cell:=by
 cases k with
 |none=>cases h
 |some k=>cases k<;>first|exact .inl rfl|exact .inr rfl|cases h
noncomputable def Gh.drop(G:Gh):Gh:={G with own:=λa=>if(G.own a).any Tg.T9=true then none else G.own a}
theorem SR.drop(S:SR W σ G h):SR W (xh Tg.T9 σ) G.drop h where
 base:=S.base
 y9:=S.y9
 W7:=S.W7
 pX:=S.pX
 kz:=S.kz
 g9:=λτ x e=>(S.g9 _ x (H6 e).2).mono ⟨λz' z' q=>q,λz' z' q=>⟨q,rfl⟩,λz' z' q=>⟨q,rfl⟩,λz' z'=>rfl⟩ x.U9
 V5:=λτ x a e w q=>S.V5 _ x a (H6 e).2 w q
 own:=λτ x a e w q=>by
  have:=S.own _ x a (H6 e).2 w q;exact(og λz=>by rw [this] at z;exact cf ((H6 e).1.symm.trans z)).trans this
 at_:=λa τ e=>by
  haveI e:(if(G.own a).any _=true then none else G.own a)=some τ:=e;split at e
  ·exact(by nomatch e)
  ·rename_i n;exact aL (S.at_ a _ e) λz o r=>(⟨z,o,(lW (Bool.eq_false_iff.mpr λq=>n (rL e q))).trans r.1,r.2⟩)
theorem Gr.drop:Gr U G G.drop:=⟨λz' z' q=>q,λz' z' q=>⟨q,rfl⟩,λz' z' q=>⟨q,rfl⟩,λz' z'=>rfl⟩
noncomputable def Fl.val:Fl->AV
 | .next=> .a9 .none
 | .ret a=>a
theorem dH.val{f:Flow}(r:dH G fl f):F9 G fl.val (match(generalizing:=false) f with| .ret v=>v|_=> .none):=by
 cases fl with
 |next=>refine rL (r) ?_;exact rfl
 |ret a=>refine O8 r λv e r=> ?_;refine rL e ?_;exact r
theorem ON{f n:yg}{fd:Va}{body:dg Xf}{Z:dg Str}(D:ZM W f fd body Z)(i:as.length=Z.length)
  (E:∀A L,Xs (Cy W fd f n A L) U ⟨Z.zip as,σ⟩ body fl c):Fn W U (n+1) (.ref f) as σ fl.val (xh Tg.T9 c.σ):=λA G s xs K hd Q S r=>by
 refine D6 D.at_ λV Y M O=> ?_
 haveI B:=λb o e=>S.y9 b o (.inl (S.base b o e));haveI X:=W.bW.keeps B;refine codeAny_call_cells (Og (Qg (Cg _ _) hd) (show 900<=recursionLimit by decide)) (X _ _ O) rfl (W.top.nolimit.keeps B) (codeRec_of X D.code) D.body (D.bind _ (r.length▸i)) D.Oj (λx hx=>(KV (D.kind _ (MW (ya hx)))).imp id λk=>⟨k,Č _ _ _ (.inl k)⟩) ?_ D.co D.gen D.fn;intro t x;have H:∀y c,(à fd s.heap.objs.size f).cells.lookup y=some c->c∈((À _ _ []).map (·.2)):=λy c e=>List.mem_map.mpr ⟨(y,c),mem_of_lookup e,rfl⟩;have fs:FS (Cy W _ f n (A.deeper (à fd s.heap.objs.size f)) _):=
  ⟨D.fn,D.glob,D.blt,K,(by show A.depth+1+2*n<900;rw [tf];exact Ib hd),(by show A.units+3+20*n<9000;rw [tf];exact Qg (Eg (by decide:3<=20) _) Q),λa b c g P=>name_of_addr x.apart (mem_of_lookup g) (mem_of_lookup P),λa c g=>qd (x.above a c (mem_of_lookup g)),.head _,
   λa h=>(List.mem_cons.mp h).imp id λh=>by
    refine O8 (List.mem_map.mp h) λd hm u=> ?_;obtain⟨y,c⟩:=d;subst u;exact⟨y,lookup_of_mem_nodup (cellsFrom_names _ 0 _ [] [] rfl▸D.Nj) hm⟩,
   λz' a c g=> .tail _ (H a c g),λa g=>Option.isSome_iff_exists.mp (Č _ _ _ (.inl g))⟩
 haveI j:∀a,s.heap.objs.size<=a->¬G.has a:=λa h=>S.fresh h;have p:∀a∈((À (s.heap.objs.size+1) fd.scope.names []).map (·.2)),¬G.has a:=λa h=>by
  refine O8 (List.mem_map.mp h) λd hm u=> ?_;obtain⟨y,c⟩:=d;subst u;exact j c (Uf (x.above y c hm))
 haveI m:ST _ ⟨Z.zip _,σ⟩ G t.heap:=by
  refine⟨S.keeps x.toInCall.keep,fs,⟨_,x.toInCall.ns,λy v e k=> ?_⟩,λy v e k=> ?_,λy c e=>⟨_,x.cell y c e⟩,λa h=> ?_,λy c e=>⟨(G.x8 (p c (H y c e))).1,.inl (fs.Op rfl y c e)⟩⟩
  ·obtain⟨_,z,l,l1,_⟩:=WR D.nd r e;exact⟨z,l1 _ k,l⟩
  ·obtain⟨hp,z,l,_,l2⟩:=WR (kindOf:=(à _ _ f).kindOf) D.nd r e;have w:(à _ s.heap.objs.size f).kindOf y=some .cell:=(KV (D.kind y hp)).elim (λq=>by
    haveI k:fd.scope.names.lookup y=some .cell\/fd.scope.names.lookup y=some .free:=k;haveI k:=q▸k;rcases k with k|k<;>cases k) id
   exact zE (fs.TR y w) λc I=>(⟨c,z,I,l2 _ (by refine rL w ?_;intro z;cases z)▸x.cell y c I,l⟩)
  ·exact(List.mem_cons.mp h).elim (λe=>e▸j _ (Ag _)) (p a)
 refine Jg (E _ _ G _ m) (λf z' z=>z.casesOn λG' e N T q=> ?_) λz' z' x=>x.elim;exact M8 x.toInCall.same λJ z' es=>(⟨G'.drop,_,rfl,e.trans .drop,N.sr.drop,T.val.mono .drop AV.U9,SS.trans (es▸SS.heap _ _) q⟩)
end
section
variable{c:Cx}{F:Fm}{W:Wd}{σ:Tg->gg d9}{as bs vs:dg AV}{es:dg Expr}{G:Gh}{h:Be}{τ:Tg}{o:d9}{U:Tg->Prop}{s:Gg}{a b r:AV}{t u:wg}{x:Str}{d e:vg}{ds:dg vg}{i j:kg}
theorem OX{f:zg->zg->Ra zg}(k:∀G s t g,ST F c G s.heap->Yg (Mk F.W) F.A (f (.int i t) (.int j g)) (RA F U c G s λG=>F9 G (.a9 d)) no s):X5 F U c f (.a9 (.int i)) (.a9 (.int j)) (.a9 d) c:=λG s x y S r l=>by
 refine zE r λt e1=> ?_;refine zE l λg e=> ?_;refine rL e1 (rL e ?_);exact k G s _ _ S
theorem RA.int(S:ST F c G s.heap){i:kg}{n m:yg}:RA F U c G s (λG=>F9 G (.a9 (.int i))) (.int i n) {s with toks:=m}:= .here S ⟨_,rfl⟩ (SS.heap _ _)
theorem fA:X5 F U c (ib .Add) (.a9 (.int i)) (.a9 (.int j)) (.a9 (.int (i+j))) c:=OX λz' z' z' z' S=>PyProof.Rows.add_int (.int S)
theorem SB:X5 F U c (ib .Sub) (.a9 (.int i)) (.a9 (.int j)) (.a9 (.int (i-j))) c:=OX λz' z' z' z' S=>PyProof.Rows.sub_int (.int S)
theorem XB(hm:IntMulOk i j):X5 F U c (ib .Mult) (.a9 (.int i)) (.a9 (.int j)) (.a9 (.int (i*j))) c:=OX λz' z' z' z' S=>PyProof.Rows.mul_int (.int S) hm
theorem YB(h:0<j):X5 F U c (ib .Mod) (.a9 (.int i)) (.a9 (.int j)) (.a9 (.int (i%j))) c:=OX λz' z' z' z' S=>PyProof.Rows.mod_int (Int.ne_of_gt h) (Int.fmod_eq_emod_of_nonneg _ (Gd h)▸ .int S)
theorem eA(h:0<j)(hp:Ê i j=false):X5 F U c (ib .FloorDiv) (.a9 (.int i)) (.a9 (.int j)) (.a9 (.int (i/j))) c:=OX λz' z' z' z' S=>PyProof.Rows.floordiv_int (Int.ne_of_gt h) (Int.fdiv_eq_ediv_of_nonneg _ (Gd h)▸ .int S) (.inl hp)
theorem WB:pw F U c (unaryOp .USub) (.a9 (.int i)) (.a9 (.int (-i))) c:=λG s x S r=>by refine zE r λt e1=> ?_;refine rL e1 ?_;exact PyProof.Rows.neg_int (.int S)
theorem RA.bool(S:ST F c G s.heap){b:wg}:RA F U c G s (λG=>F9 G (.a9 (.bool b))) (.bool b) s:= .here S rfl .refl
theorem Av:X5 F U c (we .Lt) (.a9 (.int i)) (.a9 (.int j)) (.a9 (.bool (decide (i<j)))) c:=OX λz' z' z' z' S=>PyProof.Rows.lt_int (.bool S)
theorem Fv:X5 F U c (we .Gt) (.a9 (.int i)) (.a9 (.int j)) (.a9 (.bool (decide (j<i)))) c:=OX λz' z' z' z' S=>PyProof.Rows.gt_int (.bool S)
theorem Bv:X5 F U c (we .LtE) (.a9 (.int i)) (.a9 (.int j)) (.a9 (.bool (decide (i<=j)))) c:=OX λz' z' z' z' S=>PyProof.Rows.le_int (.bool S)
theorem Gv:X5 F U c (we .GtE) (.a9 (.int i)) (.a9 (.int j)) (.a9 (.bool (decide (j<=i)))) c:=OX λz' z' z' z' S=>PyProof.Rows.ge_int (.bool S)
noncomputable def isNone:vg->wg
 | .none=>true
 |_=>false
theorem DR.isNone{P:yg->gg Fd}{v:zg}(r:DR P d v):(v==Ě)=isNone d:=by
 cases d with
 |none=>refine rL (r) ?_;rfl
 |bool b=>refine rL (r) ?_;rfl
 |int i=>refine zE r λt e=> ?_;refine rL e ?_;rfl
 |str i=>refine aL r λz' t e=> ?_;refine rL e ?_;rfl
 |tuple i=>refine f8 r λz' z' z' e z'=> ?_;refine rL e ?_;rfl
 |list i=>refine f8 r λz' z' z' e z'=> ?_;refine rL e ?_;rfl
 |dict i=>exact r.elim
theorem Cv:X5 F U c (we .Is) (.a9 d) (.a9 .none) (.a9 (.bool (isNone d))) c:=λG s x y S r f=>by
 obtain rfl:y= .none:=f;exact is_none (DR.isNone r▸ .bool S)
theorem sK:X5 F U c (we .IsNot) (.a9 d) (.a9 .none) (.a9 (.bool (!isNone d))) c:=λG s x y S r f=>by
 obtain rfl:y= .none:=f;exact isNot_none (DR.isNone r▸ .bool S)
theorem DR.reads{P:yg->gg Fd}(hp:∀a o,P a=some o->h.get? a=some o)(d:vg):∀v,DR P d v->∃as,Reads h v d as:=
 PyData.rec (motive_2:=λd=>∀v,O3 P d v->∃as,ReadsAll h v d as) (motive_3:=λz'=>True) (motive_4:=λz'=>True)
  (λv r=>(r)▸⟨_,.none⟩) (λb v r=>(r)▸⟨_,.bool b⟩) (λi v r=>r.elim λt e=>e▸⟨_,.int i t⟩) (λi v r=>r.2.elim λt e=>e▸⟨_,.str i t⟩)
  (λz' f v r=>D6 r λa z' n r=>(f _ r.2.2).elim λas z=>r.1▸⟨_,.list (hp _ _ r.2.1) rfl rfl z⟩)
  (λz' f v r=>D6 r λa z' n r=>(f _ r.2.2).elim λas z=>r.1▸⟨_,.tuple (hp _ _ r.2.1) rfl rfl z⟩) (λz' z' z' r=>r.elim)
  (λv r=>(r)▸⟨_,.nil⟩) (λz' z' g k v r=>M8 r λy l r=>(g _ r.2.1).elim λas x=>(k _ r.2.2).elim λbs z=>r.1▸⟨_,.cons x z⟩) trivial (λz' z' z' z'=>trivial) (λz' z' z' z'=>trivial) d
noncomputable def lay(d:vg):wg:=d.canLay0&&decide (d.depth<=8)
theorem r8(h:lay d=true):d.canLay0=true/\d.depth<=8:=by
 unfold lay at h;rw [Sg,Þ] at h;exact h
theorem ST.room(S:ST F c G h){n:yg}(hn:n<=64):F.A.units+n<ü:=Og (xb (Qg (Cg _ _) S.fr.st.units) hn) (by decide)
theorem ST.lI(S:ST F c G h){a b:yg}(q:a<=8):F.A.units+min a b<ü:=Qg (Eg (bg (Nat.min_le_left a b) q) _) (S.room (by decide))
theorem ST.ES(S:ST F c G h){a b:yg}(q:b<=8):F.A.units+1+min a b<ü:=Qg (bg (Eg (bg (Nat.min_le_right a b) q) _) (Bg (Hf ..))) (S.room (by decide))
def Ls(σ:Tg->gg d9)(a:AV)(vs:dg AV):Prop:=(∃ds,a= .a9 (.list ds)/\vs=ds.map .a9)\/∃τ w,a= .g9 τ/\σ τ=some (.list w vs)
theorem a6{v:zg}(S:SR W σ G h)(hl:Ls σ a vs)(r:F9 G a v):∃y items n,v= .ref y/\h.get? y=some (listOf items n)/\r9 (F9 G) vs items.toList:=
 hl.elim (λq=>q.elim λds q=>by
  haveI r:=q.1▸r;exact q.2▸r.imp λy r=>r.imp λitems r=>r.imp λn r=>⟨r.1,S.y9 _ _ (.inl r.2.1),r.2.2.R6⟩) λq=>M8 q λτ w q=>⟨_,(S.g9 _ _ q.2).imp λitems z=>z.imp λn z=>⟨show v= .ref _ by haveI r:=q.1▸r;exact r,z⟩⟩
theorem X8{y:yg}{items:Rf zg}{n:yg}(e:h.get? y=some (listOf items n)):h.IsList y items:=⟨_,e,rfl,n,rfl⟩
theorem O3.reads{P:yg->gg Fd}(hp:∀a o,P a=some o->h.get? a=some o){ds:dg vg}:∀{vs},O3 P ds vs->∃as,ReadsAll h vs ds as:=by
 induction ds with
 |nil=>intro vs r;exact(r)▸⟨_,.nil⟩
 |cons d _ i=>intro vs r;exact M8 r λy f r=>(DR.reads hp d _ r.2.1).elim λas x=>(i r.2.2).elim λbs z=>r.1▸⟨_,.cons x z⟩
theorem QZ{v:zg}(S:SR W σ G h)(hl:Ls σ a (ds.map .a9))(r:F9 G a v):∃as,Reads h v (.list ds) as:=by
 refine f8 (a6 S hl r) λy z' n e p=>zA p λg q=> ?_;obtain⟨as,z⟩:=O3.reads (λa o e=>S.y9 a o (.inl e)) q.R6;refine rL e ?_;exact⟨_,.list g rfl rfl z⟩
def Dv(σ:Tg->gg d9)(a:AV)(d:vg):Prop:=a= .a9 d\/∃ds,d= .list ds/\Ls σ a (ds.map .a9)
theorem Z2{v:zg}(S:SR W σ G h)(q:Dv σ a d)(r:F9 G a v):∃as,Reads h v d as:=
 q.elim (λe=>DR.reads (λa o e=>S.y9 a o (.inl e)) d v (show F9 G (.a9 d) v from e▸r)) λq=>q.elim λds q=>q.1▸QZ S q.2 r
theorem Hv{e:vg}(hd:lay d=true)(h:lay e=true)(g:Dv c.σ a d)(k:Dv c.σ b e):X5 F U c (we .Eq) a b (.a9 (.bool (je d e))) c:=λG s x y S r f=>by
 obtain⟨as,p⟩:=Z2 S.sr g r;obtain⟨bs,q⟩:=Z2 S.sr k f;exact compareEq_reads p q (r8 hd).1 (r8 h).1 (S.lI (r8 hd).2) (.bool S)
theorem zv{e:vg}(hd:lay d=true)(h:lay e=true)(g:Dv c.σ a d)(k:Dv c.σ b e):X5 F U c (we .NotEq) a b (.a9 (.bool (!je d e))) c:=λG s x y S r f=>by
 obtain⟨as,p⟩:=Z2 S.sr g r;obtain⟨bs,q⟩:=Z2 S.sr k f;exact compareNe_reads p q (r8 hd).1 (r8 h).1 (S.lI (r8 hd).2) (.bool S)
theorem CV(h:lay (.list ds)=true):Ze ds=true:=by
 exact((r8 h).1)
theorem fR(h:lay (.tuple ds)=true):Ze ds=true:=by
 exact((r8 h).1)
theorem dA(hd:lay (.list ds)=true)(h:lay e=true)(hl:Ls c.σ b (ds.map .a9)):X5 F U c (we .In) (.a9 e) b (.a9 (.bool (ds.any λy=>je y e))) c:=λG s x y S r f=>by
 obtain⟨as,p⟩:=DR.reads (λa o e=>S.sr.y9 a o (.inl e)) e x r;obtain⟨bs,q⟩:=QZ S.sr hl f;exact in_list_reads q p (CV hd) (r8 h).1 (S.ES (r8 h).2) (.bool S)
theorem QS(hd:lay (.list ds)=true)(h:lay e=true)(hl:Ls c.σ b (ds.map .a9)):X5 F U c (we .NotIn) (.a9 e) b (.a9 (.bool (!ds.any λy=>je y e))) c:=λG s x y S r f=>by
 obtain⟨as,p⟩:=DR.reads (λa o e=>S.sr.y9 a o (.inl e)) e x r;obtain⟨bs,q⟩:=QZ S.sr hl f;exact notIn_list_reads q p (CV hd) (r8 h).1 (S.ES (r8 h).2) (.bool S)
theorem wO(hd:lay (.tuple ds)=true)(h:lay e=true):X5 F U c (we .In) (.a9 e) (.a9 (.tuple ds)) (.a9 (.bool (ds.any λy=>je y e))) c:=λG s x y S r f=>by
 obtain⟨as,p⟩:=DR.reads (λa o e=>S.sr.y9 a o (.inl e)) e x r;obtain⟨bs,q⟩:=DR.reads (λa o e=>S.sr.y9 a o (.inl e)) _ y f;exact in_tuple_reads q p (fR hd) (r8 h).1 (S.ES (r8 h).2) (.bool S)
theorem sV(hd:lay (.tuple ds)=true)(h:lay e=true):X5 F U c (we .NotIn) (.a9 e) (.a9 (.tuple ds)) (.a9 (.bool (!ds.any λy=>je y e))) c:=λG s x y S r f=>by
 obtain⟨as,p⟩:=DR.reads (λa o e=>S.sr.y9 a o (.inl e)) e x r;obtain⟨bs,q⟩:=DR.reads (λa o e=>S.sr.y9 a o (.inl e)) _ y f;exact notIn_tuple_reads q p (fR hd) (r8 h).1 (S.ES (r8 h).2) (.bool S)
theorem kh{items:Rf zg}{j:yg}(r:r9 (F9 G) vs items.toList)(e:vs[j]? =some a):∃y,items[j]? =some y/\F9 G a y:=by
 haveI q:=r.get j;haveI q:=e▸q;have q:=Sf▸q;cases z:items[j]? with
 |none=>haveI q:=z▸q;exact q.elim
 |some y=>haveI q:=z▸q;exact⟨y,rfl,q⟩
noncomputable def r7{f:Type}(k:kg)(vs:dg f):gg f:=if 0<=k then vs[k.toNat]? else if k= -1 then vs[vs.length-1]? else none
theorem bA{o i:Expr}{k:kg}(hl:Ls c.σ a vs)(hx:r7 k vs=some b)(hz:vs.length<=1000000)(hs:∀a k t,gb i false (.ref a) (.int k t)=Û [.ref a,.int k t] (Ă (.ref a) (.int k t))):X5 F U c (Zc o i) a (.a9 (.int k)) b c:=λG s x y S p w=>by
 obtain⟨tk,rfl⟩:=w;refine f8 (a6 S.sr hl p) λz z' n A p'=>zA p' λg q=> ?_;subst A;have hl:=X8 g;haveI h:=q.length.trans Zg;refine tail_any hl.typeIs slot_list_getitem.lookup ?_ (hs _ _ _);unfold r7 at hx;by_cases l:0<=k
 ·haveI hx:=xg l▸hx;refine O8 (kh q hx) λv f r=> ?_;have m:=(Array.getElem?_eq_some_iff.mp f).1;exact wpAny_getItem_list hl l (db l▸qx (bg (Uf m) (h▸hz))) f (.here S r .refl)
 ·rw [og l] at hx;by_cases e:k= -1
  ·haveI hx:=xg e▸hx;refine O8 (kh q hx) λv f r=>(wpAny_getItem_list_neg hl (Int.not_le.mp l) (rL e (Int.neg_le_neg (Int.ofNat_le.mpr (Qg (Xg _) ((Array.getElem?_eq_some_iff.mp f).1))))) (by refine rL e ?_;decide) ?_ (.here S r .refl));refine rL e (rR h ?_);rw [PU];exact f
  ·have hx:=og e▸hx;cases hx
theorem uO{o i:Expr}{j:yg}{k:kg}(f:seqIndex? k (ds.map AV.a9).length=some j)(hx:(ds.map AV.a9)[j]? =some b)(h: -1000<=k/\k<=1000)(hs:∀a k t,gb i false (.ref a) (.int k t)=Û [.ref a,.int k t] (Ă (.ref a) (.int k t))):X5 F U c (Zc o i) (.a9 (.tuple ds)) (.a9 (.int k)) b c:=λG s x y S l m=>by
 refine u8 (GP S l) λz z' u n q=> ?_;subst u;obtain⟨tk,rfl⟩:=m;exact O8 (kh q hx) λv g r=>(item_tupleT (show IsTup _ z _ by exact n) (Hc (by decide) h.1) (Fe h.2 (by decide)) (q.length▸f) (Sf▸g) (.here S r .refl) (hs _ _ _))
theorem qI(hl:Ls c.σ a vs)(hz:vs.length<=1000000):X4 F U c (λxs=>call (.builtin "len") xs []) [a] (.a9 (.int vs.length)) c:=λG s z' S r=>by
 obtain⟨x,y,rfl,f,r⟩:=r.cons_inv;obtain rfl:=r.nil_inv;refine f8 (a6 S.sr hl f) λz z' n u p=>zA p λg q=> ?_;subst u;have h:=q.length.trans Zg;exact call_len_list (X8 g) (qx (h▸hz)) (h▸ .int S)
theorem lT(hl:Ls c.σ a (ds.map .a9)){es:dg vg}(h:Ls c.σ b (es.map .a9))(hz:(ds++es).length<=1000000):X5 F U c (ib .Add) a b (.a9 (.list (ds++es))) c:=λG s x y S r v=>by
 refine f8 (a6 S.sr hl r) λz items n B p'=>zA p' λg q=> ?_;subst B;refine f8 (a6 S.sr h v) λA i z' B p'=>zA p' λw k=> ?_;subst B;haveI l:(ds++es).length=items.size+i.size:=by refine rL jg ?_;exact congr (eg _ (q.length▸ng _).symm) (k.length▸ng _).symm
 refine P.add_list g w ?_ (O9 (l▸bg hz (by decide)));obtain⟨f,m,p⟩:=S.data (ob:=listOf _ 0) rfl;exact⟨_,f,m,⟨_,_,_,rfl,p,O3.mono f.p (rL ec (.of (q.R6.all.append k.R6.all)))⟩,rfl,rfl,rfl⟩
theorem yQ{es:dg vg}(h:ds≠[])(v:es≠[])(hz:(ds++es).length<=1000):X5 F U c (ib .Add) (.a9 (.tuple ds)) (.a9 (.tuple es)) (.a9 (.tuple (ds++es))) c:=λG s x y S r f=>by
 obtain⟨a,items,n,rfl,p,r⟩:=r;obtain⟨w,i,n2,rfl,k,f⟩:=f;have l1:=r.all.length.trans Zg;have l2:=f.all.length.trans Zg;refine P.add_tuple (S.sr.y9 _ _ (.inl p)) (S.sr.y9 _ _ (.inl k)) (λq=>h (Sc (l1.trans (Array.isEmpty_iff_size_eq_zero.mp q)))) (λq=>v (Sc (l2.trans (Array.isEmpty_iff_size_eq_zero.mp q)))) ?_ (O9 (rR l1 (rR l2 (bg (jg▸hz) (by decide)))));obtain⟨g,l,m⟩:=S.data (ob:=v7 _ 0) rfl;exact⟨_,g,l,⟨_,_,_,rfl,m,O3.mono g.p (rL ec (.of (r.all.append f.all)))⟩,rfl,rfl,rfl⟩
variable{α:Type}{c1 c2 c3 c4:Cx}{h':Be}{o':d9}{U' U'':Tg->Prop}{R:Gh->α->Prop}{pos:re}{k:kg}{f:kg->gg AV}
section
variable{α β K:Type}[ef K]{R:α->β->Prop}
theorem R7.some_of{x:gg α}{y:gg β}{a:α}(q:R7 R x y)(e:x=some a):∃v,y=some v/\R a v:=by
 rw [e] at q;cases y with
 |none=>exact q.elim
 |some v=>exact⟨v,rfl,q⟩
theorem R7.isSome{x:gg α}{y:gg β}(q:R7 R x y):y.isSome=x.isSome:=by
 cases x with
 |none=>cases y with
  |none=>rfl
  |some v=>exact q.elim
 |some a=>refine O8 (q.some_of rfl) λv e z'=> ?_;refine rL e ?_;rfl
theorem y2{R:α->zg->Prop}{f:K->gg α}{kvs:dg (K×zg)}{k:K}{u:α}{v:zg}(g:∀k,R7 R (f k) (Vf kvs k))(r:R u v)(x:K):R7 R (f9 f k u x) (Vf (ð kvs k v) x):=by
 refine rL f6 ?_;unfold f9;by_cases h:x=k
 ·refine rL (xg h) (rL (xg h) ?_);exact r
 ·refine rL (og h) (rL (og h) ?_);exact g x
theorem pV{R:α->zg->Prop}{f:K->gg α}{kvs:dg (K×zg)}{k:K}(g:∀k,R7 R (f k) (Vf kvs k))(x:K):R7 R (H9 f k x) (Vf (without kvs k) x):=by
 refine rL dZ ?_;unfold H9;by_cases h:x=k
 ·refine rL (xg h) (rL (xg h) ?_);trivial
 ·refine rL (og h) (rL (og h) ?_);exact g x
theorem O7{R:α->zg->Prop}{f:K->gg α}{kvs:dg (K×zg)}(l:vq f)(hn:(kvs.map (·.1)).Nodup)(n:∀k,R7 R (f k) (Vf kvs k)):kvs.length<=1000000:=by
 refine O8 l λL h hl=>(bg (bg (Bg (ng _).symm) (Da hn λk m=>h k ?_)) hl);refine O8 (List.mem_map.mp m) λp hp e=>(zE (u5 (List.any_eq_true.mpr ⟨p,hp,Dg e⟩)) λv g=> ?_);refine rR ((n k).isSome) (rL g ?_);rfl
theorem x6{prog:Vd}{w:Ab}{knd:KeyKind prog w K}{a:yg}{kvs:dg (K×zg)}(x:h.DictOf knd a kvs):(kvs.map (·.1)).Nodup:=D6 x λz' z' z' q=>q.2.2.2.2.2
end
theorem DX{l:Type}{f:kg->gg l}(h:∀t,(f t).isSome=true->j7 t=true):vq f:=
 ⟨Ah 500,λk g=>by
  have:=h k g;unfold j7 at this;rw [Sg,Þ,Þ] at this;exact List.mem_map.mpr ⟨k.toNat,List.mem_range.mpr ((đ this.1).mpr this.2),db this.1⟩,by decide⟩
theorem XP{g:Type}{f:Str->gg g}(h:∀t,(f t).isSome=true->t∈SK):vq f:=⟨SK,h,by decide⟩
section
variable{α K:Type}[ef K]{R:K->Prop}{f:K->gg α}{k:K}{u:α}
theorem a5(h:∀t,(f t).isSome=true->R t)(r:R k)(t:K)(q:(f9 f k u t).isSome=true):R t:=by
 unfold f9 at q;split at q
 ·rename_i e;refine rL e ?_;exact r
 ·exact h t q
theorem GV(h:∀t,(f t).isSome=true->R t)(t:K)(q:(H9 f k t).isSome=true):R t:=by
 unfold H9 at q;split at q
 ·exact(by nomatch q)
 ·exact h t q
end
noncomputable def lk(l:dg (kg×AV))(k:kg):gg AV:=(l.find? λp=>p.1=k).map (·.2)
noncomputable def Jh:d9->gg (kg->gg AV)
 | .p9 _ f=>some f
 | .M9 _ l=>some (lk l)
 |_=>none
theorem TA{l:dg (kg×AV)}{kvs:dg (kg×zg)}(r:r9 (λx y=>x.1=y.1/\F9 G x.2 y.2) l kvs)(k:kg):R7 (F9 G) (lk l k) (Vf kvs k):=by
 unfold lk Vf;induction r with
 |nil=>trivial
 |cons r _ i=>
  refine rL (jd) (rL (jd) (rR r.1 ?_));split
  ·exact r.2
  ·exact i
theorem KR(S:SR W σ G h)(e:σ τ=some o)(g:Jh o=some f):∃kvs,h.DictOf (Bb W.prog W.w) (G.μ τ) kvs/\∀k,R7 (F9 G) (f k) (Vf kvs k):=by
 have r:=S.g9 _ o e;cases o with
 |p9 w f=>haveI g:=ig g;subst g;exact r.imp λkvs q=>⟨q.1,q.2.1⟩
 |M9 w l=>haveI g:=ig g;subst g;exact r.imp λkvs q=>⟨q.1,λk=>TA q.2 k⟩
 |_=>cases g
theorem SR.nT(S:SR W σ G h)(e:σ τ=some o)(hw:o.wr=true\/xc<G.μ τ)(g:o.ad (G.μ τ) (G.μ τ)):(G.μ τ==ĉ)=false:=by
 exact gf λz=>absurd ((hw.elim (λw=>(S.at_ _ _ (S.own _ o _ e w g)).1.2.2.2) id)) (by refine rL z ?_;decide)
theorem ii(k:kg)(t:Tok):(Bb W.prog W.w).is k (.int k t)=true:=jf k
theorem yO{o' i:Expr}(e:c.σ τ=some o)(h:Jh o=some f)(hx:f k=some a)(hs:∀a k t,gb i false (.ref a) (.int k t)=Û [.ref a,.int k t] (Ă (.ref a) (.int k t))):X5 F U c (Zc o' i) (.g9 τ) (.a9 (.int k)) a c:=λG s x y S r n=>by
 obtain rfl:x= .ref _:=r;obtain⟨tk,rfl⟩:=n;refine O8 (KR S.sr e h) λkvs hd g=>(O8 ((g k).some_of hx) λv l m=> ?_);exact tail_any hd.mapOf.typeIs slot_dict_getitem.lookup (wpAny_getItem_of (ii k _) hd.mapOf l (.here S m (SS.heap _ _))) (hs _ _ _)
theorem rI(e:c.σ τ=some o)(g:Jh o=some f)(hm:∀G h,SR F.W c.σ G h->(G.μ τ==ĉ)=false):X5 F U c (we .In) (.a9 (.int k)) (.g9 τ) (.a9 (.bool (f k).isSome)) c:=λG s x y S r m=>by
 obtain rfl:y= .ref _:=m;obtain⟨tk,rfl⟩:=r;exact O8 (KR S.sr e g) λkvs hd l=>(wpAny_in_of (ii k _) (hm G _ S.sr) hd.mapOf ((l k).isSome▸ .here S rfl (SS.heap _ _)))
theorem uV(e:c.σ τ=some o)(g:Jh o=some f)(hm:∀G h,SR F.W c.σ G h->(G.μ τ==ĉ)=false):X5 F U c (we .NotIn) (.a9 (.int k)) (.g9 τ) (.a9 (.bool (!(f k).isSome))) c:=λG s x y S r m=>by
 obtain rfl:y= .ref _:=m;obtain⟨tk,rfl⟩:=r;exact O8 (KR S.sr e g) λkvs hd l=>(wpAny_notIn_of (ii k _) (hm G _ S.sr) hd.mapOf ((l k).isSome▸ .here S rfl (SS.heap _ _)))
theorem FG{o' i:Expr}{f:Str->gg AV}{k:Str}(e:c.σ τ=some (.w8 f))(hx:f k=some a)(hs:∀a k t,gb i false (.ref a) (.str k t)=Û [.ref a,.str k t] (Ă (.ref a) (.str k t))):X5 F U c (Zc o' i) (.g9 τ) (.a9 (.str k)) a c:=λG s x y S r m=>by
 obtain rfl:x= .ref _:=r;refine aL m λz' z' q=> ?_;subst q;refine e6 (S.sr.g9 _ _ e) λkvs hd h z'=>(O8 ((h k).some_of hx) λv g l=> ?_);exact tail_any hd.mapOf.typeIs slot_dict_getitem.lookup (wpAny_getItem_of (by exact jf k) hd.mapOf g (.here S l (SS.heap _ _))) (hs _ _ _)
def YD(F:Fm)(U:Tg->Prop)(c:Cx)(f:zg->zg->Ra sa)(a b:AV)(c':Cx):Prop:=∀G s x y,ST F c G s.heap->F9 G a x->F9 G b y->Yg (Mk F.W) F.A (f x y) (RA F U c' G s λz' z'=>True) no s
def pL(F:Fm)(U:Tg->Prop)(c:Cx)(f:zg->zg->zg->Ra sa)(a b d:AV)(c':Cx):Prop:=∀G s x y z,ST F c G s.heap->F9 G a x->F9 G b y->F9 G d z->Yg (Mk F.W) F.A (f x y z) (RA F U c' G s λz' z'=>True) no s
theorem RA.upd{l:Type}{R:Gh->l->Prop}{v:l}{tk:yg}(S:ST F c G s.heap)(e:c.σ τ=some o)(hw:o.wr=true)(g:o'.wr=true)(p:∀a,o'.ad (G.μ τ) a↔a=G.μ τ)(h:∀a,o.ad (G.μ τ) a↔a=G.μ τ)(hs:Ge (G.μ τ) s.heap h')(r:OR F.W G h' (G.μ τ) o')(q:R G v):
  RA F U ⟨c.ρ,up c.σ τ o'⟩ G s R v {s with heap:=h',toks:=tk}:=
 ⟨G,.refl,S.upd e hw g (λa=>(p a).trans (h a).symm) (λa n=>hs.2 a λz=>n (z▸S.sr.own _ o _ e hw ((h _).mpr rfl))) r,q,SS.heap _ _⟩
theorem JG(e:c.σ τ=some (.p9 true f))(p:j7 k=true):pL F U c Sb (.g9 τ) (.a9 (.int k)) a ⟨c.ρ,up c.σ τ (.p9 true (f9 f k a))⟩:=λG s x y z S m n r=>by
 obtain rfl:x= .ref _:=m;obtain⟨tk,rfl⟩:=n;exact e6 (S.sr.g9 _ _ e) λkvs hd l g=>(rc (ii k _) hd (λh' h hs=> .upd S e rfl rfl (λz'=>Ef) (λz'=>Ef) hs ⟨_,h,y2 l r,a5 g p⟩ trivial) (O9 (bg (O7 (DX g) (x6 hd) l) (by decide))))
noncomputable def X6(l:dg (kg×AV))(k:kg)(v:AV):dg (kg×AV):=if l.any (λp=>decide (p.1=k)) then l.map (λp=>if p.1=k then(p.1,v) else p) else l++[(k,v)]
theorem aR{l:dg (kg×AV)}{kvs:dg (kg×zg)}(r:r9 (λx y=>x.1=y.1/\F9 G x.2 y.2) l kvs){v:zg}(q:F9 G a v):r9 (λx y=>x.1=y.1/\F9 G x.2 y.2) (X6 l k a) (ð kvs k v):=by
 haveI e:l.any (λp=>decide (p.1=k))=kvs.any (λp=>decide (p.1=k)):=by
  induction r with
  |nil=>rfl
  |cons r _ i=>rw [Ue,Ue,r.1,i]
 unfold X6 ð;refine rL e ?_;split
 ·rename_i m;clear e m;induction r with
  |nil=>exact .nil
  | @cons p y _ _ r _ i=>
   refine .cons ?_ i;show(if p.1=k then(p.1,a) else p).1=(if y.1=k then(y.1,v) else y).1/\F9 G (if p.1=k then(p.1,a) else p).2 (if y.1=k then(y.1,v) else y).2;by_cases z:p.1=k
   ·refine rL (xg z) (rL (xg (r.1▸z)) ?_);exact⟨r.1,q⟩
   ·refine rL (og z) (rL (og (r.1▸z)) ?_);exact r
 ·exact r.append (.cons ⟨rfl,q⟩ .nil)
theorem HG{l:dg (kg×AV)}(e:c.σ τ=some (.M9 true l))(hz:l.length<=1000000):pL F U c Sb (.g9 τ) (.a9 (.int k)) a ⟨c.ρ,up c.σ τ (.M9 true (X6 l k a))⟩:=λG s x y z S m n r=>by
 obtain rfl:x= .ref _:=m;obtain⟨tk,rfl⟩:=n;exact O8 (S.sr.g9 _ _ e) λkvs hd g=>(rc (ii k _) hd (λh' h hs=> .upd S e rfl rfl (λz'=>Ef) (λz'=>Ef) hs ⟨_,h,aR g r⟩ trivial) (O9 (bg (j3 g hz) (by decide))))
theorem EG{f:Str->gg AV}{k:Str}(e:c.σ τ=some (.w8 f))(p:k∈SK):pL F U c Sb (.g9 τ) (.a9 (.str k)) a ⟨c.ρ,up c.σ τ (.w8 (f9 f k a))⟩:=λG s x y z S m n r=>by
 obtain rfl:x= .ref _:=m;refine aL n λz' z' u=> ?_;subst u;exact e6 (S.sr.g9 _ _ e) λkvs hd l g=>(rc (by exact jf k) hd (λh' h hs=> .upd S e rfl rfl (λz'=>Ef) (λz'=>Ef) hs ⟨_,h,y2 l r,a5 g p⟩ trivial) (O9 (bg (O7 (XP g) (x6 hd) l) (by decide))))
theorem KG(e:c.σ τ=some (.p9 true f))(m:(f k).isSome=true):YD F U c Ý (.g9 τ) (.a9 (.int k)) ⟨c.ρ,up c.σ τ (.p9 true (H9 f k))⟩:=λG s x y S r n=>by
 obtain rfl:x= .ref _:=r;obtain⟨tk,rfl⟩:=n;refine e6 (S.sr.g9 _ _ e) λkvs hd g l=> ?_;exact wpAny_delItem_slot hd.mapOf.typeIs (by decide) Ñ (ß Ñ hd.mapOf.typeIs PySem.F.entry_dict_delitem (PySem.F.args_dict_delitem_2 _ _)
  (meets_dict_delitem_pairs _ _ (ii k _)) ⟨kvs,hd,O9 (bg (O7 (DX l) (x6 hd) g) (by decide)),(g k).isSome.trans m,λh' h hs=> .upd S e rfl rfl (λz'=>Ef) (λz'=>Ef) hs ⟨_,h,pV g,GV l⟩ trivial⟩)
theorem oH{o i e:Expr}{p pos:re}(E1:Ev F U c e a c1)(m:∀τ,U τ->U' τ)(g:∀τ,U' τ->U'' τ)(A:a.keeps U')(E:Ev F U' c1 o b c2)(V:b.keeps U'')(E3:Ev F U'' c2 i r c3)(O:pL F U c3 Sb b r a c4)(hs:∀env,Ce e (some (.Subscript o i p)) pos.line env=pure false):X1 F U c (.Assign [.Subscript o i p] e pos) .next c4:=λG s S=>
 ja (E1.bind S λZ v z' D H B J=>E.bind D λj f z' M N n P=>E3.bind M λd Y X I w l Q=>Jg (O _ _ _ _ v I (N.mono l V) w (H.mono (n.trans (l.weak g)) A)) (λz' z' z=>z.casesOn λL T y z' q=>⟨L,((B.trans (n.weak m)).trans (l.weak λτ h=>g τ (m _ h))).trans T,y,rfl,((J.trans P).trans Q).trans q⟩) λz' z' z=>z) (hs _)
theorem pC{o i:Expr}{p pos:re}(E1:Ev F U c o a c1)(l:∀τ,U τ->U' τ)(h:a.keeps U')(E:Ev F U' c1 i b c2)(O:YD F U c2 Ý a b c3):X1 F U c (.Delete [.Subscript o i p] pos) .next c3:=λG s S=>
 wpAny_Delete (wpAny_deleteEach_cons (wpAny_delete_Subscript (E1.bind S λM v z' q r m A=>E.bind q λN w L B H g I=>Jg (O _ _ v w B (r.mono g h) H) (λz' z' z=>z.casesOn λD n y z' J=>wpAny_deleteEach_nil ⟨D,(m.trans (g.weak l)).trans n,y,rfl,(A.trans I).trans J⟩) λz' z' z=>z)))
end
section
variable{α:Type}{c c1:Cx}{F:Fm}{W:Wd}{σ:Tg->gg d9}{vs:dg AV}{es:dg Expr}{G:Gh}{h h':Be}{τ:Tg}{o:d9}{U:Tg->Prop}{s:Gg}{a r:AV}{R:Gh->α->Prop}{t u:wg}{x name:Str}{d e:vg}{i k:kg}{f:dg KI->gg AV}{ks:dg KI}
section
variable{K:Type}[ef K]
theorem c6(xs:dg (K×yg×zg))(k:K):(atKey xs k).map (·.2)=Vf (xs.map λx=>(x.1,x.2.2)) k:=by
 induction xs with
 |nil=>rfl
 |cons x _ i=>
  refine rL Cf (rL I9 ?_);unfold atKey at i⊢;refine rL (jd) ?_;by_cases h:x.1=k
  ·refine rL (xg h) (rL (Dg h) ?_);rfl
  ·refine rL (og h) (rL (Ig h) ?_);exact i
theorem aV(xs:dg (K×yg×zg))(k:K)(a:yg)(v:zg):(storedH xs k a v).map (λx=>(x.1,x.2.2))=ð (xs.map λx=>(x.1,x.2.2)) k v:=by
 unfold storedH ð;haveI:(atKey _ k).isSome=(xs.map λx=>(x.1,x.2.2)).any λg=>decide (g.1=k):=by
  rw [<-rf,c6];cases h:(xs.map λx=>(x.1,x.2.2)).any λg=>decide (g.1=k) with
  |true=>refine zE (u5 h) λv l=> ?_;refine rL l ?_;rfl
  |false=>refine rL (P3 (rL h cf)) ?_;rfl
 refine rL this ?_;split
 ·refine rL Vg (rL Vg ?_);refine wd λx z'=> ?_;show((if x.1=k then(x.1,x.2.1,v) else x).1,(if x.1=k then(x.1,x.2.1,v) else x).2.2)=if x.1=k then(x.1,v) else(x.1,x.2.2)
  by_cases h:x.1=k
  ·exact rL (xg h) (rL (xg h) rfl)
  ·exact rL (og h) (rL (og h) rfl)
 ·refine rL Ng ?_;rfl
theorem qX(xs:dg (K×yg×zg))(k:K):(a4 xs k).map (λx=>(x.1,x.2.2))=without (xs.map λx=>(x.1,x.2.2)) k:=by
 unfold a4 without;refine rL List.filter_map ?_;exact eg _ (Á λx z'=>by
  exact(decide_not).symm)
end
theorem rN{prog:Vd}{w:Ab}{P:yg->gg Fd}:∀{l vs},O3 P (l.map .int) vs->ItemsAre (Bb prog w) l vs:=by
 intro l;induction l with
 |nil=>intro vs r;refine rL (r) ?_;exact .nil
 |cons i l g=>intro vs r;refine u8 r λy m e h z=> ?_;refine zE h λt q=> ?_;refine rL e ?_;exact .cons (q▸jf i) (g z)
theorem gz{prog:Vd}{w:Ab}{P:yg->gg Fd}(hp:∀a o,P a=some o->h.get? a=some o){k:KI}{v:zg}(r:DR P (KI.a9 k) v):LY prog w h k v:=by
 cases k with
 |tup l=>exact r.imp λa r=>M8 r λitems n r=>⟨r.1,_,items,n,hp _ _ r.2.1,rfl,rfl,rN r.2.2⟩
 |_=>exact r
theorem hN{prog:Vd}{w:Ab}{P:yg->gg Fd}(hp:∀a o,P a=some o->h.get? a=some o){g:dg KI}{vs:dg zg}(r:r9 (λk v=>DR P (KI.a9 k) v) g vs):r9 (LY prog w h) g vs:=r.mono λz' z' z' r=>gz hp r
theorem r9.xC{l n m:Type}{R:n->m->Prop}{f:l->n}{xs:dg l}:∀{g},r9 R (xs.map f) g->r9 (λx y=>R (f x) y) xs g:=by
 induction xs with
 |nil=>intro g r;refine rL r.nil_inv ?_;exact .nil
 |cons x _ i=>intro g r;refine u8 r.cons_inv λy p e r q=> ?_;refine rL e ?_;exact .cons r (i q)
def uD(G:Gh)(g:dg KI)(a:yg):Prop:=∃items n,G.P a=some (v7 items n)/\r9 (λk v=>DR G.P (KI.a9 k) v) g items.toList
theorem dW(S:SR W σ G h){v:zg}(r:F9 G (.a9 (.tuple (ks.map KI.a9))) v):∃a,v= .ref a/\uD G ks a/\(TZ W.prog W.w).is h ks a:=by
 refine f8 r λa items n e u=>zA u λp q=> ?_;haveI q:=q.all.xC;exact⟨a,e,⟨items,n,p,q⟩,_,items,n,S.y9 _ _ (.inl p),rfl,rfl,hN (λa o e=>S.y9 a o (.inl e)) q⟩
theorem YV(S:SR W σ G h)(e:σ τ=some (.V9 f)):∃xs,h.DictOfH (TZ W.prog W.w) (G.μ τ) xs/\(∀x∈xs,uD G x.1 x.2.1)/\∀k,R7 (F9 G) (f k) (Vf (xs.map λx=>(x.1,x.2.2)) k):=by
 refine F0 (S.g9 _ _ e) λz' xs u l p=>zA p λn r=>(Z5 u λes ep g q=> ?_);exact⟨xs,⟨_,es,ep,g,⟨rfl,rfl,rfl⟩,rfl,q,λx hx=>M8 (l x hx) λitems n z=>⟨_,items,n,S.y9 _ _ (.inl z.1),rfl,rfl,hN (λa o e=>S.y9 a o (.inl e)) z.2⟩,n⟩,l,λk=>c6 _ k▸r k⟩
theorem QI{xs:dg (dg KI×yg×zg)}{a:yg}(d:h.DictOfH (TZ W.prog W.w) a xs)(w:∀x∈xs,uD G x.1 x.2.1)(r:∀k,R7 (F9 G) (f k) (Vf (xs.map λx=>(x.1,x.2.2)) k))(v:∀k,(f k).isSome=true->k∈TK):OR W G h a (.V9 f):=by
 obtain⟨o,es,ep,q,⟨c1,m,p⟩,hd,n,_,hn⟩:=d;refine⟨v,xs,⟨es,ep,q.trans (eg _ ?_),n⟩,w,hn,λk=>c6 _ k▸r k⟩;obtain⟨c,l,g,s⟩:=o;subst c1;subst m;subst p;subst hd;rfl
theorem CG(e:c.σ τ=some (.V9 f)):X4 F U c (λxs=>call (.builtin "dict.get") xs []) [.g9 τ,.a9 (.tuple (ks.map KI.a9))] ((f ks).getD (.a9 .none)) c:=λG s z' S r=>by
 obtain⟨x,A,rfl,w,r⟩:=r.cons_inv;obtain⟨y,A,rfl,z,r⟩:=r.cons_inv;obtain rfl:=r.nil_inv;obtain rfl:x= .ref _:=w;refine e6 (YV S.sr e) λxs hd z' B=>(e6 (dW S.sr z) λa D z' m=> ?_);subst D;refine ß Bd hd.typeIs Ob (PySem.F.args_dict_get_2 _ _) (meetsH_dict_get _ _ a (S.sr.nT e (.inl rfl) rfl)) ⟨S.room (n:=1+8) (by decide),ks,xs,m,hd,?_⟩;refine .here S ?_ (SS.heap _ _);rw [c6];haveI:=B ks;cases p:f _ with
 |none=>rw [p] at this;cases h:Vf _ ks with
  |none=>exact rfl
  |some v=>rw [h] at this;exact this.elim
 |some u=>haveI this:=p▸this;refine O8 (this.some_of rfl) λv h q=> ?_;refine rL h ?_;exact q
theorem V0{xs:dg (dg KI×yg×zg)}{a:yg}(d:h.DictOfH (TZ W.prog W.w) a xs):(xs.map (·.1)).Nodup:=D6 d λz' z' z' q=>q.2.2.2.2.2
theorem zV{n:yg}:(Ah n).length=n:=by unfold Ah;rw [ng,Bf]
theorem Q2{n q:Type}{l:dg n}{g:n->dg q}{m:yg}(h:∀a,(g a).length=m):(l.flatMap g).length=l.length*m:=by
 induction l with
 |nil=>rw [Ø,Nat.zero_mul];rfl
 |cons a l i=>rw [List.flatMap_cons,jg,i,h,Yd,Nat.succ_mul,Mf]
theorem WO:KY.length=3661:=by
 refine rL jg (rL (Q2 λz'=>by rw [ng]) ?_);rw [Yd,ng,zV]
theorem rF:TK.length<=1000000:=by
 refine rL jg ?_;rw [Q2 λz'=>by rw [ng],zV,Q2 λz'=>by
  refine rL (Q2 (m:=2*14) λz'=>by rfl) ?_;rw [WO]]
 decide
theorem Dy{xs:dg (dg KI×yg×zg)}(h:∀k,(f k).isSome=true->k∈TK)(hn:(xs.map (·.1)).Nodup)(g:∀k,R7 (F9 G) (f k) (Vf (xs.map λx=>(x.1,x.2.2)) k)):xs.length<=Pd:=by
 haveI:=O7 ⟨TK,h,rF⟩ (rL Vg hn) g;rw [ng] at this;exact O9 (bg this (by decide))
theorem BG(e:c.σ τ=some (.V9 f))(A:ks∈TK):pL F U c Sb (.g9 τ) (.a9 (.tuple (ks.map KI.a9))) a ⟨c.ρ,up c.σ τ (.V9 (f9 f ks a))⟩:=λG s x y z S r w v=>by
 obtain rfl:x= .ref _:=r;refine e6 (YV S.sr e) λxs hd l p=> ?_;have q:=(S.sr.g9 _ _ e).1;refine e6 (dW S.sr w) λa B kk g=> ?_;subst B;refine wpAny_setItem_heap (S.room (n:=1+8) (by decide)) g hd (λh' h hs=> .upd S e rfl rfl (λz'=>Ef) (λz'=>Ef) hs (QI h (λx hx=> ?_) (λk=>by rw [aV];exact y2 p v k) (a5 q A)) trivial) (Dy q (V0 hd) p);unfold storedH at hx;split at hx
 ·refine O8 (List.mem_map.mp hx) λy m B=> ?_;subst B;unfold putAt;split
  ·exact l y m
  ·exact l y m
 ·exact(List.mem_append.mp hx).elim (l x) λhx=>List.mem_singleton.mp hx▸kk
theorem DG(e:c.σ τ=some (.V9 f))(p:(f ks).isSome=true):YD F U c Ý (.g9 τ) (.a9 (.tuple (ks.map KI.a9))) ⟨c.ρ,up c.σ τ (.V9 (H9 f ks))⟩:=λG s x y S r q=>by
 obtain rfl:x= .ref _:=r;refine e6 (YV S.sr e) λxs hd v l=> ?_;have m:=(S.sr.g9 _ _ e).1;refine e6 (dW S.sr q) λa w z' g=> ?_;subst w;exact tW (S.room (n:=1+8) (by decide)) g hd (by rw [<-rf,c6,(l _).isSome];exact p) (λh' z' h hs=> .upd S e rfl rfl (λz'=>Ef) (λz'=>Ef) hs (QI h (λx hx=>v x (List.mem_filter.mp hx).1) (λk=>by rw [qX];exact pV l k) (GV m)) trivial) (Dy m (V0 hd) l)
theorem JO{id:wb}(e:c.σ τ=some (.V9 f))(g:Slot "dict" name id)(h:typeOf (.builtin id)=pure (.type "method_descriptor")):Mt F c (.g9 τ) name (.builtin id):=λG s x z' Q S r q=>by
 obtain rfl:x= .ref _:=r;exact O8 (YV S.sr e) λxs hd z'=>(Ü hd.typeIs é g h (λa z=>by cases z;exact let⟨o,_,_,ho,hc,_⟩:=hd;⟨o,ho,hc.2.1⟩) q)
variable{c2:Cx}{ws:dg AV}{G':Gh}{U':Tg->Prop}{s' s'':Gg}{b:AV}{pos:re}{ds:dg vg}{j:kg}
theorem U3{y n:yg}{items:Rf zg}(g:s.heap.get? y=some (listOf items n)):s.TypeIs (.ref y) "list":=⟨_,g,rfl⟩
theorem VX{id:wb}(hl:Ls c.σ a vs)(f:Slot "list" name id)(h:typeOf (.builtin id)=pure (.type "method_descriptor")):Mt F c a name (.builtin id):=λG s x z' Q S r q=>by
 refine f8 (a6 S.sr hl r) λy z' n u p=>zA p λg z'=> ?_;subst u;exact Ü (U3 g) PySem.F.plainAttrs_list f h (λa z=>by cases z;exact⟨_,g,rfl⟩) q
theorem RA.lst{α:Type}{R:Gh->α->Prop}{v:α}(S:ST F c G s.heap)(e:c.σ τ=some (.list true vs)){items:Rf zg}{n:yg}(g:s.heap.get? (G.μ τ)=some (listOf items n))(f:Rf zg->Rf zg)(r:r9 (F9 G) ws (f items).toList)(q:R G v):
  RA F U ⟨c.ρ,up c.σ τ (.list true ws)⟩ G s R v {s with heap:=s.heap.update (G.μ τ) (Obj.mapSeq f)}:=
 .upd S e rfl rfl (λz'=>Ef) (λz'=>Ef) (Hd s.heap (G.μ τ) _) ⟨f items,_,IsL.update g f,r⟩ q
theorem AO(e:c.σ τ=some (.list true vs))(hz:vs.length<=1000000):X4 F U c (λxs=>call (.builtin "list.append") xs []) [.g9 τ,a] (.a9 .none) ⟨c.ρ,up c.σ τ (.list true (vs++[a]))⟩:=λG s z' S r=>by
 obtain⟨x,m,rfl,l,r⟩:=r.cons_inv;obtain⟨y,m,rfl,f,r⟩:=r.cons_inv;obtain rfl:=r.nil_inv;obtain rfl:x= .ref _:=l;exact Z5 (S.sr.g9 _ _ e) λitems n g q=>(call_meets ä (U3 g) PySem.F.entry_list_append (PySem.F.args_list_append_2 _ _) (list_append _ _ n _ (O9 (bg (Bg (q.length.trans Zg).symm) (bg hz (by decide))))) ⟨g,.lst S e g _ (rL Kd (q.append (.cons f .nil))) rfl⟩)
theorem xO(e:c.σ τ=some (.list true vs))(hl:Ls c.σ a ws)(hz:vs.length+ws.length<=1000000):X4 F U c (λxs=>call (.builtin "list.extend") xs []) [.g9 τ,a] (.a9 .none) ⟨c.ρ,up c.σ τ (.list true (vs++ws))⟩:=λG s z' S r=>by
 obtain⟨x,p,rfl,m,r⟩:=r.cons_inv;obtain⟨y,p,rfl,l,r⟩:=r.cons_inv;obtain rfl:=r.nil_inv;obtain rfl:x= .ref _:=m;refine Z5 (S.sr.g9 _ _ e) λitems n g q=>(f8 (a6 S.sr hl l) λw i z' u h=>zA h λv f=> ?_);subst u;have hz:items.size+i.size<=1000000:=by refine rR (q.length.trans Zg) (rR (f.length.trans Zg) ?_);exact hz
 refine call_meets ã (U3 g) PySem.F.entry_list_extend (PySem.F.args_list_extend_2 _ _) (AutoSeq1.list_extend_list_list_0 _ _ n _ _ _ ?_ (O9 (bg (Cg _ _) (bg hz (by decide)))) (bf (O9 (bg hz (by decide))))) ⟨g,v,.lst S e g _ (rL ec (q.append f)) rfl⟩;unfold Builtin.List.listTooLong;intro _;have z:=û;lia
theorem VB(e:c.σ τ=some (.list true (vs++[a])))(hz:vs.length<=1000000):X4 F U c (λxs=>call (.builtin "list.pop") xs []) [.g9 τ] a ⟨c.ρ,up c.σ τ (.list true vs)⟩:=λG s z' S r=>by
 obtain⟨x,p,rfl,f,r⟩:=r.cons_inv;obtain rfl:=r.nil_inv;obtain rfl:x= .ref _:=f;refine Z5 (S.sr.g9 _ _ e) λitems n g q=> ?_;have hl:vs.length+1=items.size:=by refine rR (q.length.trans Zg) (rL jg ?_);rfl
 refine O8 (kh q (j:=items.size-1) (rR hl (List.getElem?_concat_length))) λy h m=> ?_;refine call_meets ý (U3 g) PySem.F.entry_list_pop (PySem.F.args_list_pop_1 _) (MeetsSeq.list_pop_last _ _ n y h (O9 (hl▸bg (Hg hz) (by decide)))) ⟨g,.lst S e g _ ?_ m⟩;haveI q:=q.take vs.length;rw [List.take_left' rfl] at q;obtain⟨l⟩:=items;simp only [É,Cb];rw [È,ą (show l.length<=l.length-1+1 from Nat.le_succ_of_pred_le (Ag _)),Fg];exact(((Nat.eq_sub_of_add_eq hl))▸q)
theorem aM{hi:Expr}{p:re}(E:Ev F U c hi (.a9 (.int i)) c1):Ev F U c (.Slice none (some hi) none p) (.slice none (some i) none) c1:=λG s S=>
 wpAny_Slice (by
  rw [evalPart_none];exact ug (E.bind S λG1 v1 s1 S1 r1 g1 q1=>ug (r1.elim λtk e=>by
   obtain⟨g4,S4,p⟩:=S1.data (ob:={cls:= .type "slice",data:= .fields #[.none,v1,.none]}) rfl;exact⟨_,g1.trans g4,S4,⟨_,_,v1,_,rfl,p,.none,e▸ .int i tk,.none⟩,q1.trans ⟨rfl,rfl,rfl⟩⟩)))
theorem HE{f:Expr}{p:re}(E:Ev F U c f (.a9 (.int i)) c1):Ev F U c (.Slice none none (some f) p) (.slice none none (some i)) c1:=λG s S=>
 wpAny_Slice (by
  exact ug (ug (E.bind S λw v z' n r m q=>(r.elim λtk e=>by
   obtain⟨l,g,p⟩:=n.data (ob:={cls:= .type "slice",data:= .fields #[.none,.none,v]}) rfl;exact⟨_,m.trans l,g,⟨_,_,_,v,rfl,p,.none,.none,e▸ .int i _⟩,q.trans ⟨rfl,rfl,rfl⟩⟩))))
inductive RJ(F:Fm)(U:Tg->Prop)(c:Cx)(G:Gh)(s:Gg)(ws:dg AV)(v:zg)(s':Gg):Prop
 |mk (G':Gh) (e:Gr U G G') (S:ST F c G' s'.heap) (q:SS s s') (x:yg) (items:Rf zg) (n:yg) (v:v= .ref x) (g:s'.heap.get? x=some (listOf items n)) (f:¬G'.has x) (fa:x∉F.fa) (fc:∀y d,F.env.cells.lookup y=some d->d≠x) (st:xc<x) (r:r9 (F9 G') ws items.toList)
def uL(F:Fm)(U:Tg->Prop)(c:Cx)(e:Expr)(w:dg AV)(c':Cx):Prop:=∀G s,ST F c G s.heap->Yg (Mk F.W) F.A (Nc e F.env) (RJ F U c' G s w) no s
theorem RJ.BT{v:zg}(e:Gr U G G')(q:SS s s')(z:RJ F U c G' s' ws v s''):RJ F U c G s ws v s'':=z.casesOn λw y S A x items n v g f p l m r=>⟨w,e.trans y,S,q.trans A,x,items,n,v,g,f,p,l,m,r⟩
theorem RJ.push{items:Rf zg}{tk n:yg}(S:ST F c G s.heap)(r:r9 (F9 G) ws items.toList)(hk:∀b o,s.heap.get? b=some o->h'.get? b=some o){x:yg}(hx:s.heap.objs.size<=x)(g:h'.get? x=some (listOf items n)):RJ F U c G s ws (.ref x) {s with heap:=h',toks:=tk}:=
 ⟨G,.refl,S.keeps hk,SS.heap _ _,x,items,n,rfl,g,S.sr.fresh hx,S.fr.fresh hx,λy d e z=>(S.fr.alive.2 y d e).elim λz' q=>Nat.not_lt.mpr hx (z▸de q),Og S.sr.statics hx,r⟩
theorem RJ.a9{v:zg}(z:RJ F U c G s (ds.map .a9) v s'):RA F U c G s (λG=>F9 G (.a9 (.list ds))) v s':=z.casesOn λG2 e2 S q2 x items n v g f fa fc st r=>
 ⟨G2.y9 x (listOf items n),e2.trans (.y9 f),S.F4 f fa g,⟨x,items,n,v,xg rfl,r.R6.mono (Gr.y9 (U:=U) f).p⟩,q2⟩
theorem uL.a9{e:Expr}(E:uL F U c e (ds.map .a9) c1):Ev F U c e (.a9 (.list ds)) c1:=λG s S=>Jg (E G s S) (λz' z' z=>z.a9) λz' z' z=>z
theorem nE{es:dg Expr}{pos:re}(E:cS F U c es ws c1)(hz:ws.length<=10000000):uL F U c (.List es pos) ws c1:=λG s S=>
 List_ ((E _).bind S λl z' z' f r g q=>wpAny_newList (.BT g q (.push f r (λz' z' e=>zf _ e) (Ag _) (yf _ rfl))) (O9 (j3 r hz)))
noncomputable def C3{β:Type}(lo hi st:gg kg)(vs:dg β):gg (dg β):=
 if lo=none/\st=none then hi.bind λb=>if 0<=b then some (vs.take b.toNat) else if b= -1 then some (vs.take (vs.length-1)) else none
 else if lo=none/\hi=none/\st=some (-1) then some vs.reverse else none
theorem CY(items:Rf zg):(slicePick items none none (some (-1))).toList=items.toList.reverse:=by rw [krv_pick]
theorem pQ{p:Type}{R:p->zg->Prop}{m l g:gg kg}{vs w:dg p}{items:Rf zg}(e:C3 m l g vs=some w)(r:r9 R vs items.toList):g≠some 0/\r9 R w (slicePick items m l g).toList:=by
 unfold C3 at e;split at e
 ·rename_i z;refine rL z.1 (rL z.2 ?_);refine⟨λz=>(by cases z),?_⟩;cases l with
  |none=>cases e
  |some b=>
   haveI e:(if 0<=b then some _ else if b= -1 then some _ else none)=some w:=e;split at e
   ·rename_i h;refine zE (Ć h) λn q=> ?_;subst q;rw [slicePick_upto',<-ig e];exact r.take n
   ·split at e
    ·rename_i h;exact rL h (rL (show(-1)= -((1):kg) from rfl) (rL ((slicePick_butLast _ 1 (Ag _))) (rR (ig e) (rL r.length (r.take _)))))
    ·exact(by nomatch e)
 ·split at e
  ·rename_i z;refine rL z.1 (rL z.2.1 ?_);rw [z.2.2,CY,<-ig e];exact⟨λz=>(by have z:=ig z;cases z),r.reverse⟩
  ·exact(by nomatch e)
def qq(F:Fm)(c:Cx)(a:AV)(vs:dg AV):Prop:=∀G s v,ST F c G (Shared.heap s)->F9 G a v->∃y items,v= .ref y/\s.heap.IsList y items/\r9 (F9 G) vs items.toList
theorem Ls.rd(hl:Ls c.σ a vs):qq F c a vs:=λG s v S r=>(a6 S.sr hl r).imp λy z=>z.imp λitems z=>z.elim λn z=>⟨z.1,X8 z.2.1,z.2.2⟩
theorem pW{o i:Expr}{A h n:gg kg}(E1:Ev F U c o a c1)(H:Ev F U' c1 i (.slice A h n) c2)(E:∀τ,U τ->U' τ)(J:a.keeps U')(hl:qq F c2 a vs)(hp:C3 A h n vs=some ws)(hz:vs.length<=1000000)
  (hs:∃f:zg->zg->dg zg,∀a b,gb i false (.ref a) (.ref b)=Û (f (.ref a) (.ref b)) (Ă (.ref a) (.ref b))):uL F U c (.Subscript o i pos) ws c2:=λG s S=>
 Subscript_ (E1.bind S λT v z' K B L M=>H.bind K λV w X m r z O=>by
  refine zE hs λf hs=>(u8 (hl _ _ _ m (B.mono z J)) λy z' Y g q=> ?_);subst Y;have hsz:=q.length.trans Zg▸hz;refine T6 r λx l u Q p'=>XJ p' λY p P I D=> ?_;subst Y;obtain⟨N,q⟩:=pQ hp q;exact tail_any g.typeIs slot_list_getitem.lookup (wpAny_getItem_list_slice g ⟨_,m.sr.y9 _ _ (.inl p),rfl,rfl⟩ P I D N (.BT (L.trans (z.weak E)) (M.trans O) (.push m q (λz' z' e=>zf _ e) (Ag _) (yf _ rfl))) (O9 (bg hsz (by decide)))) (hs _ _))
end
section
variable{α:Type}{c:Cx}{F:Fm}{W:Wd}{σ σ':Tg->gg d9}{ρ ρ':dg (Str×AV)}{G:Gh}{h h':Be}{τ:Tg}{o:d9}{U:Tg->Prop}{s:Gg}{a b:AV}{R:Gh->α->Prop}{t:wg}{y:Str}{e:vg}{k:kg}{x:yg}
noncomputable def Gh.putL(G:Gh)(τ:Tg)(x:yg)(L:dg yg):Gh:={G with μ:=λτ'=>if τ'=τ then x else G.μ τ',own:=λb=>if b∈L then some τ else if G.own b=some τ then none else G.own b}
noncomputable abbrev Gh.put(G:Gh)(τ:Tg)(x:yg):Gh:=G.putL τ x [x]
theorem N6{L:dg yg}:(G.putL τ x L).μ τ=x:=xg rfl
theorem i0{L:dg yg}{f:Tg}(q:f≠τ):(G.putL τ x L).μ f=G.μ f:=og q
theorem Gr.put{L:dg yg}(h:¬U τ):Gr U G (G.putL τ x L):=⟨λz' z' q=>q,λz' z' q=>⟨q,rfl⟩,λz' z' q=>⟨q,rfl⟩,λf q=>i0 λe=>h (e▸q)⟩
theorem HS{L:dg yg}{b:yg}{f:Tg}(q:f≠τ)(hx:b∉L):(G.putL τ x L).own b=some f↔G.own b=some f:=by
 show(if b∈L then some _ else if G.own b=some _ then none else G.own b)=some _↔_;refine rL (og hx) ?_;split
 ·rename_i z;refine rL z ?_;exact⟨λe=>(by cases e),λe=>absurd (ig e).symm q⟩
 ·exact Ef
structure tq(W:Wd)(σ σ':Tg->gg d9)(G:Gh)(h h':Be)(τ:Tg)(x:yg)(L:dg yg)(τ':Tg):Prop where
 ex:(σ' τ'=σ τ'/\(∀b,G.own b=some τ'->h'.get? b=h.get? b)/\∀o,σ τ'=some o->o.keeps (·≠τ))\/∃o1 o2,σ τ'=some o1/\o1.wr=true/\σ' τ'=some o2/\o2.wr=true/\(∀a,o2.ad (G.μ τ') a↔o1.ad (G.μ τ') a)/\OR W (G.putL τ x L) h' (G.μ τ') o2
theorem SR.put{L:dg yg}(S:SR W σ G h)(hx:∀b∈L,¬G.has b)(s:∀b∈L,xc<b)(w:o.wr=true)(a:∀b,o.ad x b↔b∈L)(R:OR W (G.putL τ x L) h' x o)(e:σ' τ=some o)(H:∀f,f≠τ->tq W σ σ' G h h' τ x L f)(hp:∀b,(∃o,G.P b=some o\/G.K b=some o)\/(∃o,G.Z b=some o)->h'.get? b=h.get? b):SR W σ' (G.putL τ x L) h' where
 base:=S.base
 y9:=λb q e=>(hp b (.inl ⟨q,e⟩)).trans (S.y9 b q e)
 W7:=λb t q e=>(hp b (.inr ⟨_,e⟩)).trans (S.W7 b t q e)
 pX:=S.pX
 kz:=S.kz
 g9:=λf q z=>by
  by_cases n:f=τ
  ·rw [n] at z⊢;refine rL N6 ?_;exact ig (e.symm.trans z)▸R
  ·refine rL (i0 n) ?_;rcases(H _ n).ex with⟨e1,v,N⟩|⟨K,D,e1,w1,v,A,g,E⟩
   ·have z:=e1▸z;refine((S.g9 _ q z).mono (.put λz=>z rfl) (N q z)).move λb y=> ?_;cases l:q.wr with
    |true=>exact v b (S.own _ q b z l y)
    |false=>exact hp b (.inr ((S.V5 _ q b z l y).elim λz' z=>⟨_,z⟩))
   ·exact ig (v.symm.trans z)▸E
 own:=λf q b z l y=>by
  by_cases n:f=τ
  ·rw [n] at z y⊢;rw [N6,<-ig (e.symm.trans z)] at y;exact xg ((a b).mp y)
  ·rw [i0 n] at y;have:G.own b=some f:=by
    rcases(H _ n).ex with⟨e1,_,_⟩|⟨K,D,e1,w1,v,A,g,E⟩
    ·exact S.own _ q b (e1▸z) l y
    ·exact S.own _ _ b e1 w1 ((g b).mp (ig (v.symm.trans z)▸y))
   exact(HS n λz=>hx b z (.inl ⟨f,this⟩)).mpr this
 V5:=λf q b z l y=>by
  by_cases n:f=τ
  ·rw [n] at z;exact absurd ((ig (e.symm.trans z)▸w).symm.trans l) (by decide)
  ·rw [i0 n] at y;rcases(H _ n).ex with⟨e1,_,_⟩|⟨K,D,e1,w1,v,A,g,E⟩
   ·exact S.V5 _ q b (e1▸z) l y
   ·exact absurd ((ig (v.symm.trans z)▸A).symm.trans l) (by decide)
 at_:=λb f q=>by
  by_cases n:b∈L
  ·have:=(ig ((xg n).symm.trans q)).symm;refine rL this (rL N6 ?_);haveI I:=G.x8 (hx b n);exact⟨⟨I.2.1,I.2.2.1,I.2.2.2,s b n⟩,o,e,w,(a b).mpr n⟩
  ·have m:f≠τ:=λz=>by
    haveI q:(if b∈L then some _ else if G.own b=some _ then none else G.own b)=some f:=q;haveI q:=og n▸q;split at q
    ·exact(by nomatch q)
    ·rename_i y;exact y (z▸q)
   rw [HS m n] at q;refine rL (i0 m) (F0 (S.at_ b _ q) λy p z l M=> ?_);rcases(H _ m).ex with⟨e1,_,_⟩|⟨K,D,e1,w1,v,A,g,E⟩
   ·exact⟨y,p,e1.trans z,l,M⟩
   ·exact⟨y,D,v,A,(g b).mpr (ig (z.symm.trans e1)▸M)⟩
theorem IS{L:dg yg}{b:yg}(n:b∉L)(q:¬G.has b):¬(G.putL τ x L).has b:=Gh.O4
 ⟨(og n).trans (rL ((G.x8 q).1) (og λe=>by exact(by nomatch e))),(G.x8 q).2⟩
theorem FR.put{L:dg yg}(S:FR F ρ G h)(hx:∀b∈L,¬G.has b)(f:∀b∈L,b∉F.fa)(k:∀y v,ρ.lookup y=some v->v.keeps (·≠τ)):FR F ρ (G.putL τ x L) h:=
 S.mono (.put λz=>z rfl) k (λb m=>IS (λz=>f b z m) (S.zY b m)) λb q z y=>(og λe=>hx b e (.inr (.inl ⟨q,.inr z⟩))).trans (rL y (og λe=>by exact(by nomatch e)))
theorem FR.sub(S:FR F ρ G h)(hs:∀y v,ρ'.lookup y=some v->ρ.lookup y=some v):FR F ρ' G h:=
 ⟨S.st,S.ns.imp λm q=>⟨q.1,λx v e1 f=>q.2 x v (hs x v e1) f⟩,λx v e=>S.cell x v (hs x v e),S.live,S.zY,S.k5⟩
theorem D5{p:yg->Prop}(h:p x):∀b∈[x],p b:=λb m=>List.mem_singleton.mp m▸h
theorem ST.vv{L:dg yg}(S:ST F c G h)(R:OR F.W G h x o)(w:o.wr=true)(ad:∀b,o.ad x b↔b∈L)(hx:∀b∈L,¬G.has b)(hf:∀b∈L,b∉F.fa)(st:∀b∈L,xc<b)(hw:o.keeps (·≠τ))(hσ:∀τ' o,τ'≠τ->c.σ τ'=some o->o.keeps (·≠τ))(hρ:∀y v,c.ρ.lookup y=some v->v.keeps (·≠τ)):
  ST F ⟨c.ρ,up c.σ τ o⟩ (G.putL τ x L) h:=
 ⟨S.sr.put hx st w ad (R.mono (.put λz=>z rfl) hw) u7 (λτ' n=>⟨.inl ⟨v8 n,λz' z'=>rfl,λo=>hσ τ' o n⟩⟩) λz' z'=>rfl,S.fr.put hx hf hρ⟩
theorem ST.own(S:ST F c G h)(R:OR F.W G h x o)(w:o.wr=true)(a:∀b,o.ad x b↔b=x)(hx:¬G.has x)(g:x∉F.fa)(s:xc<x)(hw:o.keeps (·≠τ))(hσ:∀f o,f≠τ->c.σ f=some o->o.keeps (·≠τ))(hρ:∀y v,c.ρ.lookup y=some v->v.keeps (·≠τ)):
  ST F ⟨c.ρ,up c.σ τ o⟩ (G.put τ x) h:=S.vv R w (λb=>(a b).trans List.mem_singleton.symm) (D5 hx) (D5 g) (D5 s) hw hσ hρ
end
section
variable{α:Type}{c c1:Cx}{F:Fm}{ws:dg AV}{xs:dg (yg×AV)}{es:dg Expr}{G G':Gh}{h h':Be}{τ τh:Tg}{o o' oh oh':d9}{U:Tg->Prop}{s s':Gg}{a b r:AV}{R:Gh->α->Prop}{C i x:yg}{y:Str}{pos:re}{d:vg}{j k:kg}{e:Expr}{f:kg->gg AV}
def TJ(F:Fm)(c:Cx)(e:Expr)(a:AV):Prop:=∀G s,ST F c G s.heap->∀Q:zg->Gg->Prop,(∀v tk,F9 G a v->Q v {s with toks:=tk})->Yg (Mk F.W) F.A (Nc e F.env) Q no s
theorem FX{x:Str}(n:c.ρ.lookup x=some a)(l:XZ (F.env.kindOf x)=true)(hd:(x==("__debug__"))=false)(A:(x==("__classdict__"))=false):TJ F c (.Name x pos) a:=λG s S Q k=>by
 cases q:F.env.kindOf x with
 |none=>haveI l:=q▸l;cases l
 |some kd=>
  cases kd with
  |«local»=>obtain⟨m,hn,hm⟩:=S.fr.ns;obtain⟨y,z,r⟩:=hm x a n q;exact ia (wpAny_loadName_local S.fr.st.kind q hn z (k y _ r)) hd
  |cell=>obtain⟨c,y,h,p,r⟩:=S.fr.cell x a n (.inl q);exact ia (wpAny_loadName_cell S.fr.st.kind q h p (k y _ r)) hd
  |free=>obtain⟨c,y,h,p,r⟩:=S.fr.cell x a n (.inr q);exact ia (wpAny_loadName_free S.fr.st.kind q h p (k y _ r) A) hd
  |_=>have l:=q▸l;cases l
theorem pG{o:Expr}(E:TJ F c o (.g9 τ))(e:c.σ τ=some (.inst C xs))(l:A4 F.W C)(hp:Ad F.W.K (.ref C) (an i)=some none)(q:i<30)(hx:xs.lookup i=some a)(A:∀env,Rd o (an i) env (Nc o env)=Nc o env):TJ F c (.Attribute o (an i) pos) a:=λG s S Q k=>by
 show Yg _ _ (do
  let p<-Rd o _ _ _
  Wa _;let r<-Xa [p] _
  letTemporaryGo o _ r
  pure r) _ _ s
 rw [A];refine fg (E G s S _ λv z' r=>fg (Qd (fg (Nf ?_))));obtain rfl:v= .ref _:=r;refine M8 (tZ S.sr e) λes m I=>(O8 (WT I.r q) λw z h=> ?_);rw [hx] at h;cases w with
 |none=>exact h.elim
 |some w=>exact get_value S.bW I.I l.get (findObj_own l.YF hp (by rfl) (by exact z)) (F9.handed h) (fg (wpAny_letTemporaryGo (ug (k w _ h))))
inductive Wi(F:Fm)(U:Tg->Prop)(c:Cx)(G:Gh)(s:Gg)(o:d9)(v:zg)(s':Gg):Prop
 |mk (G':Gh) (e:Gr U G G') (S:ST F c G' s'.heap) (q:SS s s') (x:yg) (v:v= .ref x) (g:OR F.W G' s'.heap x o) (w:o.wr=true) (ad:∀a b,o.ad a b↔b=a) (f:¬G'.has x) (fa:x∉F.fa) (fc:∀y d,F.env.cells.lookup y=some d->d≠x) (st:xc<x)
def vY(F:Fm)(U:Tg->Prop)(c:Cx)(e:Expr)(o:d9)(c':Cx):Prop:=∀G s,ST F c G s.heap->Yg (Mk F.W) F.A (Nc e F.env) (Wi F U c' G s o) no s
theorem uL.own(E:uL F U c e ws c1):vY F U c e (.list true ws) c1:=λG s S=>Jg (E G s S) (λv z' z=>z.casesOn λA l S q x items n v g f w p m r=>⟨A,l,S,q,x,v,⟨items,n,g,r⟩,rfl,λz' z'=> .rfl,f,w,p,m⟩) λz' z' z=>z
structure dP(c:Cx)(o:d9)(τ:Tg):Prop where
 w:o.keeps (·≠τ)
 s:∀τ' o,τ'≠τ->c.σ τ'=some o->o.keeps (·≠τ)
 r:∀y v,c.ρ.lookup y=some v->v.keeps (·≠τ)
theorem My(E:vY F U c e o c1)(h:¬U τ)(L:dP c1 o τ):Ev F U c e (.g9 τ) ⟨c1.ρ,up c1.σ τ o⟩:=λG s S=>
 Jg (E G s S) (λv z' z=>z.casesOn λp m S q x v g w a f n z' l=>⟨_,m.trans (.put h),S.own g w (a x) f n l L.w L.s L.r,by refine rL v ?_;exact eg _ N6.symm,q⟩) λz' z' z=>z
structure UJ(c:Cx)(o:d9)(τ τh:Tg):Prop where
 n:τh≠τ
 w:o.keeps (·≠τ)
 s:∀τ' o,τ'≠τ->τ'≠τh->c.σ τ'=some o->o.keeps (·≠τ)
 r:∀y v,c.ρ.lookup y=some v->v.keeps (·≠τ)
theorem ST.TE(S:ST F c G h)(g:OR F.W G h x o)(B:o.wr=true)(p:∀a b,o.ad a b↔b=a)(hx:¬G.has x)(w:x∉F.fa)(D:∀y d,F.env.cells.lookup y=some d->d≠x)(s:xc<x)(L:UJ c o τ τh)
  (e:c.σ τh=some oh) (w1:oh.wr=true) (A:oh'.wr=true) (m:∀a,oh'.ad (G.μ τh) a↔oh.ad (G.μ τh) a) (hs:∀b,G.own b≠some τh->h'.get? b=h.get? b) (R:OR F.W (G.put τ x) h' (G.μ τh) oh'):
  ST F ⟨c.ρ,up (up c.σ τ o) τh oh'⟩ (G.put τ x) h':=by
 haveI v:∀b,(((∃o,G.P b=some o\/G.K b=some o)\/∃o,G.Z b=some o)\/b=x)->h'.get? b=h.get? b:=λb q=>hs b λz=>by
  have y:=(S.sr.at_ b _ z).1;rcases q with(⟨o,q|q⟩|⟨o,q⟩)|q
  ·exact s9 q y.1
  ·exact s9 q y.2.1
  ·exact s9 q y.2.2.1
  ·exact hx (q▸ .inl ⟨τh,z⟩)
 refine⟨S.sr.put (D5 hx) (D5 s) B (λb=>(p x b).trans List.mem_singleton.symm) ((g.mono (.put λz=>z rfl) L.w).move λb q=>v b (.inr ((p x b).mp q))) ((v8 (gc L.n)).trans u7) (λl n=>⟨?_⟩) λb q=>v b (.inl q),(S.fr.put (D5 hx) (D5 w) L.r).step ?_ ?_⟩
 ·by_cases z:l=τh
  ·exact .inr ⟨oh,oh',z▸e,w1,z▸u7,A,z▸m,z▸R⟩
  ·exact .inl ⟨(v8 z).trans (v8 n),λb q=>hs b λy=>z (ig (q.symm.trans y)),λo=>L.s _ o n z⟩
 ·exact hs _ λz=>S.fr.zY _ S.fr.st.VD (.inl ⟨_,z⟩)
 ·exactλy d q=>hs _ λz=>Tc _ (z.symm.trans (S.fr.k5 y d q).1)
theorem zU{o' i:Expr}{p:re}(E:vY F U c e o c1)(Eo:TJ F c1 o' (.g9 τh))(Ei:TJ F c1 i (.a9 (.int k)))(hU:¬U τ)(L:UJ c1 o τ τh)(eh:c1.σ τh=some (.p9 true f))(hr:j7 k=true)(hk:∀j v,j≠k->f j=some v->v.keeps (·≠τ))(hs:∀env,Ce e (some (.Subscript o' i p)) pos.line env=pure false):
  X1 F U c (.Assign [.Subscript o' i p] e pos) .next ⟨c1.ρ,up (up c1.σ τ o) τh (.p9 true (f9 f k (.g9 τ)))⟩:=λG s S=>
 ja (Jg (E G s S) (λv s1 z=>z.casesOn λG1 g1 S1 q1 x v gx w0 ad hx hfa hfc st=>Eo G1 s1 S1 _ λov tk r1=>Ei G1 {s1 with toks:=tk} S1 _ λiv tk2 r2=>by
  obtain rfl:ov= .ref (G1.μ τh):=r1;obtain⟨tk3,rfl⟩:=r2;obtain⟨kvs,hd,hq,hf⟩:=S1.sr.g9 τh _ eh;refine rc (ii k tk3) hd (λh' hd' hs'=> ?_) (O9 (bg (O7 (DX hf) (x6 hd) hq) (by decide)));refine⟨G1.put τ x,g1.trans (.put hU),S1.TE gx w0 ad hx hfa hfc st L eh rfl rfl (λz'=>Ef) (λb n=>hs'.2 b λz=>n (z▸S1.sr.own τh _ _ eh rfl rfl)) ⟨_,hd',λj=> ?_,a5 hf hr⟩,rfl,q1.trans (SS.heap _ _)⟩;rw [f6];unfold f9;by_cases z:j=k
  ·rw [xg z,xg z,v];exact eg aa N6.symm
  ·rw [og z,og z];exact(hq j).mono λw m z' q=>q.mono (.put λz=>z rfl) (hk j w z m)) λz' z' z=>z) (hs _)
theorem AU{y:Str}{p p':re}(E:vY F U c e o c1)(ho:c1.ρ.lookup y=some (.g9 τh))(hk:XZ (F.env.kindOf y)=true)(hd:(y==("__debug__":Str))=false)(hcl:(y==("__classdict__":Str))=false)(hU:¬U τ)(L:UJ c1 o τ τh)
  (hi:c1.σ τh=some (.inst C xs)) (hc:A4 F.W C) (hp:Ad F.W.K (.ref C) (an i)=some none) (h30:i<30) (hkp:∀p∈xs,p.1≠i->p.2.keeps (·≠τ)) (hs:∀env,Ce e (some (.Attribute (.Name y p') (an i) p)) pos.line env=pure false):
  X1 F U c (.Assign [.Attribute (.Name y p') (an i) p] e pos) .next ⟨c1.ρ,up (up c1.σ τ o) τh (.inst C (W9 xs i (.g9 τ)))⟩:=λG s S=>
 ç (Jg (E G s S) (λv s1 z=>z.casesOn λG1 g1 S1 q1 x' v gx w0 ad hx' hfa hfc st=>(FX ho hk hd hcl) G1 s1 S1 _ λov tk r1=>by
  obtain rfl:ov= .ref (G1.μ τh):=r1;refine JZ (s:={s1 with toks:=tk}) S1.bW S1.sr hi hc hp h30 λh' hs hO tk=>⟨G1.put τ x',g1.trans (.put hU),S1.TE gx w0 ad hx' hfa hfc st L hi rfl rfl (λz'=>Ef) (λb n=>hs.2 b λz=>n (z▸S1.sr.own τh _ _ hi rfl (.inr rfl))) ?_,rfl,q1.trans (SS.heap h' tk)⟩;have:=hO (G1.put τ x') (λp m n y r=>r.mono (.put λz=>z rfl) (hkp p m n)) (.g9 τ) (i0 L.n) (v.trans (eg aa N6.symm));exact this) λz' z' z=>z) (hs _)
end
section
variable{c:Cx}{F:Fm}{W:Wd}{vs:dg AV}{G G' G2:Gh}{h h' h2:Be}{τ:Tg}{o:d9}{U:Tg->Prop}{s s':Gg}{a b r:AV}{t:wg}{y:Str}{d:vg}{i k:kg}{x:yg}{e:Expr}{ob:Fd}
noncomputable def Gh.hold(G:Gh)(x:yg)(ob:Fd):Gh:={G with K:=λb=>if b=x then some ob else G.K b}
noncomputable def Gh.H0(G:Gh)(x:yg):Gh:={G with K:=λb=>if b=x then none else G.K b}
theorem Gr.hold(q:¬G.has x):Gr U G (G.hold x ob):=
 ⟨λz' z' e=>e,λb z e=>⟨(og λy=>s9 (y▸e) (G.x8 q).2.2.1).trans e,rfl⟩,λz' z' e=>⟨e,rfl⟩,λz' z'=>rfl⟩
structure R5(F:Fm)(G:Gh)(h:Be)(x:yg):Prop where
 has:¬G.has x
 fa:x∉F.fa
 fc:∀y d,F.env.cells.lookup y=some d->d≠x
theorem ST.new(S:ST F c G h)(hx:h.objs.size<=x):R5 F G h x:=⟨S.sr.fresh hx,S.fr.fresh hx,λy d e z=>(S.fr.alive.2 y d e).elim λz' q=>Nat.not_lt.mpr hx (z▸de q)⟩
theorem ST.hold(S:ST F c G h)(N:R5 F G h x)(e:h.get? x=some ob):ST F c (G.hold x ob) h:=by
 haveI n:=G.x8 N.has;refine⟨S.sr.grow (.hold N.has) rfl rfl (λb z q=> ?_) (λb z q=> ?_) (λb z' z=>⟨(S.sr.at_ b _ z).1.1,(og λ(y)=>s9 (y▸z) n.1).trans (S.sr.at_ b _ z).1.2.1⟩),S.fr.mono (.hold N.has) (λz' v z'=>v.U9) (λb m q=>S.fr.zY b m (q.imp id λq=>q.imp (λq=>q.imp λo q=>q.imp id λq=>(og λ(y:b=x)=>N.fa (y▸m)).symm.trans q) id)) λz' z' z' z=>z⟩
 ·by_cases y:b=x
  ·refine rL y ?_;exact n.2.2.2
  ·exact S.sr.kz b z ((og y).symm.trans q)
 ·by_cases y:b=x
  ·exact q.elim (λq=>S.sr.y9 b z (.inl q)) λq=>by refine rL y ?_;exact e.trans ((xg y).symm.trans q)
  ·exact S.sr.y9 b z (q.imp id λq=>(og y).symm.trans q)
structure jo(F:Fm)(U:Tg->Prop)(c:Cx)(G G2:Gh)(h2:Be)(x:yg)(ob:Fd):Prop where
 S:ST F c (G2.H0 x) h2
 g:Gr U G (G2.H0 x)
 n:R5 F (G2.H0 x) h2 x
 at_:h2.get? x=some ob
 v:∀a v,F9 G2 a v->F9 (G2.H0 x) a v
theorem ST.H0(N:R5 F G h x)(g:Gr U (G.hold x ob) G2)(S:ST F c G2 h2):jo F U c G G2 h2 x ob:=by
 haveI k:=g.k x _ (xg rfl);haveI n:=G.x8 N.has;have o:=Option.eq_none_iff_forall_ne_some.mpr λτ z=>s9 k.1 (S.sr.at_ x _ z).1.2.1;have l:∀b z,(G2.H0 x).K b=some z->b≠x/\G2.K b=some z:=λb z q=>by
  haveI q:(if b=x then none else G2.K b)=some z:=q;split at q
  ·exact(by nomatch q)
  ·rename_i y;exact⟨y,q⟩
 haveI v:∀a v,F9 G2 a v->F9 _ a v:=λa v r=>F9.Z7 ⟨λz' z' z=>z,λz' z'=>rfl⟩ a.U9 r;refine⟨⟨⟨S.sr.base,λb z q=>S.sr.y9 b z (q.imp id λq=>(l b z q).2),S.sr.W7,S.sr.pX,λb z q=>S.sr.kz b z (l b z q).2,λτ z q=>OR.Z7 ⟨λz' z' z=>z,λz' z'=>rfl⟩ z.U9 (S.sr.g9 _ z q),S.sr.own,S.sr.V5,λb z' q=> ?_⟩,S.fr.st,?_,?_,S.fr.live,λb m q=>S.fr.zY b m (q.imp id λq=>q.imp (λq=>q.imp λz q=>q.imp id λq=>(l b z q).2) id),λy d q=>⟨(S.fr.k5 y d q).1,(S.fr.k5 y d q).2.imp id λz=> ?_⟩⟩,⟨g.p,λb z q=> ?_,g.z,g.m⟩,⟨(Gh.O4 ⟨o,k.2.trans n.2.1,xg rfl,S.sr.kz x _ k.1⟩),N.fa,N.fc⟩,S.sr.y9 x _ (.inr k.1),v⟩
 ·obtain⟨y,z⟩:=S.sr.at_ b _ q
  exact⟨⟨y.1,Option.eq_none_iff_forall_ne_some.mpr λz q=>s9 (l b z q).2 y.2.1,y.2.2⟩,z⟩
 ·exact S.fr.ns.imp λm q=>⟨q.1,λx w e1 p=>(q.2 x w e1 p).imp λy r=>⟨r.1,v _ _ r.2⟩⟩
 ·exactλx w e1 p=>(S.fr.cell x w e1 p).imp λc q=>q.imp λy q=>⟨q.1,q.2.1,v _ _ q.2.2⟩
 ·refine rL (show(G2.H0 x).K d=G2.K d from og (N.fc y d q)) ?_;exact z
 ·have e:b≠x:=λy=>s9 (y▸q) n.2.2.1;exact zA (g.k b z ((og e).trans q)) λy w=>(⟨(og e).trans y,w⟩)
theorem ST.same(S:ST F c G h)(N:R5 F G h x)(hs:Ge x h h'):ST F c G h':=
 ⟨S.sr.frame N.has hs,S.fr.step (hs.2 _ λq=>N.fa (q▸S.fr.st.VD)) λy d q=>hs.2 d (N.fc y d q)⟩
theorem ST.ext(S:ST F c G h)(N:R5 F G h x)(hs:Ð x h h'):ST F c G h':=
 ⟨S.sr.step λb q=>keeps_eq1 (S.sr.live q) λob e=>hs b _ (λz=>N.has (z▸q)) e,S.fr.step (keeps_eq1 S.fr.alive.1 λob e=>hs _ _ (λz=>N.fa (z▸S.fr.st.VD)) e) λy d q=>keeps_eq1 (S.fr.alive.2 y d q) λob e=>hs d _ (N.fc y d q) e⟩
where keeps_eq1 {h h':Be} {a:yg} (e:∃o,h.get? a=some o) (k:∀o,h.get? a=some o->h'.get? a=some o):h'.get? a=h.get? a:=e.elim λo e=>(k o e).trans e.symm
noncomputable def owners:dg wb:=["enumerate","zip","dict_itemiterator","dict_reverseitemiterator","odict_iterator","itertools.zip_longest","itertools.pairwise"]
def uY(h:Be)(I:yg):Prop:=∃o n vs,h.get? I=some o/\o.cls= .type n/\o.data= .fields vs/\owners.contains n=false
set_option tactic.hygienic true in
theorem uY.go{I:yg}{A:vc}{t:Expr}{v:zg}{Q:sa->Gg->Prop}{E:zg->Gg->Prop}(x:uY s.heap I)(q:Q () s):Yg (Mk W) A (letOwnedTupleGo t (.ref I) v) Q E s:=by
 refine f8 x λo n vs e p=>eP p λh hd hn=> ?_;cases t<;>(first|exact ug q|skip)
 all_goals
  cases v<;>(first|exact ug q|skip)
  refine fg (wpAny_load e ?_);refine rL h (rL hd ?_);rename_i a;show Yg _ A (if(owners.contains n&&vs[0]? ==some _)=true then _ else _) Q E s;exact rL (og (by refine rL hn ?_;exact cf)) (ug q)
structure aC W G I(vs:dg AV)(q:dg (yg×Fd))(S:yg->Be->Prop):Prop where
 live:∀i h,S i h->uY h I
 frame:∀i h h',S i h->h'.get? I=h.get? I->S i h'
 self:∀i A s Q E,S i s.heap->Q (.ref I) s->Yg (Mk W) A (ò (.ref I)) Q E s
 item:∀i x A s Q,vs[i]? =some x->A.handled=none->(∀p∈q,s.heap.get? p.1=some p.2)->S i s.heap->
  (∀v h' tk,F9 G x v->S (i+1) h'->Ge I s.heap h'->Q (some v) {s with heap:=h',toks:=tk})->Yg (Mk W) A (ñ (.ref I)) Q no s
 done:∀A s Q,A.handled=none->(∀p∈q,s.heap.get? p.1=some p.2)->S vs.length s.heap->(∀h' tk,Ð I s.heap h'->Q none {s with heap:=h',toks:=tk})->Yg (Mk W) A (ñ (.ref I)) Q no s
inductive rq(F:Fm)(c:Cx)(G:Gh)(s:Gg)(vs:dg AV)(v:zg)(s':Gg):Prop
 |mk (G':Gh) (e:Gr D0 G G') (S:ST F c G' s'.heap) (q:SS s s') (I:yg) (pr:dg (yg×Fd)) (St:yg->Be->Prop) (z:v= .ref I) (N:R5 F G' s'.heap I) (it:aC F.W G' I vs pr St) (st:St 0 s'.heap) (hp:∀p∈pr,G'.P p.1=some p.2\/∃τ,G'.Z p.1=some (τ,p.2))
def bC(F:Fm)(c:Cx)(a:AV)(vs:dg AV):Prop:=∀G s x,ST F c G s.heap->F9 G a x->Yg (Mk F.W) F.A (ò x) (rq F c G s vs) no s
variable{α:Type}{c1 c2 c3:Cx}{σ:Tg->gg d9}{as:dg AV}{xs:dg (Str×AV)}{es:dg Expr}{U':Tg->Prop}{R:Gh->α->Prop}{u:wg}{fl:Fl}{pos:re}{ds:dg vg}{f:kg->gg AV}
def Bo(σ:Tg->gg d9)(a:AV)(vs:dg AV):Prop:=(∃ds,a= .a9 (.list ds)/\vs=ds.map .a9)\/∃τ,a= .g9 τ/\σ τ=some (.list false vs)
theorem QA{v:zg}(S:SR W σ G h)(hl:Bo σ a vs)(r:F9 G a v):∃y items n,v= .ref y/\(G.P y=some (listOf items n)\/∃τ,G.Z y=some (τ,listOf items n))/\r9 (F9 G) vs items.toList:=
 hl.elim (λq=>q.elim λds q=>by
  haveI r:=q.1▸r;exact q.2▸r.imp λy r=>r.imp λitems r=>r.imp λn r=>⟨r.1,.inl r.2.1,r.2.2.R6⟩) λq=>q.elim λτ q=>(S.V5 _ _ _ q.2 rfl rfl).elim λob z=>by
  refine M8 (S.g9 _ _ q.2) λitems n y=> ?_;exact⟨_,items,n,(q.1▸r),.inr ⟨τ,ig ((S.W7 _ _ _ z).symm.trans y.1)▸z⟩,y.2⟩
theorem mR(hl:Bo c.σ a vs):bC F c a vs:=λG s v S r=>by
 refine f8 (QA S.sr hl r) λy items n L p'=>zA p' λp q=> ?_;subst L;have g:=p.elim (λp=>S.sr.y9 _ _ (.inl p)) λp=>p.elim λz' p=>S.sr.W7 _ _ _ p;refine wpAny_pyIter_list (X8 g) ⟨G,.refl,S.push _,SS.heap _ _,s.heap.objs.size,[(y,listOf _ n)],λi h=>h.IsListIter _ y i,rfl,⟨S.sr.fresh (Ag _),S.fr.fresh (Ag _),(S.new (Ag _)).fc⟩,⟨(λi h ⟨o,w,K,hd⟩=>⟨o,_,_,w,K,hd,by decide⟩),(λi h z' ⟨o,w,r⟩ q=>⟨o,q.trans w,r⟩),(λi A s Q E l q=>wpAny_pyIter_listiter l q),?_,?_⟩,⟨_,yf _ rfl,rfl,rfl⟩,λz m=>List.mem_singleton.mp m▸p⟩
 ·exactλi x A s Q hx z' hp l B=>by
   exact O8 (kh q hx) λv H I=>(wpAny_pyNext_list_item l (X8 (hp _ (.head _))) H λh' D hs=>B v _ _ I D hs)
 ·exactλA s Q J hp l B=>wpAny_pyNext_list_end J l (X8 (hp _ (.head _))) (by rw [æ,q.length];exact Ag _) λh' hs=>B _ _ hs
theorem JV{y n:yg}{items:Rf zg}(S:ST F c G s.heap)(p:G.P y=some (v7 items n))(q:r9 (F9 G) vs items.toList):Yg (Mk F.W) F.A (ò (.ref y)) (rq F c G s vs) no s:=by
 refine iter_tuple ⟨_,S.sr.y9 _ _ (.inl p),rfl,_,rfl⟩ ⟨G,.refl,S.push _,SS.heap _ _,s.heap.objs.size,[(y,v7 _ n)],λi h=>IsTupIter h _ y i,rfl,⟨S.sr.fresh (Ag _),S.fr.fresh (Ag _),(S.new (Ag _)).fc⟩,⟨(λi h ⟨o,l,J,hd⟩=>⟨o,_,_,l,J,hd,by decide⟩),(λi h z' ⟨o,l,r⟩ q=>⟨o,q.trans l,r⟩),(λi A s Q E g q=>wpAny_pyIter_tupleiter g q),?_,?_⟩,⟨_,yf _ rfl,rfl,rfl⟩,λz m=>List.mem_singleton.mp m▸ .inl p⟩
 ·exactλi x A s Q hx z' hp g w=>by
   exact O8 (kh q hx) λv D H=>(next_tuple_item g ⟨_,hp _ (.head _),rfl,_,rfl⟩ D λh' B hs=>w v _ _ H B hs)
 ·exactλA s Q I hp g w=>next_tuple_end I g ⟨_,hp _ (.head _),rfl,_,rfl⟩ (by rw [æ,q.length];exact Ag _) λh' hs=>w _ _ hs
theorem UF(h:∀G v,F9 G a v->∃y items n,v= .ref y/\G.P y=some (v7 items n)/\r9 (F9 G) vs items.toList):bC F c a vs:=λG s v S r=>by
 refine f8 (h G v r) λy z' n w u=>zA u λp q=> ?_;subst w;exact JV S p q
theorem ML:∀G v,F9 G (.a9 (.tuple ds)) v->∃y items n,v= .ref y/\G.P y=some (v7 items n)/\r9 (F9 G) (ds.map .a9) items.toList:=λG v r=>
 r.imp λy r=>r.imp λitems r=>r.imp λn r=>⟨r.1,r.2.1,r.2.2.R6⟩
theorem sN{n:kg}(H:0<=n)(I:n<=1000000):bC F c (.range n) ((af n.toNat).map λ(i:yg)=> .a9 (.int i)):=λG s v S r=>by
 refine T6 r λy K L t p'=>zA p' λM p=> ?_;subst M;haveI hsz:Ã 0 n 1=n:=by rw [rangeSize_one];split;exact Ē n;exact Yb H (Int.not_lt.mp ‹_›)
 refine wpAny_pyIter_range (S.sr.y9 _ _ (.inl p)) (small_one (by decide) (by decide) (Hc (by decide) H) (Fe I (by decide))) (rL hsz ?_);refine⟨G,.refl,S.push _,SS.heap _ _,s.heap.objs.size,[],λi h=>IsRangeIter h _ (i) (n-i) 1,rfl,⟨S.sr.fresh (Ag _),S.fr.fresh (Ag _),(S.new (Ag _)).fc⟩,⟨(λi h l=>⟨_,_,_,l,rfl,rfl,by decide⟩),(λi h z' l q=>q.trans l),(λi A s Q E g q=>wpAny_pyIter_rangeiter g q),?_,?_⟩,?_,λz m=>(by exact(by nomatch m))⟩
 ·intro i x A _ Q hx _ _ g w;have D:i<n.toNat:=by
   by_cases q:i<n.toNat
   ·exact q
   ·rw [Xb (by rw [ng,Bf];exact Xe q)] at hx;exact(by nomatch hx)
  have hx:=Wg▸hx;haveI hx:=Ba D▸hx;haveI hx:=ig hx;subst hx;refine wpAny_pyNext_range_item g (Int.sub_pos_of_lt (Int.lt_toNat.mp D)) λh' B hs=>w _ _ _ ⟨_,rfl⟩ ?_ hs;refine rL (show((i+1:yg))=(i:kg)+1 from rfl) ?_;rw [<-Int.sub_sub];exact B
 ·intro A _ Q J _ g w;rw [ng,Bf] at g;exact wpAny_pyNext_range_end J g (Int.sub_nonpos_of_le (Int.self_le_toNat n)) λh' hs=>w _ _ hs
 ·show IsRangeIter _ _ _ _ _;exact rL (Ē n) (yf _ rfl)
noncomputable def Lp(F:Fm)(U:Tg->Prop)(target:Expr)(body:dg Xf)(fl:Fl)(c':Cx):dg AV->Cx->Prop
 |[],c=>fl= .next/\c'=c
 |x::xs,c=>∃c1 c2,As F c target x c1/\((Xs F U c1 body .next c2/\∃c3:Cx,c3.σ=c2.σ/\(∀y v,c3.ρ.lookup y=some v->c2.ρ.lookup y=some v)/\Lp F U target body fl c' xs c3)\/(Xs F U c1 body fl c2/\c'=c2/\fl≠ .next))
theorem ST.cut(S:ST F c G h){c':Cx}(hs:c'.σ=c.σ)(g:∀y v,c'.ρ.lookup y=some v->c.ρ.lookup y=some v):ST F c' G h:=⟨hs▸S.sr,S.fr.sub g⟩
theorem kX{g:Type}{vs xs:dg g}{i:yg}{x:g}(e:vs.drop i=x::xs):vs[i]? =some x/\vs.drop (i+1)=xs:=
 ⟨by refine rR (Ù) (rL e ?_);rfl,by refine rR List.tail_drop (rL e ?_);rfl⟩
inductive FI(F:Fm)(U:Tg->Prop)(target:Expr)(body:dg Xf)(I:yg)(vs:dg AV)(St:yg->Be->Prop)(G:Gh)(s:Gg)(fl:Fl)(c1:Cx)(k:yg)(s':Gg):Prop
 |mk (i:yg) (rest:dg AV) (G':Gh) (c':Cx) (hr:vs.drop i=rest) (hk:k=rest.length+1) (hi:i+rest.length=vs.length) (g:Gr U G G') (S:ST F c' G' s'.heap) (st:St i s'.heap) (L:Lp F U target body fl c1 rest c') (q:SS s s') (N:R5 F G' s'.heap I)
inductive ah(W:Wd) G(I:yg) x(m:Be->Prop)(s:Gg):gg zg->Gg->Prop
 |mk v h tk (r:F9 G x v) (t:m h) (hs:Ge I s.heap h):ah W G I x m s (some v) {s with heap:=h,toks:=tk}
inductive bh(I:yg)(s:Gg):gg zg->Gg->Prop
 |mk h tk (hs:Ð I s.heap h):bh I s none {s with heap:=h,toks:=tk}
theorem R5.move(N:R5 F G h x):R5 F G h' x:=⟨N.has,N.fa,N.fc⟩
inductive Bw(F:Fm)(U:Tg->Prop)(P:yg->Gg->Prop)(G:Gh)(s:Gg)(fl:Fl)(c1:Cx)(k:yg):Flow->Gg->Prop
 |next {m:yg} {s':Gg} (hm:m<k) (h:P m s'):Bw F U P G s fl c1 k .next s'
 |ret {v:zg} {s':Gg} (h:RA F U c1 G s (λG=>dH G fl) (.ret v) s'):Bw F U P G s fl c1 k (.ret v) s'
inductive pq F(U:Tg->Prop)(P:yg->Gg->Prop) t(body:dg Xf) I G s fl c1 k:gg zg->Gg->Prop
 |done {s':Gg} (h:RA F U c1 G s (λG=>dH G fl) .next s'):pq F U P t body I G s fl c1 k none s'
 |item {v:zg} {s':Gg} (l:uY s'.heap I) (h:Yg (Mk F.W) F.A (assign t F.env v) (λz' m=>Yg (Mk F.W) F.A (execs body F.env) (Bw F U P G s fl c1 k) no m) no s'):pq F U P t body I G s fl c1 k (some v) s'
theorem IN{t:Expr}{body:dg Xf}{I:yg}{h:dg (yg×Fd)}{T:yg->Be->Prop}{d:Gg}{k:yg}{P:yg->Gg->Prop}(r:∀k s,FI F U t body I vs T G s' fl c1 k s->P k s)(n:aC F.W G I vs h T)(m:∀v∈vs,v.keeps U)(hp:∀p∈h,G.P p.1=some p.2\/∃τ,G.Z p.1=some (τ,p.2))(X:FI F U t body I vs T G s' fl c1 k d):
  Yg (Mk F.W) F.A (ñ (.ref I)) (pq F U P t body I G s' fl c1 k) no d:=by
 obtain⟨i,rest,G,c',k,E,V,g,S,o,l,q,N⟩:=X;have h:=λp m=>(hp p m).elim (λz=>S.sr.y9 _ _ (.inl (g.p _ _ z))) λz=>z.elim λτ z=>S.sr.W7 _ _ _ (g.z _ _ z).1;cases rest with
 |nil=>exact n.done _ _ _ S.fr.st.tU h ((V)▸o) λH z' hs=> .done ⟨G,g,l.2▸S.ext N hs,l.1▸rfl,q.trans (SS.heap _ _)⟩
 |cons x xs=>
  obtain⟨hx,hd⟩:=kX k;refine n.item i x _ _ _ hx S.fr.st.tU h o λv H tk h K hs=> .item (n.live _ _ K) (f8 (n.live _ _ K) λob z' z' R z'=> ?_);refine Z5 l λc c A l=>(Jg (A _ {d with heap:=H,toks:=tk} v ((S.same N hs).hold N.move R) (h.mono (g.trans (.hold N.has)) (m x (qe hx)))) (λz' s z=>z.casesOn λG h Z z' k=> ?_) λz' z' x=>x);haveI u:∀{c O} {Y:Gg},Gr U _ _->ST F c _ _->jo F U c _ O Y.heap I ob:=λq B=>ST.H0 (N.move (h':=H)) ((h.weak λz' z'=>trivial).trans q) B;have W:∀{E},SS _ _->SS _ E:=λb=>q.trans ((SS.heap _ _).trans (k.trans b));refine l.elim (λL=>Jg (L.1 _ _ Z) (λf Y y=>y.casesOn λO q B D M=> ?_) λz' z' x=>x) λL=>Jg (L.1 _ _ Z) (λf z' y=>y.casesOn λO q B D M=> ?_) λz' z' x=>x
  ·have Q:=u q B;exact L.2.elim λc J=>(D)▸ .next (rL E (be _)) (r _ _ ⟨i+1,xs,_,_,hd,rfl,(Af i _).trans V,g.trans Q.g,Q.S.cut J.1 J.2.1,n.frame _ _ _ K (Q.at_.trans R.symm),J.2.2,W M,Q.n⟩)
  ·have Q:=u q B;cases fl with
   |next=>exact absurd rfl L.2.2
   |ret a=>exact D.elim λw r=>r.1▸ .ret ⟨_,g.trans Q.g,L.2.1▸Q.S,⟨w,rfl,Q.v _ _ r.2⟩,W M⟩
theorem KN{t:Expr}{body:dg Xf}{I:yg}{m:dg (yg×Fd)}{S:yg->Be->Prop}(i:aC F.W G I vs m S)(L:Lp F U t body B c1 vs c)(n:∀v∈vs,v.keeps U)(w:ST F c G s.heap)(N:R5 F G s.heap I)(q:S 0 s.heap)(hp:∀p∈m,G.P p.1=some p.2\/∃τ,G.Z p.1=some (τ,p.2)):
  ab (Mk F.W) F.A (.forLoop t (.ref I) body [] F.env) (λr s'=>match r with| .ok f=>RA F U c1 G s (λG=>dH G B) f s'| .error e=>cameBackBy (Mk F.W) F.A F.env no e s') s:=
 codeAny_forLoop_any _ (λk z' X=>Jg (IN (λz' z' x=>x) i n hp X) (λr z' z=>z.casesOn (λh=>wpAny_execs_nil h) λl h=>l.go (Jg h (λz' z' h=>Jg h (λf z' b=>b.casesOn (λhm h=>⟨_,hm,h⟩) λh=>h) λz' z' x=>x.elim) λz' z' x=>x.elim)) λz' z' x=>x.elim) (vs.length+1) ⟨0,vs,G,c,rfl,rfl,Tf _,.refl,w,q,L,.refl,N⟩
inductive Vi(F:Fm)(U:Tg->Prop)(c:Cx)(G:Gh)(s:Gg)(vs:dg AV)(v:zg)(s':Gg):Prop
 |mk (G1:Gh) (s1:Gg) (g:Gr U G G1) (q:SS s s1) (r:rq F c G1 s1 vs v s')
def GW(F:Fm)(U:Tg->Prop)(c:Cx)(e:Expr)(vs:dg AV)(c':Cx):Prop:=∀G s,ST F c G s.heap->Yg (Mk F.W) F.A (Nc e F.env) (λv g=>Yg (Mk F.W) F.A (ò v) (Vi F U c' G s vs) no g) no s
theorem Do.iter(E:Ev F U c e a c1)(I:bC F c1 a vs):GW F U c e vs c1:=λG s S=>E.bind S λm v n l r g q=>Jg (I _ _ v l r) (λz' z' z=>⟨m,n,g,q,z⟩) λz' z' x=>x
theorem HQ{k:yg}(E:cS F U c es as c1)(hz:as.length<=1000):GW F U c (.Tuple es k pos) as c1:=λG s S=>
 Tuple_ ((E _).bind S λD z' H m n q A=>Ka (by
  obtain⟨B,w,p⟩:=m.data (ob:=v7 _ 0) rfl;exact Jg (JV w p (n.mono λa z' v r=>r.mono (.y9 (m.sr.fresh (Ag _))) a.U9)) (λz' z' z=>⟨_,{H with heap:=H.heap.push _},q.trans B,A.trans ⟨rfl,rfl,rfl⟩,z⟩) λz' z' x=>x) (O9 (j3 n (bg hz (by decide)))))
theorem YJ{t iter:Expr}{body:dg Xf}(E:GW F U' c iter vs c1)(p:∀τ,U' τ->U τ)(h:∀v∈vs,v.keeps U)(L:Lp F U t body fl c2 vs c1)(hs:∀x,Tb iter F.env x=pure x):X1 F U' c (.For t iter body [] pos) fl c2:=λG s S=>
 wpAny_For (Jg (E G s S) (λv z' z=>Jg z (λK z' z=>z.casesOn λJ z' n A z=>z.casesOn λM H w B I z' z' e N i m hp=>by
  refine rL e (Oc (KN i L h w N m hp) λr z' z=> ?_);cases r with
  |error e=>exact z
  |ok f=>exact RA.BT (n.trans (H.weak λz' z'=>trivial)) (A.trans B) (z.casesOn λg D S r q=>⟨g,D.weak p,S,r,q⟩)) λz' z' x=>x) λz' z' x=>x) hs
variable{o':d9}
structure Fz(o o':d9):Prop where
 w:o.wr=true
 w':o'.wr=false
 ad:∀a b,o.ad a b↔b=a
 bo:∀a b,o'.ad a b↔b=a
 r:∀W G h a,OR W G h a o↔OR W G h a o'
 k:∀U,o.keeps U↔o'.keeps U
 cls:∀D as,o'≠ .inst D as/\o≠ .inst D as
 C7:∀w f,o'≠ .p9 w f/\o≠ .p9 w f
theorem K5:Fz (.list true vs) (.list false vs):=⟨rfl,rfl,λz' z'=> .rfl,λz' z'=> .rfl,λz' z' z' z'=> .rfl,λz'=> .rfl,λz' z'=>⟨nofun,nofun⟩,λz' z'=>⟨nofun,nofun⟩⟩
theorem bY{l:dg (kg×AV)}:Fz (.M9 true l) (.M9 false l):=⟨rfl,rfl,λz' z'=> .rfl,λz' z'=> .rfl,λz' z' z' z'=> .rfl,λz'=> .rfl,λz' z'=>⟨nofun,nofun⟩,λz' z'=>⟨nofun,nofun⟩⟩
noncomputable def Gh.freeze(G:Gh)(τ:Tg)(ob:Fd):Gh:={G with Z:=λb=>if b=G.μ τ then some (τ,ob) else G.Z b,own:=λb=>if b=G.μ τ then none else G.own b}
noncomputable def Gh.oQ(G:Gh)(τ:Tg):Gh:={G with Z:=λb=>if b=G.μ τ then none else G.Z b,own:=λb=>if b=G.μ τ then some τ else G.own b}
theorem OR.f5{a:yg}(p:G'.P=G.P)(m:G'.μ=G.μ)(r:OR W G h a o):OR W G' h a o:=r.Z7 ⟨λz' z' z=>p▸z,λz' z'=>m▸rfl⟩ o.U9
theorem F9.f5{v:zg}(p:G'.P=G.P)(m:G'.μ=G.μ)(r:F9 G a v):F9 G' a v:=r.Z7 ⟨λz' z' z=>p▸z,λz' z'=>m▸rfl⟩ a.U9
theorem k8{g:Type}{p:Prop}[Zb p]{a b:gg g}{z:g}(q:(if p then a else b)=some z):(p/\a=some z)\/(¬p/\b=some z):=by
 by_cases x:p
 ·exact .inl ⟨x,(xg x).symm.trans q⟩
 ·exact .inr ⟨x,(og x).symm.trans q⟩
structure Rest(F:Fm)(c:Cx)(G:Gh)(h:Be)(τ:Tg)(o':d9)(ob:Fd):Prop where
 S:ST F ⟨c.ρ,up c.σ τ o'⟩ (G.freeze τ ob) h
 g:Gr D0 G (G.freeze τ ob)
 p:G.P (G.μ τ)=none
 z:G.Z (G.μ τ)=none
 st:xc<G.μ τ
theorem ST.freeze(S:ST F c G h)(e:c.σ τ=some o)(z:Fz o o')(g:h.get? (G.μ τ)=some ob):Rest F c G h τ o' ob:=by
 have l:=S.sr.own _ o _ e z.w ((z.ad _ _).mpr rfl);obtain⟨⟨p,k,B,s⟩,_⟩:=S.sr.at_ _ _ l
 haveI E:Gr D0 G (G.freeze _ ob):=⟨λz' z' q=>q,λz' z' q=>⟨q,rfl⟩,λb z' q=>⟨(og λy=>s9 (y▸q) B).trans q,rfl⟩,λz' z'=>rfl⟩;refine⟨⟨⟨S.sr.base,S.sr.y9,λb t q y=>((k8 y).elim (λy=>y.1▸(Zf (ig y.2)).2▸g) λy=>S.sr.W7 b t q y.2),λb t q y=>(k8 y).elim (λy=>y.1▸s) λy=>S.sr.pX b t q y.2,λb q y=>(og λz=>s9 (z▸y) k).trans (S.sr.kz b q y),λt q y=>(OR.f5 (G:=G) (a:=G.μ t) rfl rfl ((g3 y).elim (λy=>y.1▸y.2▸(z.r _ _ _ _).mp (S.sr.g9 _ o e)) λy=>S.sr.g9 t q y.2)),λt q b y w r=>((g3 y).elim (λy=>absurd ((y.2▸z.w').symm.trans w) (by decide)) λy=>(og λ(m:b=_)=>y.1 (ig ((S.sr.own t _ b y.2 w r).symm.trans (m▸l)))).trans (S.sr.own t q b y.2 w r)),λt q b y w r=>((g3 y).elim (λy=>⟨ob,(xg (by haveI r:=y.1▸r;haveI r:=y.2▸r;exact(z.bo _ _).mp r)).trans (rL y.1 rfl)⟩) λy=>(S.sr.V5 t q b y.2 w r).imp λob q=>(og λz=>s9 (z▸q) B).trans q),λb t q=> ?_⟩,S.fr.mono E (λz' v z'=>v.U9) (λb m q=>S.fr.zY b m ?_) λb q z' y=>by show(if b=_ then _ else _)=_;rw [y,Oa]⟩,E,p,B,s⟩
 ·obtain⟨n,q⟩:=(k8 q).resolve_left λq=>(by nomatch q.2);refine F0 (S.sr.at_ b t q) λy A D w r=>(⟨⟨y.1,y.2.1,(og n).trans y.2.2.1,y.2.2.2⟩,A,(v8 λm=>n ?_).trans D,w,r⟩);rw [m] at D r;exact(z.ad _ _).mp (ig (D.symm.trans e)▸r)
 ·exact q.elim (λq=>q.elim λt q=>(k8 q).elim (λq=>(by nomatch q.2)) λq=> .inl ⟨t,q.2⟩) λq=>q.elim (λq=> .inr (.inl q)) λq=>q.elim λt q=>(k8 q).elim (λq=>q.1▸ .inl ⟨_,l⟩) λq=> .inr (.inr ⟨t,q.2⟩)
structure lq F(c:Cx) U(l G:Gh) h τ o:Prop where
 S:ST F ⟨c.ρ,up c.σ τ o⟩ (G.oQ τ) h
 g:Gr U l (G.oQ τ)
theorem ST.oQ{D:Cx}(X:Rest F D G2 h2 τ o' ob)(z:Fz o o')(g:Gr U (G2.freeze τ ob) G)(u:U τ)(S:ST F c G h)(e:c.σ τ=some o'):lq F c U G2 G h τ o:=by
 have m:G.μ _=G2.μ τ:=g.m _ u;refine zA (g.z _ _ (xg rfl)) λZ P=> ?_;rw [<-m] at Z P;have k:=Option.eq_none_iff_forall_ne_some.mpr λo q=>s9 Z (S.sr.kz _ _ q);refine⟨⟨⟨S.sr.base,S.sr.y9,λb t q y=>((k8 y).elim (λy=>(by nomatch y.2)) λy=>S.sr.W7 b t q y.2),λb t q y=>(k8 y).elim (λy=>(by nomatch y.2)) λy=>S.sr.pX b t q y.2,λb q y=> ?_,λt q y=> ?_,λt q b y w r=> ?_,λt q b y w r=> ?_,λb t q=> ?_⟩,S.fr.st,?_,?_,S.fr.live,λb n q=>S.fr.zY b n ?_,λx d q=> ?_⟩,?_⟩
 ·show(if b=_ then none else G.Z b)=none;refine rL (S.sr.kz b q y) ?_;rw [Oa]
 ·exact OR.f5 (G:=G) (a:=G.μ t) rfl rfl ((g3 y).elim (λy=>y.1▸y.2▸(z.r _ _ _ _).mpr (S.sr.g9 _ _ e)) λy=>S.sr.g9 t q y.2)
 ·exact(g3 y).elim (λy=>(xg (by haveI r:=y.1▸r;haveI r:=y.2▸r;exact(z.ad _ _).mp r)).trans (rL y.1 rfl)) λy=>(og λ(n:b=_)=>s9 (S.sr.own t _ b y.2 w r) (n▸(Option.eq_none_iff_forall_ne_some.mpr λt q=>s9 Z (S.sr.at_ _ _ q).1.2.2.1))).trans (S.sr.own t q b y.2 w r)
 ·exact(g3 y).elim (λy=>absurd ((y.2▸z.w).symm.trans w) (by decide)) λy=>(S.sr.V5 t q b y.2 w r).imp λob q=>(og λ(n)=>y.1 (Zf (ig ((n▸q).symm.trans Z))).1).trans q
 ·by_cases n:b=G.μ τ
  ·haveI:=(ig ((xg n).symm.trans q)).symm;exact rL this (rL n (⟨⟨(P.trans (m▸X.p)),k,xg rfl,m▸X.st⟩,o,u7,z.w,(z.ad _ _).mpr rfl⟩))
  ·exact F0 (S.sr.at_ b t ((og n).symm.trans q)) λy p B w r=>(⟨⟨y.1,y.2.1,(og n).trans y.2.2.1,y.2.2.2⟩,p,(v8 λm=>by haveI B:=m▸B;haveI B:=e▸B;exact absurd ((ig B▸w).symm.trans z.w') (by decide)).trans B,w,r⟩)
 ·exact S.fr.ns.imp λm q=>⟨q.1,λx v e1 A=>(q.2 x v e1 A).imp λy r=>⟨r.1,F9.f5 rfl rfl r.2⟩⟩
 ·exactλx v e1 A=>(S.fr.cell x v e1 A).imp λc q=>q.imp λy q=>⟨q.1,q.2.1,F9.f5 rfl rfl q.2.2⟩
 ·exact q.elim (λq=>q.elim λt q=>(k8 q).elim (λq=>q.1▸ .inr (.inr ⟨_,Z⟩)) λq=> .inl ⟨t,q.2⟩) λq=>q.elim (λq=> .inr (.inl q)) λq=>q.elim λt q=>(k8 q).elim (λq=>(by nomatch q.2)) λq=> .inr (.inr ⟨t,q.2⟩)
 ·exact⟨(og λ(n:d=_)=>(S.fr.k5 x d q).2.elim (λy=>S.fr.zY d y (n▸ .inr (.inr ⟨_,Z⟩))) λy=>by haveI y:=n▸y;haveI y:=k▸y;exact(by nomatch y)).trans (S.fr.k5 x d q).1,(S.fr.k5 x d q).2⟩
 ·have l:=(X.g.weak λz' z'=>trivial).trans g;exact⟨l.p,l.k,λb q y=>⟨(og λ(n:b=_)=>s9 y (n▸m▸X.z)).trans (l.z b q y).1,(l.z b q y).2⟩,l.m⟩
theorem Do.V5{t:Ra α}(z:Fz o o')(e:c.σ τ=some o)(E:Do F (λt=>U t\/t=τ) ⟨c.ρ,up c.σ τ o'⟩ t R c1)(e1:c1.σ τ=some o')(hR:∀G τ v,R G v->R (Gh.oQ G τ) v):Do F U c t R ⟨c1.ρ,up c1.σ τ o⟩:=λG s S=>
 (S.sr.g9 τ o e).live ((z.ad _ _).mpr rfl)|>.elim λob g=>
 have X:=S.freeze e z g
 Jg (E _ s X.S) (λv s' y=>y.casesOn λG' g' S' r q=>have w:=S'.oQ X z g' (.inr rfl) e1;⟨_,w.g.weak λz'=> .inl,w.S,hR _ _ _ r,q⟩) λz' z' x=>x
theorem oC{s:Xf}(z:Fz o o')(e:c.σ τ=some o)(E:X1 F (λt=>U t\/t=τ) ⟨c.ρ,up c.σ τ o'⟩ s fl c1)(e1:c1.σ τ=some o'):X1 F U c s fl ⟨c1.ρ,up c1.σ τ o⟩:=
 Do.V5 z e E e1 λG z' v r=>by
  cases fl with
  |next=>exact r
  |ret a=>exact r.imp λv r=>⟨r.1,r.2.f5 rfl rfl⟩
theorem Qy(z:Fz o o')(g:c.σ τ=some o)(E:Ev F (λt=>U t\/t=τ) ⟨c.ρ,up c.σ τ o'⟩ e a c1)(e1:c1.σ τ=some o'):Ev F U c e a ⟨c1.ρ,up c1.σ τ o⟩:=Do.V5 z g E e1 λG z' v r=>r.f5 rfl rfl
inductive Ord(G:Gh)(f:kg->gg AV)(kvs:dg (kg×zg)):Prop
 |mk (l:dg (kg×AV)) (r:r9 (λx y=>x.1=y.1/\F9 G x.2 y.2) l kvs) (e:∀x∈l,f x.1=some x.2)
theorem lR{l:dg (kg×AV)}{kvs:dg (kg×zg)}(r:r9 (λx y=>x.1=y.1/\F9 G x.2 y.2) l kvs):l.map (·.1)=kvs.map (·.1):=by
 induction r with
 |nil=>rfl
 |cons r _ i=>exact List.cons_eq_cons.mpr ⟨r.1,i⟩
variable{σ':Tg->gg d9}{ρ:dg (Str×AV)}{ws:dg AV}{C:yg}{j:kg}
noncomputable def Wh(F:Fm)(U:Tg->Prop)(t:Expr)(body:dg Xf)(f:Fl)(c':Cx):yg->Cx->Prop
 |0,_=>False
 |n+1,c=>(It F U c t false c'/\f= .next)\/∃c1 g,It F U c t true c1/\((Xs F U c1 body .next g/\∃l:Cx,l.σ=g.σ/\(∀y v,l.ρ.lookup y=some v->g.ρ.lookup y=some v)/\Wh F U t body f c' n l)\/(Xs F U c1 body f g/\c'=g/\f≠ .next))
inductive WI F U test body G s fl c1 k s':Prop
 |mk G' c' (g:Gr U G G') (S:ST F c' G' s'.heap) (L:Wh F U test body fl c1 k c') (q:SS s s')
inductive nq F U P body G s fl c1 k:wg->Gg->Prop
 |done {s':Gg} (h:RA F U c1 G s (λG=>dH G fl) .next s'):nq F U P body G s fl c1 k false s'
 |go {s':Gg} (h:Yg (Mk F.W) F.A (execs body F.env) (Bw F U P G s fl c1 k) no s'):nq F U P body G s fl c1 k true s'
theorem DU{t:Expr}{body:dg Xf}{E:Gg}{k:yg}{P:yg->Gg->Prop}(h:∀k s,WI F U t body G s' fl c1 k s->P k s)(X:WI F U t body G s' fl c1 k E):Yg (Mk F.W) F.A (isTrue t F.env (Nc t F.env)) (nq F U P body G s' fl c1 k) no E:=by
 obtain⟨Q,c',B,K,H,A⟩:=X;cases k with
 |zero=>exact H.elim
 |succ k=>
  refine H.elim (λL=>Jg (L.1 _ _ K) (λb z' y=>y.casesOn λg l S r q=>(r)▸ .done ⟨g,B.trans l,S,L.2▸rfl,A.trans q⟩) λz' z' x=>x) λL=>M8 L λc O L=>Jg (L.1 _ _ K) (λb M y=>y.casesOn λg l S r q=>(r)▸ .go ?_) λz' z' x=>x;refine L.2.elim (λL=>Jg (L.1 g M S) (λf J y=>y.casesOn λv z D n m=>(L.2.elim λT p=>(n)▸ .next (be _) (h k J ⟨v,_,(B.trans l).trans z,D.cut p.1 p.2.1,p.2.2,(A.trans q).trans m⟩))) λz' z' x=>x) λL=>Jg (L.1 g M S) (λf J y=>y.casesOn λv z D n m=> ?_) λz' z' x=>x
  ·cases fl with
   |next=>exact absurd rfl L.2.2
   |ret a=>exact n.elim λw r=>r.1▸ .ret ⟨v,(B.trans l).trans z,L.2.1▸D,⟨w,rfl,r.2⟩,(A.trans q).trans m⟩
theorem zL{t:Expr}{body:dg Xf}{n:yg}(L:Wh F U t body fl c1 n c):X1 F U c (.While t body [] pos) fl c1:=λG s S=>
 wpAny_While (codeAny_whileLoop (WI F U _ _ G s _ _) (λk z' X=>Jg (DU (λz' z' x=>x) X) (λb z' z=>z.casesOn (λh=>wpAny_execs_nil h) λh=>Jg h (λf z' b=>b.casesOn (λhm h=>⟨_,hm,h⟩) λh=>h) λz' z' x=>x.elim) λz' z' x=>x.elim) n ⟨G,c,.refl,S,L,.refl⟩)
def Ts(F:Fm)(U:Tg->Prop)(c:Cx)(i:dg Expr)(t:wg)(c':Cx):Prop:=
 Do F U c (forIn i true λc r=>if r=true then do let o<-isTrue c F.env (Nc c F.env);pure (bc o) else pure (bc r)) (λz' b=>b=t) c'
theorem HP:Ts F U c [] true c:=λG s S=>wpAny_tests_nil (.here S rfl .refl)
theorem DH(E:It F U c e t c1):Ts F U c [e] t c1:=λG s S=>wpAny_tests_one (E G s S)
def Tk(F:Fm)(tg:Expr)(a:AV)(ρ ρ1:dg (Str×AV)):Prop:=(∀σ,As F ⟨ρ,σ⟩ tg a ⟨ρ1,σ⟩)/\∀z v,ρ.lookup z=some v->ρ1.lookup z=some v
structure Cm where
 x:Expr
 ifs:dg Expr
 γ:Type
 cmp:(γ->Gg->Prop)->Gg->Prop
 R:AV->Gh->γ->Prop
noncomputable def Cp(F:Fm)(U:Tg->Prop)(k:Cm)(n:dg (Str×AV))(σ':Tg->gg d9):dg AV->(Tg->gg d9)->dg AV->Prop
 |[],σ,w=>w=[]/\σ'=σ
 |a::vs,σ,w=>∃(g:dg (Str×AV)) (l:Tg->gg d9),Tk F k.x a n g/\((Ts F U ⟨g,σ⟩ k.ifs false ⟨g,l⟩/\Cp F U k n σ' vs l w)\/∃b m us,Ts F U ⟨g,σ⟩ k.ifs true ⟨g,l⟩/\(∀G s,ST F ⟨g,l⟩ G s.heap->k.cmp (RA F U ⟨g,m⟩ G s (k.R b)) s)/\b.keeps U/\w=b::us/\Cp F U k n σ' vs m us)
structure yD(F:Fm)(U:Tg->Prop)(k:Cm)(D:yg)(HD:k.γ->Ra sa)(cont:Gh->Be->dg AV->Prop):Prop where
 mo:∀(P Q:k.γ->Gg->Prop) s,k.cmp P s->(∀x s,P x s->Q x s)->k.cmp Q s
 ex:∀G h us,cont G h us->∃od,h.get? D=some od
 mv:∀G G' h h' us,cont G h us->Gr U G G'->(∀v∈us,v.keeps U)->h'.get? D=h.get? D->cont G' h' us
 rm:∀b G G' x,(∀a v,F9 G a v->F9 G' a v)->k.R b G x->k.R b G' x
 st:∀G s us b x (Q:sa->Gg->Prop),cont G s.heap us->k.R b G x->us.length<=1000000->(∀h' tk,cont G h' (us++[b])->Ge D s.heap h'->Q () {s with heap:=h',toks:=tk})->Yg (Mk F.W) F.A (HD x) Q no s
inductive CI(F:Fm)(U:Tg->Prop)(kd:Cm)(ρ:dg (Str×AV))(I D:yg)(cont:Gh->Be->dg AV->Prop)(vs:dg AV)(St:yg->Be->Prop)(G:Gh)(s:Gg)(ws:dg AV)(σ:Tg->gg d9)(k:yg)(s':Gg):Prop
 |mk (i:yg) (rest:dg AV) (G':Gh) (σ':Tg->gg d9) (us us':dg AV) (hr:vs.drop i=rest) (hk:k=rest.length+1) (hi:i+rest.length=vs.length) (hu:us.length<=i) (g:Gr U G G') (S:ST F ⟨ρ,σ'⟩ G' s'.heap) (st:St i s'.heap) (L:Cp F U kd ρ σ rest σ' us') (q:SS s s') (N:R5 F G' s'.heap I) (M:R5 F G' s'.heap D) (r:cont G' s'.heap us) (e:us++us'=ws) (w:∀v∈us,v.keeps U)
inductive CE F U ρ D(c:Gh->Be->dg AV->Prop) G s ws σ(r:Result) s':Prop
 |mk G' (z:r= .ok .next) (g:Gr U G G') (S:ST F ⟨ρ,σ⟩ G' s'.heap) (q:SS s s') (M:R5 F G' s'.heap D) (r:c G' s'.heap ws)
theorem R5.H0{I D:yg}(N:R5 F G h I):R5 F (G.H0 D) h' I:=⟨λz=>N.has (z.imp id λz=>z.imp (λz=>z.imp λo z=>z.imp id λz=>((k8 z).resolve_left λz=>Tc _ z.2.symm).2) id),N.fa,N.fc⟩
theorem R5.hold{I D:yg}{ob:Fd}(N:R5 F G h I)(n:I≠D):R5 F (G.hold D ob) h' I:=⟨λz=>N.has (z.imp id λz=>z.imp (λz=>z.imp λo z=>z.imp id λz=>((k8 z).resolve_left λz=>n z.1).2) id),N.fa,N.fc⟩
structure ko(F:Fm)(U:Tg->Prop)(c:Cx)(G G2:Gh)(h2:Be)(I D:yg)(oi od:Fd):Prop where
 S:ST F c ((G2.H0 I).H0 D) h2
 g:Gr U G ((G2.H0 I).H0 D)
 N:R5 F ((G2.H0 I).H0 D) h2 I
 M:R5 F ((G2.H0 I).H0 D) h2 D
 i:h2.get? I=some oi
 d:h2.get? D=some od
 v:∀a v,F9 G2 a v->F9 ((G2.H0 I).H0 D) a v
theorem ST.two{I D:yg}{o l:Fd}(N:R5 F G h I)(M:R5 F G h D)(n:I≠D)(g:Gr U ((G.hold D l).hold I o) G2)(S:ST F c G2 h2):ko F U c G G2 h2 I D o l:=
 have A:=ST.H0 (N.hold n (h':=h)) g S;have B:=ST.H0 M A.g A.S
 ⟨B.S,B.g,A.n.H0,B.n,A.at_,B.at_,λa v r=>B.v a v (A.v a v r)⟩
inductive Nx(P:yg->Gg->Prop) k s:Prop
 |mk m (hm:m<k) (h:P m s)
inductive xq(F:Fm)(P:yg->Gg->Prop)(s:Ra sa) k:wg->Gg->Prop
 |no {s':Gg} (h:Nx P k s'):xq F P s k false s'
 |yes {s':Gg} (h:Yg (Mk F.W) F.A s (λz'=>Nx P k) no s'):xq F P s k true s'
inductive yq F(P:yg->Gg->Prop)(Q:Gg->Prop) I y(i:dg Expr)(s:Ra sa) k:gg zg->Gg->Prop
 |done {s':Gg} (h:Q s'):yq F P Q I y i s k none s'
 |item {v:zg} {s':Gg} (l:uY s'.heap I) (h:Yg (Mk F.W) F.A (assign y F.env v) (λz' p=>Yg (Mk F.W) F.A (forIn i true λc r=>if r=true then do let o<-isTrue c F.env (Nc c F.env);pure (bc o) else pure (bc r)) (xq F P s k) no p) no s'):yq F P Q I y i s k (some v) s'
theorem TQ{kd:Cm}{H:Ra sa}{O:kd.γ->Ra sa}{g:Gh->Be->dg AV->Prop}{I D:yg}{h:dg (yg×Fd)}{j:yg->Be->Prop}{s:Gg}{k:yg}{P:yg->Gg->Prop}{Q:Gg->Prop}(C:yD F U kd D O g)(E:∀Q s,kd.cmp (λx s=>Yg (Mk F.W) F.A (O x) Q no s) s->Yg (Mk F.W) F.A H Q no s)
  (hP:∀k s,CI F U kd ρ I D g vs j G s' ws σ' k s->P k s) (q:∀s,CE F U ρ D g G s' ws σ' (.ok .next) s->Q s) (Y:aC F.W G I vs h j) (hv:∀v∈vs,v.keeps U)
  (hz:vs.length<=1000000) (hp:∀p∈h,G.P p.1=some p.2\/∃τ,G.Z p.1=some (τ,p.2)) (n:I≠D) (X:CI F U kd ρ I D g vs j G s' ws σ' k s):Yg (Mk F.W) F.A (ñ (.ref I)) (yq F P Q I kd.x kd.ifs H k) no s:=by
 obtain⟨i,rest,G,h,us,u,h,hk,m,W,V,w,t,l,q1,N,d,J,e1,w1⟩:=X;have T:=λp m=>(hp p m).elim (λz=>w.sr.y9 _ _ (.inl (V.p _ _ z))) λz=>z.elim λτ z=>w.sr.W7 _ _ _ (V.z _ _ z).1;cases rest with
 |nil=>
  refine Y.done _ _ _ w.fr.st.tU T ((m)▸t) λZ z' hs=> .done (q _ ⟨G,rfl,V,l.2▸w.ext N hs,q1.trans (SS.heap _ _),d.move,?_⟩);rw [l.1,Fg] at e1;exact e1▸C.mv _ _ _ _ _ J .refl w1 ((C.ex _ _ _ J).elim λy e=>(hs _ _ n.symm e).trans e.symm)
 |cons x xs=>
  obtain⟨hx,hd⟩:=kX h;refine Y.item i x _ _ _ hx w.fr.st.tU T t λv Z tk r u hs=> .item (Y.live _ _ u) (f8 (Y.live _ _ u) λo z' z' hI z'=> ?_);refine zE (C.ex _ _ _ J) λy h=> ?_;haveI gh:Gr U _ ((G.hold D y).hold I o):=(Gr.hold d.has).trans (.hold (N.hold n (h':=Z)).has);refine M8 l λq q l=> ?_;have K:=l.1.2;refine Jg (l.1.1 _ _ {s with heap:=Z,toks:=tk} v (((w.same N hs).hold d.move ((hs.2 D n.symm).trans h)).hold (N.hold n) hI) (r.mono (V.trans gh) (hv x (qe hx)))) (λz' s z=>z.casesOn λG r S z' q3=> ?_) λz' z' x=>x;have un:∀{c B} {A:Gg},Gr U _ _->ST F c _ _->ko F U c _ B A.heap I D _ y:=λq S=>ST.two N d n ((r.weak λz' z'=>trivial).trans q) S;have g:∀{R B A vs' u},Gr U _ _->ST F _ _ _->A.heap.get? I=some _->SS _ _->R5 F _ _ I->R5 F _ _ D->g B _ _->u++vs'=ws->(∀v∈u,v.keeps U)->u.length<=i+1->Cp F U _ _ _ _ R _->Nx P k A:=λq S o M N h r e w g L=>
   ⟨xs.length+1,hk▸be _,hP _ _ ⟨i+1,xs,_,_,_,_,hd,rfl,((Af i _).trans m),g,V.trans q,S,Y.frame _ _ _ u (o.trans hI.symm),L,(λa=>q1.trans ((SS.heap Z _).trans (q3.trans a))) M,N,h,r,e,w⟩⟩
  refine l.2.elim (λL=>Jg (L.1 _ _ S) (λb z' z=>z.casesOn λB q S r M=> ?_) λz' z' x=>x) λL=>D6 L λb f u L=>Jg (L.1 _ _ S) (λt A z=>z.casesOn λB q S r M=>(r)▸ .yes ?_) λz' z' x=>x
  ·haveI Q:=un q S;exact(r)▸ .no (g Q.g (Q.S.cut rfl K) Q.i M Q.N Q.M (C.mv _ _ _ _ _ J Q.g w1 (Q.d.trans h.symm)) e1 w1 (bf W) L.2)
  ·refine E _ _ (C.mo _ _ _ (L.2.1 _ A S) λx s z=>z.casesOn λG r S E k=> ?_);haveI Q:=un (q.trans r) S;refine C.st _ _ _ b x _ (C.mv _ _ _ _ _ J Q.g w1 (Q.d.trans h.symm)) (C.rm _ _ _ _ Q.v E) (bg W (bg (bg (Cg i _) (Bg m)) hz)) λq t d h=>g Q.g ((Q.S.cut (c':=⟨ρ,f⟩) rfl K).same Q.M h) ((h.2 I n).trans Q.i) (M.trans (k.trans (SS.heap q _))) Q.N.move Q.M.move d ?_ ?_ ?_ L.2.2.2.2
   ·rw [Lg];exact(eg _ L.2.2.2.1).symm.trans e1
   ·exactλv m=>(List.mem_append.mp m).elim (w1 v) λm=>List.mem_singleton.mp m▸L.2.2.1
   ·refine rL jg ?_;exact Hg W
def FW(W:Wd)(e:Expr)(p:re)(x:Expr)(ifs:dg Expr)(l6:Ra sa)(it acc:zg)(env:Ia):Prop:=(∀A:vc,A.under (.compLoop e 0 it acc env)=A)/\(Mk W).den (.compLoop e 0 it acc env)=(do
 Wa p
 match<-ñ it with
 |none=>pure (Fin.done .next)
 |some v=>
  letOwnedTupleGo x it v
  assign x env v;let mut ok:=true
  for c in ifs do
   if ok then ok<-isTrue c env (Nc c env)
  if ok then l6
  again (.compLoop e 0 it acc env)).onRaise (λx=>do noteFrame x env;theTreesLotGoes x)
theorem UQ{e:Expr}{p:re}{kd:Cm}{A:Ra sa}{q:kd.γ->Ra sa}{g:Gh->Be->dg AV->Prop}{I D:yg}{B:dg (yg×Fd)}{S:yg->Be->Prop}(T:FW F.W e p kd.x kd.ifs A (.ref I) (.ref D) F.env)(C:yD F U kd D q g)(w:∀Q s,kd.cmp (λx s=>Yg (Mk F.W) F.A (q x) Q no s) s->Yg (Mk F.W) F.A A Q no s)(K:aC F.W G I vs B S)(L:Cp F U kd ρ σ' vs σ ws)(O:∀v∈vs,v.keeps U)
  (hz:vs.length<=1000000) (P:ST F ⟨ρ,σ⟩ G s.heap) (N:R5 F G s.heap I) (M:R5 F G s.heap D) (J:S 0 s.heap) (hp:∀p∈B,G.P p.1=some p.2\/∃τ,G.Z p.1=some (τ,p.2)) (n:I≠D) (H:g G s.heap []):
  ab (Mk F.W) F.A (.compLoop e 0 (.ref I) (.ref D) F.env) (CE F U ρ D g G s ws σ') s:=by
 refine codeAny_loop rfl (CI F U _ _ I D _ _ _ G s ws _) (λk z' X=> ?_) _ ⟨0,vs,G,σ,[],ws,rfl,rfl,Tf _,Ag _,.refl,P,J,L,.refl,N,M,H,rfl,λz' m=>(by nomatch m)⟩;rw [T.1,T.2];refine wpAny_noted (fg (Qd (fg (Jg (TQ C w (λz' z' x=>x) (λz' x=>x) K O hz hp n X) (λr z' z=> ?_) λz' z' x=>x.elim))));cases z with
 |done h=>exact ug h
 |item l h=>
  refine fg (l.go (fg (Jg h (λz' z' h=>fg (Jg h (λt z' c=> ?_) λz' z' x=>x.elim)) λz' z' x=>x.elim)));cases c with
  |no h=>exact ug ⟨rfl,h.casesOn λm hm h=>⟨m,hm,h⟩⟩
  |yes h=>exact fg (Jg h (λz' z' h=>ug ⟨rfl,h.casesOn λm hm h=>⟨m,hm,h⟩⟩) λz' z' x=>x.elim)
theorem mQ{e x iter:Expr}{i:dg Expr}{s:lf}{g acc:zg}{env:Ia}:FW W (.ListComp e [⟨x,iter,i,0⟩] s pos) iter.pos x i (do let _<-call (.builtin "list.append") [acc,<-Nc e env]) g acc env:=⟨λz'=>rfl,rfl⟩
theorem nQ{k v x iter:Expr}{i:dg Expr}{p:lf}{q:zg}{D:yg}{env:Ia}:FW W (.DictComp k v [⟨x,iter,i,0⟩] p pos) iter.pos x i (do
 let m<-Nc k env;let n<-Xa [m] (Nc v env)
 Wa {k.pos with endLine:=v.pos.endLine,endCol:=v.pos.endCol}
 Xa [m,n] (dictSet D m n)) q (.ref D) env:=⟨λz'=>rfl,rfl⟩
noncomputable def x0(env:Ia)(cs:dg (Str×Addr))(x:Str×jb):dg (Str×Addr):=if(x.2== .free)=true then(match env.cells.lookup x.1 with|some c=>(x.1,c)::cs|none=>cs) else cs
noncomputable def yW(scope:lf)(env:Ia):dg (Str×Addr):=scope.names.foldl (x0 env) []
theorem vJ{env:Ia}{n:dg (Str×jb)}{cs:dg (Str×Addr)}(h:∀x∈n,x.2= .free->∃c,env.cells.lookup x.1=some c):
  (forIn n cs λx r=>do
   if x.2== .free then
    let c<-cellOf env x.1
    pure (bc ((x.1,c)::r))
   else pure (bc r):Ra (dg (Str×Addr)))=pure (n.foldl (x0 env) cs):=by
 induction n generalizing cs with
 |nil=>rfl
 |cons x _ i=>
  rw [List.forIn_cons,List.foldl_cons];unfold x0;by_cases q:(x.2==te)=true
  ·refine zE (h x (.head _) (eq_of_beq q)) λc w=> ?_;refine rL (xg q) (rL (xg q) ?_);unfold cellOf;exact rL w (i λy l=>h y (.tail _ l))
  ·exact rL (og q) (rL (og q) (i λy l=>h y (.tail _ l)))
theorem xW{scope:lf}{env:Ia}(h:∀x∈scope.names,x.2= .free->∃c,env.cells.lookup x.1=some c):closureFor scope env=pure (yW scope env):=by
 unfold closureFor yW;refine rR (vJ h) ?_;rw [bind_pure]
theorem th{x y:Str}{c:Addr}{l:dg (Str×Addr)}:((y,c)::l).lookup x=if x=y then some c else l.lookup x:=by
 refine rL xf ?_;by_cases q:x=y
 ·refine rL q ?_;rw [jf,xg rfl]
 ·exact rL (og q) (rL (beq_eq_false_iff_ne.mpr q) rfl)
theorem mX{env:Ia}{x:Str}{names:dg (Str×jb)}{cs:dg (Str×Addr)}:(names.foldl (x0 env) cs).lookup x=if(x,te)∈names/\(env.cells.lookup x).isSome=true then env.cells.lookup x else cs.lookup x:=by
 induction names generalizing cs with
 |nil=>exact(og λq=>(by nomatch q.1)).symm
 |cons y names ih=>
  rw [List.foldl_cons,ih];by_cases p:(x,te)∈names/\(env.cells.lookup x).isSome=true
  ·rw [xg p,xg ⟨.tail _ p.1,p.2⟩]
  ·rw [og p];have st:(x0 env cs y).lookup x=if y=(x,te)/\(env.cells.lookup x).isSome=true then env.cells.lookup x else cs.lookup x:=by
    unfold x0;by_cases q:(y.2==te)=true
    ·rw [xg q];cases e:env.cells.lookup y.1 with
     |none=>exact(og λz=>by rw [z.1] at e;rw [e] at z;cases z.2).symm
     |some c=>
      rw [th];by_cases n:x=y.1
      ·have:y=(x,te):=nb n.symm (eq_of_beq q);rw [xg n,n,e,xg ⟨nb rfl (eq_of_beq q),rfl⟩]
      ·rw [og n,og λz=>n (eg Prod.fst z.1).symm]
    ·rw [og q,og λz=>q (by rw [z.1];rfl)]
   rw [st];by_cases m:y=(x,te)/\(env.cells.lookup x).isSome=true
   ·rw [xg m,xg ⟨m.1▸ .head _,m.2⟩]
   ·rw [og m,og λz=>(List.mem_cons.mp z.1).elim (λw=>m ⟨w.symm,z.2⟩) λw=>p ⟨w,z.2⟩]
theorem o7{scope:lf}{env:Ia}{x:Str}{c:Addr}(h:(yW scope env).lookup x=some c):env.cells.lookup x=some c:=
 (k8 (mX.symm.trans h)).elim (·.2) λz=>(by nomatch z.2)
theorem QR{scope:lf}{env:Ia}{x:Str}{c:Addr}(h:env.cells.lookup x=some c)(q:(x,te)∈scope.names):(yW scope env).lookup x=some c:=mX.trans ((xg ⟨q,by refine rL h ?_;rfl⟩).trans h)
noncomputable def mL(F:Fm)(scope:lf)(L:yg):Fm:=⟨F.W,F.A,compEnvC scope (yW scope F.env) L F.env,[L],F.n⟩
structure cP(F:Fm)(scope:lf):Prop where
 cell:∀y∈scope.names,y.2≠ .cell
 kind:scope.kind= .function
 names:∀y∈scope.names,y.2= .local->scope.names.lookup y.1=some .local
 free:∀y∈scope.names,y.2= .free->F.env.kindOf y.1=some .cell
theorem j2{scope:lf}{env:Ia}{x:Str}{k:jb}(w:k= .cell\/k= .free)(l:∀y∈scope.names,y.2≠ .cell)(h:(relabel scope env).names.lookup x=some k):(x,te)∈scope.names:=by
 haveI:∀g:dg _,(∀y∈g,y.2≠ .cell)->(g.map λ(n,k)=>if(k==te&&env.scope.kind== .function&&env.kindOf n==some .cell) then(n,NameKind.cell) else(n,k)).lookup x=some k->(x,te)∈g:=λg p h=>by
  induction g with
  |nil=>cases h
  |cons y _ i=>
   obtain⟨n,A⟩:=y;rw [Cf,xf] at h;split at h
   ·rename_i e;split at e
    ·rename_i q;exact rL (eq_of_beq e) (rR (eq_of_beq (Bool.and_eq_true_iff.mp (Bool.and_eq_true_iff.mp q).1).1) (.head _))
    ·rename_i q;haveI h:=og q▸h;haveI h:=ig h;subst h;exact rL (eq_of_beq e) (w.elim (λe=>absurd e (p _ (.head _))) λe=>e▸ .head _)
   ·exact .tail _ (i (λz m=>p z (.tail _ m)) h)
 exact this _ l h
variable{ρ':dg (Str×AV)}
noncomputable def pf:Tg->wg:=λz'=>false
theorem WK:xh pf σ=σ:=funext λτ=>og cf
theorem uA:qh pf σ σ'=σ':=funext λτ=>og cf
theorem ZJ:Wf pf σ:=⟨(λz' z' q=>(by nomatch q)),λτ o z'=>d9.t9 (λz' z'=>rfl) o.U9⟩
theorem ST.zJ(S:ST F c G h){y:Str}{d:yg}(q:F.env.cells.lookup y=some d): @LT.lt yg _ d h.objs.size:=(S.fr.alive.2 y d q).elim λz' e=>de e
theorem ST.inner{scope:lf}{L:yg}{m:Str->gg zg}(S:ST F c G h)(sc:cP F scope)(hs:∀y v,ρ'.lookup y=some v->c.ρ.lookup y=some v)(hL0:h.objs.size<=L)(hk:∀b o,h.get? b=some o->h'.get? b=some o)(hn:h'.Ns L m)(hloc:∀x v,ρ'.lookup x=some v->(mL F scope L).env.kindOf x≠some .local):
  ST (mL F scope L) ⟨ρ',c.σ⟩ (G.enter pf h F.fa) h':=by
 have R:SR F.W c.σ (G.enter pf h F.fa) h:=by have:=S.enter (p:=pf);rwa [WK] at this
 have lt:∀{x:Str} {c:yg},(yW scope F.env).lookup x=some c-> @LT.lt yg _ c L:=λq=>Og (S.zJ (o7 q)) hL0;have ck:∀{x:Str} {k:jb},k= .cell\/k= .free->(mL F scope L).env.kindOf x=some k->(x,te)∈scope.names/\F.env.kindOf x=some .cell:=λhk q=>⟨j2 hk sc.cell q,sc.free _ (j2 hk sc.cell q) rfl⟩;refine⟨R.keeps hk,⟨sc.kind,S.fr.st.glob,S.fr.st.blt,S.fr.st.tU,S.fr.st.depth,S.fr.st.units,λx y c h1 h2=>S.fr.st.inj x y c (o7 h1) (o7 h2),λx c q=>Ie (lt q),.head _,λa ha=> .inl (List.mem_singleton.mp ha),(λq=>(by nomatch q)),λx q=> ?_⟩,⟨m,hn,λx v q k=>absurd k (hloc x v q)⟩,λx v q k=> ?_,λx c q=> ?_,λa ha=> ?_,λx c q=> ?_⟩
 ·obtain⟨hf,kc⟩:=ck (.inl rfl) q;exact(S.fr.st.TR x kc).imp λc hc=>QR hc hf
 ·obtain⟨hf,kc⟩:=k.elim (ck (.inl rfl)) (ck (.inr rfl));exact(S.fr.cell x v (hs _ _ q) (.inl kc)).imp λc z=>z.imp λy z=>⟨QR z.1 hf,z.2.1.imp λo z=>⟨hk _ _ z.1,z.2⟩,z.2.2.mono S.u6 v.U9⟩
 ·exact(S.fr.live x c (o7 q)).imp λv z=>z.imp λo z=>⟨hk _ _ z.1,z.2⟩
 ·rw [List.mem_singleton.mp ha];exact R.fresh hL0
 ·obtain⟨o1,o2⟩:=S.fr.k5 x c (o7 q);refine⟨?_,.inr (o2.elim (λm=>(S.aX (.inl m)).elim λo z=>by rw [z.2];rfl) λz=> ?_)⟩
  ·show(if(G.own c).any pf=true then none else G.own c)=none;rw [o1];exact Oa _
  ·exact(Option.isSome_iff_exists.mp z).elim λo z=>by rw [(S.u6).k c o z|>.1];rfl
structure Fo(W:Wd) where
 ex:Expr
 sc:lf
 x:Expr
 iter:Expr
 ifs:dg Expr
 nm:wb
 d0:Data
 γ:Type
 cmp:vc->Ia->(γ->Gg->Prop)->Gg->Prop
 R:AV->Gh->γ->Prop
 l6:yg->Ia->Ra sa
 HD:yg->γ->Ra sa
 cont:yg->Gh->Be->dg AV->Prop
 turn:∀it D env,∃p,FW W ex p x ifs (l6 D env) it (.ref D) env
 start:∀{A env it acc R s},ab (Mk W) A (.compLoop ex 0 it acc env) R s->Yg (Mk W) A (ò it) (λit' s'=>ab (Mk W) A (.compLoop ex 0 it' acc env) R s') (notedBy (Mk W) A env λx s'=>R (.error x) s') s->ab (Mk W) A (.compStart ex 0 it acc env) R s
 ct:∀(A:vc) (env:Ia) (fa:dg yg) (n:yg) (U:Tg->Prop) (D:yg),yD ⟨W,A,env,fa,n⟩ U ⟨x,ifs,γ,cmp A env,R⟩ D (HD D) (cont D)
 step:∀A env D Q s,cmp A env (λx s=>Yg (Mk W) A (HD D x) Q no s) s->Yg (Mk W) A (l6 D env) Q no s
 new:∀G h D,h.get? D=some {cls:= .type nm,dict:=none,data:=d0}->cont D G h []
 sz:sizeOk d0
 fr:({cls:= .type nm,dict:=none,data:=d0}:Fd).isFreed=false
 cl:clausesOf ex=[⟨x,iter,ifs,0⟩]
noncomputable def Fo.kd{W:Wd}(f:Fo W)(A:vc)(env:Ia):Cm:=⟨f.x,f.ifs,f.γ,f.cmp A env,f.R⟩
inductive Rx(F:Fm)(U:Tg->Prop)(f:Fo F.W)(c:Cx)(G:Gh)(s:Gg)(ws:dg AV)(acc:zg)(C:yg)(s':Gg):Prop
 |mk (G':Gh) (g:Gr U G G') (S:ST F c G' s'.heap) (q:SS s s') (D:yg) (v:acc= .ref D) (M:R5 F G' s'.heap D) (N:R5 F G' s'.heap C) (st:xc<D) (ne:D≠C) (r:f.cont D G' s'.heap ws) (m:Str->gg zg) (hn:s'.heap.Ns C m)
theorem R5.of{x:yg}(S:ST F c G h)(hx:h.objs.size<=x)(n:¬G'.has x):R5 F G' h' x:=⟨n,(S.new hx).fa,(S.new hx).fc⟩
theorem SQ{f:Fo F.W}{I:yg}{h:dg (yg×Fd)}{g:yg->Be->Prop}(P:aC F.W G I vs h g)(S:ST F c G s.heap)(m:g 0 s.heap)(N:R5 F G s.heap I)(hp:∀p∈h,G.P p.1=some p.2\/∃τ,G.Z p.1=some (τ,p.2))
  (q:cP F f.sc) (hs:∀z v,ρ'.lookup z=some v->c.ρ.lookup z=some v/\(relabel f.sc F.env).names.lookup z≠some .local) (R:vs.length<=1000000) (L:∀L,Cp (mL F f.sc L) U (f.kd F.A (mL F f.sc L).env) ρ' σ' vs c.σ ws) (hv:∀v∈vs,v.keeps U) (hρ:∀x v,c.ρ.lookup x=some v->v.keeps U)
  (E:∀D G G' h us,f.cont D G h us->(∀a v,F9 G a v->F9 G' a v)->f.cont D G' h us)
  {RR:zg->Addr->Result->Gg->Prop} (r:∀acc C s',Rx F U f ⟨c.ρ,σ'⟩ G s ws acc C s'->RR acc C (.ok .next) s'):
  Yg (Mk F.W) F.A (newObj (.type f.nm) f.d0) (λacc t=>Yg (Mk F.W) F.A (newFunctionEnv f.sc F.env.globals (yW f.sc F.env) [] F.env.qual none .none (some F.env)) (λV W=>
   ab (Mk F.W) F.A (.compStart f.ex 0 (.ref I) acc {V with scope:=relabel f.sc F.env}) (RR acc V.locals) W) no t) no s:=by
 refine wpAny_newObj_type (hd:=f.sz) (wpAny_newFunctionEnv q.cell (λy h=>(by nomatch h)) (λg X O=> ?_) q.kind);generalize hH2:s.heap.push {cls:= .type _,dict:=none,data:=f.d0}=H2 at X O⊢;have h:H2.objs.size=s.heap.objs.size+1:=by rw [<-hH2,Heap.size_push]
 have J:s.heap.objs.size<=H2.objs.size:=h▸Gf _;haveI j:s.heap.objs.size≠H2.objs.size:=by refine rL h ?_;exact Ie (be _)
 have u:=λb o e=>
  O.extBut b o (λz=>Nat.not_lt.mpr J (z▸de e)) (zf _ (hH2▸zf _ e))
 haveI k:∀{b},(∃o,s.heap.get? b=some o)->g.get? b=s.heap.get? b:=λe=>b5 u e;refine f8 (P.live _ _ m) λo z' z' h z'=> ?_;haveI l:=de h;have ge:Gr U G (G.enter pf _ _):=S.u6.weak λz' z'=>trivial;haveI nh:∀{b},b∉F.fa->¬G.has b->¬(G.enter pf s.heap _).has b:=λh q=>by
  haveI q:=G.x8 q;refine Gh.O4 ⟨?_,q.2.1,(og λz=>z.elim h λz=> ?_).trans q.2.2.1,q.2.2.2⟩
  ·show(if _ then none else G.own _)=none;refine rL q.1 ?_;exact Oa _
  ·haveI z:=q.1▸z;exact(by nomatch z)
 have n:∀{b},R5 F G s.heap b->b≠H2.objs.size->R5 (mL F f.sc _) _ g b:=λN n=>⟨nh N.fa N.has,λz=>n (List.mem_singleton.mp z),λy d e=>N.fc y d (o7 e)⟩;have h:=P.frame _ _ _ m (k ⟨_,h⟩);haveI M:=S.new (Ag _);haveI K:=(f.turn _ _ (mL F _ _).env).elim λp T=>Oc (UQ (kd:=f.kd _ (mL F _ _).env) (s:={s with heap:=g,toks:=s.toks+([]:dg (Str×zg)).length}) T (f.ct _ _ _ _ _ _) (λQ s=>f.step _ _ _ Q s) (⟨P.live,P.frame,P.self,λi x A s Q a b c d k=>P.item i x A s Q a b c d λv h' tk r=>k v _ _ (r.mono S.u6 x.U9),P.done⟩) (L _) hv R (S.inner q (λz v e=>(hs z v e).1) J u X λx v e=>(hs x v e).2)
  (n N (Ie (Og l J))) (n M j) h (λq m=>(hp q m).imp (ge.p _ _) λz=>z.imp λτ z=>(ge.z _ _ z).1) (Ie l) (f.new _ _ _ (O.extBut _ _ j (zf _ (hH2▸yf _ f.fr))))) λr z' z=>by
  obtain⟨G',rfl,g,h,q,M,r'⟩:=z;refine eP (S.back g h.sr ZJ ZJ (λz' z' z'=>rfl) λz v e=>AV.t9 (λz'=> .inl) (hρ z v e)) λg1 g k=> ?_;haveI b:∀{b},s.heap.objs.size<=b->¬G'.has b->¬(G.back pf _).has b:=λE q=>by
   haveI q:=G'.x8 q;haveI w:=G.x8 (S.sr.fresh E);refine Gh.O4 ⟨?_,q.2.1,w.2.2.1,q.2.2.2⟩;show(if _ then G.own _ else G'.own _)=none;refine rL q.1 (rL w.1 ?_);exact Oa _
  exact O8 h.fr.ns λm hn z'=>(r _ _ _ ⟨_,g1.weak λz'=> .inl,g,(SS.heap _ _).trans q,_,rfl,.of S (Ag _) (b (Ag _) M.has),.of S J (b J (h.fr.zY _ (.head _))),S.sr.statics,j,E _ _ _ _ _ r' λa v r=>k a (AV.t9 (λz' z'=>rfl) a.U9) v r,m,hn⟩)
 exact f.start K (P.self 0 _ _ _ _ h K)
theorem cP.Rr{scope:lf}(S:ST F c G h)(s:cP F scope):closureFor scope F.env=pure (yW scope F.env):=
 xW λx hx g=>S.fr.st.TR _ (s.free x hx g)
structure pU(F:Fm)(U:Tg->Prop)(c:Cx)(f:Fo F.W)(ws:dg AV)(c1:Cx)(σ':Tg->gg d9):Prop where
 ex:∃vs ρ',GW F U c f.iter vs c1/\(∀z v,ρ'.lookup z=some v->c1.ρ.lookup z=some v/\(relabel f.sc F.env).names.lookup z≠some .local)/\vs.length<=1000000/\(∀L,Cp (mL F f.sc L) U (f.kd F.A (mL F f.sc L).env) ρ' σ' vs c1.σ ws)/\(∀v∈vs,v.keeps U)/\∀x v,c1.ρ.lookup x=some v->v.keeps U
 sc:cP F f.sc
 hs:∀x,Tb f.iter F.env x=pure x
 hb:∀D G G' h us,f.cont D G h us->(∀a v,F9 G a v->F9 G' a v)->f.cont D G' h us
theorem pU.go{f:Fo F.W}{p:re}{use:gg (zg->Ra sa)}{Q:zg->Gg->Prop}(E:pU F U c f ws c1 σ')(S:ST F c G s.heap){first:Ra zg}(h:first=Nc f.iter F.env)
  (k:∀acc C s',Rx F U f ⟨c1.ρ,σ'⟩ G s ws acc C s'->compPost (Mk F.W) F.A no use Q acc C (.ok .next) s'):Yg (Mk F.W) F.A (comprehension f.ex f.sc F.env p (newObj (.type f.nm) f.d0) false first use) Q no s:=by
 refine u8 E.ex λvs z' E1 hs p'=>mH p' λhl L H hρ=>(wpAny_comprehension_free f.cl E.hs (E.sc.Rr S) E.sc.kind E.sc.names ?_);refine rL h (Jg (E1 G s S) (λv z' z=>Jg z (λT z' z=>z.casesOn λO z' K B z=>z.casesOn λP J A w I z' z' e N i l hp=> ?_) λz' z' x=>x) λz' z' x=>x);exact e▸SQ i A l N hp E.sc hs hl L H hρ E.hb λacc C z' z=>k _ C _ (z.casesOn λG' g S q D v M N l n r m hn=>⟨G',(K.trans (J.weak λz' z'=>trivial)).trans g,S,(B.trans w).trans q,D,v,M,N,l,n,r,m,hn⟩)
noncomputable def PV(W:Wd)(elt x iter:Expr)(ifs:dg Expr)(sc:lf)(pos:re):Fo W where
 ex:= .ListComp elt [⟨x,iter,ifs,0⟩] sc pos
 sc:=sc
 x:=x
 iter:=iter
 ifs:=ifs
 nm:="list"
 d0:= .seq ([]:dg zg).toArray
 γ:=zg
 cmp A env Q s:=Yg (Mk W) A (Nc elt env) Q no s
 R b G v:=F9 G b v
 l6 D env:=do let _<-call (.builtin "list.append") [.ref D,<-Nc elt env]
 HD D v:=do let _<-call (.builtin "list.append") [.ref D,v]
 cont D G h us:=∃items,h.PlainList D items/\r9 (F9 G) us items.toList
 turn it D env:=⟨_,mQ⟩
 start h0 h1:=codeAny_compStart_list h0 h1
 ct A env fa n U D:={
  mo:=λP Q s h k=>Jg h k λz' z' x=>x
  ex:=λG h us r=>r.elim λitems r=>r.1.imp' _ λz' z=>z
  mv:=λG G' h h' us r g w e=>r.imp λitems r=>⟨r.1.imp λk z=>e.trans z,r.2.mono λv m z' r=>r.mono g (w v m)⟩
  rm:=λb G G' x k r=>k _ _ r
  st:=λG s us b x Q r q hz k=>r.elim λitems r=>fg (wpAny_list_append_plain (hsz:=O9 (bg (j3 r.2 hz) (by decide))) r.1 λh7 d7 hs7=>ug (k h7 s.toks ⟨_,d7,by rw [Kd];exact r.2.append (.cons q .nil)⟩ hs7))}
 step A env D Q s h:=fg (Jg h (λz' z' h=>h) λz' z' x=>x)
 new G h D e:=⟨#[],⟨_,e⟩,.nil⟩
 sz:=by size_fits
 fr:=rfl
 cl:=rfl
theorem fE{e x iter:Expr}{i:dg Expr}{s:lf}:∀D G G' h us,(PV W e x iter i s pos).cont D G h us->(∀a v,F9 G a v->F9 G' a v)->(PV W e x iter i s pos).cont D G' h us:=
 λD G z' h z' r k=>r.imp λitems r=>⟨r.1,r.2.mono λa z' v r=>k a v r⟩
theorem oE{e x iter:Expr}{i:dg Expr}{scope:lf}(E:pU F U c (PV F.W e x iter i scope pos) ws c1 σ'):uL F U c (.ListComp e [⟨x,iter,i,0⟩] scope pos) ws ⟨c1.ρ,σ'⟩:=λG s S=>by
 exact E.go S rfl λacc C z' z=>z.casesOn λG' g S q D v M N l p r m hn=>r.elim λitems r=>r.1.elim λn d=>
  ⟨m,hn,λh hs=>⟨G',g,S.same N hs,q.trans (SS.heap _ _),D,items,n,v,(hs.2 D p).trans d,M.has,M.fa,M.fc,l,r.2⟩⟩
theorem PW{x:Str}{p:re}{elt y iter:Expr}{ifs:dg Expr}{scope:lf}{spos:re}(E:pU F U c (PV F.W elt y iter ifs scope spos) (ds.map .a9) c1 σ')(hk:b6 (F.env.kindOf x)=true)(hf:F.env.func.isSome=true\/F.env.kindOf x=some .local)
  (hsw:Ce (.ListComp elt [⟨y,iter,ifs,0⟩] scope spos) (some (.Name x p)) pos.line F.env=pure true):X1 F U c (.Assign [.Name x p] (.ListComp elt [⟨y,iter,ifs,0⟩] scope spos) pos) .next ⟨W9 c1.ρ x (.a9 (.list ds)),σ'⟩:=λG s S=>by
 rw [exec_Assign_Name_used _ _ _ _ hsw];refine fg (Qd (fg ?_));rw [ę];refine fg (E.go S rfl λacc C s' z=>z.casesOn λG' g S q D v M N st ne r m hn=>r.elim λitems r=>r.1.elim λn d=> ?_);have S2:=S.F4 M.has M.fa d;have N2:R5 F (G'.y9 D (listOf items n)) s'.heap C:=⟨λz=>N.has (z.imp id λz=>z.imp (λz=>z.imp λo z=>z.imp (λz=>((k8 z).resolve_left λw=>ne w.1.symm).2) id) id),N.fa,N.fc⟩;have gp:Gr U G' (G'.y9 D (listOf items n)):= .y9 M.has;have hn':=hn;obtain⟨o,_,_,ho,_⟩:=hn';have r2:F9 ((G'.y9 D (listOf items n)).hold C o) (.a9 (.list ds)) acc:=⟨D,items,n,v,xg rfl,r.2.R6.mono gp.p⟩;refine Uc (m6 hk hf (S2.hold N2 ho) r2 λs5 S5 q5=> ?_);have Q:=ST.H0 (U:=U) N2 .refl S5;exact⟨m,pZ hn (Q.at_.trans ho.symm),λh'' hs=>ug (ug ⟨_,(g.trans gp).trans Q.g,Q.S.same Q.n hs,rfl,(q.trans q5).trans (SS.heap h'' s5.toks)⟩)⟩
theorem r9.qV{q l:Type}{R:q->l->Prop}{xs:dg q}{g:dg l}(hl:g.length=xs.length)(h:∀(j:yg) y,g[j]? =some y->∃x,xs[j]? =some x/\R x y):r9 R xs g:=by
 induction xs generalizing g with
 |nil=>cases g with
  |nil=>exact .nil
  |cons y _=>cases hl
 |cons x _ i=>cases g with
  |nil=>cases hl
  |cons y _=>
   exact O8 (h 0 y rfl) λp e r=>(.cons (ig e▸r) (i (ì hl) λj v m=>h (j+1) v m))
noncomputable def zs(ns:dg kg):dg vg:=ns.map .int
theorem oR{P:yg->gg Fd}{vs:dg zg}{ns:dg kg}(r:O3 P (zs ns) vs):IntsAre vs ns:=by
 induction ns generalizing vs with
 |nil=>refine rL (r) ?_;exact .nil
 |cons n _ i=>refine u8 r λy m e r q=> ?_;refine zE r λt g=> ?_;refine rL e (rL g ?_);exact .cons _ _ (i q)
theorem KX{P:yg->gg Fd}{vs:dg zg}{ns:dg kg}(h:IntsAre vs ns):O3 P (zs ns) vs:=by
 induction h with
 |nil=>exact rfl
 |cons n t _ i=>exact⟨_,_,rfl,⟨_,rfl⟩,i⟩
theorem a7{R:AV->zg->Prop}{xs:dg zg}(r:r9 R [a] xs):∃x,xs=[x]/\R a x:=by
 exact u8 r.cons_inv λx y e g r=>(⟨x,by rw [e,r.nil_inv],g⟩)
theorem j4{R:AV->zg->Prop}{xs:dg zg}(r:r9 R [a,b] xs):∃x y,xs=[x,y]/\R a x/\R b y:=by
 refine u8 r.cons_inv λx m e g r=>(O8 (a7 r) λy q l=> ?_);subst q;exact⟨x,y,e,g,l⟩
theorem RA.list{tk n:yg}{items:Rf zg}(S:ST F c G s.heap)(r:O3 G.P ds items.toList)(l:∀b o,s.heap.get? b=some o->h'.get? b=some o){x:yg}(hx:s.heap.objs.size<=x)(g:h'.get? x=some (listOf items n)):RA F U c G s (λG=>F9 G (.a9 (.list ds))) (.ref x) {s with heap:=h',toks:=tk}:=
 (RJ.push S r.R6 l hx g).a9
theorem qO{ns:dg kg}(hl:Ls c.σ a ((zs ns).map .a9))(hz:ns.length<64):X4 F U c (λxs=>call (.builtin "sorted") xs []) [a] (.a9 (.list (zs (Ì ns)))) c:=λG s z' S r=>by
 refine O8 (a7 r) λx A w=> ?_;subst A;refine f8 (a6 S.sr hl w) λy z' n A p'=>zA p' λg q=> ?_;subst A;have h:=oR q.R6;refine sorted_ints (by exact X8 g) h (rL h.length hz) λout z' l p v=> ?_;obtain⟨m,hm⟩:=sortedAll_at _ _ _;exact .list S (eq_sortI p v▸KX l) (λz' z' z=>sortedAll_old z) (Gf _) hm
theorem RA.ite{p:Prop}[Zb p]{m g tk:yg}(S:ST F c G h')(l:SS s {s with heap:=h',toks:=tk}):RA F U c G s (λG=>F9 G (.a9 (.int (if p then i else j)))) (if p then .int i m else .int j g) {s with heap:=h',toks:=tk}:=by
 refine .here S ?_ l;split
 ·exact⟨_,rfl⟩
 ·exact⟨_,rfl⟩
theorem ZB:X4 F U c (λxs=>call (.builtin "min") xs []) [.a9 (.int i),.a9 (.int j)] (.a9 (.int (if j<i then j else i))) c:=λG s z' S r=>by
 obtain⟨x,y,rfl,⟨g,rfl⟩,t,rfl⟩:=j4 r;exact min_two_ints S.fr.st.tU λh' z' h=> .ite (S.keeps h) (SS.heap _ _)
theorem aA:X4 F U c (λxs=>call (.builtin "max") xs []) [.a9 (.int i),.a9 (.int j)] (.a9 (.int (if i<j then j else i))) c:=λG s z' S r=>by
 obtain⟨x,y,rfl,⟨g,rfl⟩,t,rfl⟩:=j4 r;exact max_two_ints S.fr.st.tU λh' z' h=> .ite (S.keeps h) (SS.heap _ _)
theorem rK:X4 F U c (λxs=>call (.type "range") xs []) [.a9 (.int i)] (.range i) c:=λG s z' S r=>by
 refine yL (a7 r) λx h t u=> ?_;subst h;subst u;refine call_range_1 ?_;obtain⟨l,g,p⟩:=S.data (ob:={cls:= .type "range",dict:=none,data:= .fields #[.int 0 _,.int i _,.int 1 _],slots:=#[]}) rfl;exact⟨_,l,g,⟨_,_,_,_,rfl,p⟩,SS.heap _ _⟩
theorem rO(hl:Ls c.σ a (ds.map .a9))(hz:ds.length<=1000000):X4 F U c (λxs=>call (.type "list") xs []) [a] (.a9 (.list ds)) c:=λG s z' S r=>by
 refine O8 (a7 r) λx u l=> ?_;subst u;refine f8 (a6 S.sr hl l) λy z' n u p=>zA p λg q=> ?_;subst u;exact call_list_seq y (.inl rfl) g rfl rfl (λh' z' m h=> .list S q.R6 m (Ag _) h) (O9 (bg (j3 q (by rw [ng];exact hz)) (by decide)))
theorem tV{l:dg (kg×AV)}(e:c.σ τ=some (.M9 true l))(hz:l.length<=1000000):X4 F U c (λxs=>call (.type "list") xs []) [.g9 τ] (.a9 (.list (zs (l.map (·.1))))) c:=λG s z' S r=>by
 refine O8 (a7 r) λx B z=> ?_;subst B;obtain rfl:x= .ref _:=z;refine O8 (S.sr.g9 _ _ e) λkvs hm g=> ?_;obtain⟨ep,m⟩:=hm.dictAt;refine kdl_call (kdl_dict (S.sr.nT e (.inl rfl) rfl)) S.fr.st.tU m (O9 (bg (g.length▸hz) (by decide))) λh' z' z' z' n q h=> .list S (r9.R6 (r9.qV ?_ λj v A=> ?_)) n (Ag _) q
 ·refine rL Zg ?_;refine rL h.1 ?_;rw [ng,zs,ng,ng];exact g.length.symm
 ·refine Z5 (h.2 j v (rR (Sf) A)) λk x w p=> ?_;obtain⟨tk,rfl⟩:=Qa p;refine⟨.a9 (.int k),?_,_,rfl⟩;rw [zs,lR g,Wg,Wg,Wg,w];rfl
theorem NX(g:0<=i)(l:i<=1000000):X4 F U c (λxs=>call (.type "list") xs []) [.range i] (.a9 (.list (zs ((af i.toNat).map λ(n:yg)=>n)))) c:=λG s z' S r=>by
 refine O8 (a7 r) λx z A=> ?_;subst z;refine T6 A λy B t D u=>zA u λz p=> ?_;subst z;haveI hsz:Ã 0 i 1=(i.toNat):=by rw [rangeSize_one,db g];split;exact Ē i;exact Yb g (Int.not_lt.mp ‹_›)
 refine call_list_range S.fr.st.tU (S.sr.y9 _ _ (.inl p)) (small_one (by decide) (by decide) (Hc (by decide) g) (Fe l (by decide))) hsz (Int.toNat_le.mpr (Hc l (by decide))) λh' z' z' z' q w h=> .list S (r9.R6 (r9.qV ?_ λj v m=> ?_)) q (Ag _) w
 ·refine rL Zg ?_;refine rL h.1 ?_;rw [ng,zs,ng,ng,Bf]
 ·obtain⟨tk,rfl⟩:=h.2 j v (rR (Sf) m);refine⟨.a9 (.int (j)),?_,tk,?_⟩
  ·rw [zs,Wg,Wg,Wg,Ba (h.1▸(Zg▸(List.getElem?_eq_some_iff.mp m).1))];rfl
  ·rw [Int.mul_one,Int.zero_add]
theorem pK(hl:Ls c.σ a (ds.map .a9))(hz:ds.length<=1000000):X4 F U c (λxs=>call (.type "tuple") xs []) [a] (.a9 (.tuple ds)) c:=λG s z' S r=>by
 refine O8 (a7 r) λx w v=> ?_;subst w;refine f8 (a6 S.sr hl v) λy z' n w u=>zA u λg q=> ?_;subst w;refine call_tuple_list (X8 g) (λh' h=> ?_) (O9 (bg (j3 q (by rw [ng];exact hz)) (by decide)));obtain⟨l,m,p⟩:=(S.keeps h).data (ob:=v7 _ 0) rfl;exact⟨_,l,m,⟨_,_,_,rfl,p,q.R6.mono l.p⟩,rfl,rfl,rfl⟩
theorem FY:X4 F U c (λxs=>call (.type "tuple") xs []) [.a9 (.tuple ds)] (.a9 (.tuple ds)) c:=λG s z' S r=>by
 refine O8 (a7 r) λx u g=> ?_;subst u;refine f8 g λy z' n u h=>zA h λp q=> ?_;subst u;exact call_tuple_tup ⟨_,S.sr.y9 _ _ (.inl p),rfl,_,rfl⟩ (.here S g .refl)
theorem cA:X4 F U c (λxs=>call (.type "int") xs []) [.a9 (.int i)] (.a9 (.int i)) c:=λG s z' S r=>by
 refine yL (a7 r) λx q t h=> ?_;subst q;subst h;exact call_int_int (.here S ⟨_,rfl⟩ .refl)
theorem vO(hl:Ls c.σ a vs):X4 F U c (λxs=>call (.builtin "isinstance") xs []) [a,.typ "list"] (.a9 (.bool true)) c:=λG s z' S r=>by
 refine u8 (j4 r) λx y h l u=> ?_;subst h;subst u;refine f8 (a6 S.sr hl l) λy z' n h p=>zA p λg q=> ?_;subst h;exact IsiPair.list_list g rfl (.here S rfl .refl)
set_option tactic.hygienic true in
theorem JR{K:Type}[ef K]{knd:KeyKind W.prog W.w K}(e:h.get? x=some {cls:= .type "dict",data:= .dict #[]}):h.DictOf knd x []:=⟨_,#[],0,e,⟨rfl,rfl,rfl⟩,rfl,(λz' q=>by cases q;rename_i q;cases q),.nil,.nil⟩
theorem wW(R:∀G h x,h.get? x=some {cls:= .type "dict",data:= .dict #[]}->OR F.W G h x o)(w:o.wr=true)(ad:∀a b,o.ad a b↔b=a):vY F U c (.Dict [] [] pos) o c:=λG s S=>
 wpAny_Dict_empty ⟨G,.refl,S.push _,SS.heap _ _,s.heap.objs.size,rfl,R _ _ _ (yf _ rfl),w,ad,S.sr.fresh (Ag _),S.fr.fresh (Ag _),(S.new (Ag _)).fc,S.sr.statics⟩
theorem oM:vY F U c (.Dict [] [] pos) (.p9 true λz'=>none) c:=wW (λG h x e=>⟨[],JR e,λz'=>trivial,(λz' q=>(by nomatch q))⟩) rfl λz' z'=> .rfl
theorem nM:vY F U c (.Dict [] [] pos) (.M9 true []) c:=wW (λG h x e=>⟨[],JR e,.nil⟩) rfl λz' z'=> .rfl
theorem mM:vY F U c (.Dict [] [] pos) (.V9 λz'=>none) c:=wW (λG h x e=>⟨(λz' q=>(by nomatch q)),[],⟨#[],0,e,rfl⟩,(λz' q=>(by nomatch q)),.nil,λz'=>trivial⟩) rfl λz' z'=> .rfl
def wD(F:Fm)(U:Tg->Prop)(c:Cx)(k:dg (gg Expr))(v:dg Expr)(pos:re)(g:dg (AV×AV))(c':Cx):Prop:=Do F U c (evalPairs (pairTrees k v F.env pos)) (λG=>r9 (λp q=>F9 G p.1 q.1/\F9 G p.2 q.2) g) c'
theorem OB:wD F U c [] [] pos [] c:=λG s S=>evalPairs_nil (.here S .nil .refl)
noncomputable def b7{K:Type}[ef K](f:K->gg AV)(l:dg (K×AV)):K->gg AV:=l.foldl (λf p=>f9 f p.1 p.2) f
theorem oV{K:Type}[ef K]{R:AV->zg->Prop}{l:dg (K×AV)}{kvs acc:dg (K×zg)}{f:K->gg AV}(h:∀k,R7 R (f k) (Vf acc k))(r:r9 (λp q=>p.1=q.1/\R p.2 q.2) l kvs)(k:K):R7 R (b7 f l k) (Vf (merged acc kvs) k):=by
 induction r generalizing f acc with
 |nil=>exact h k
 | @cons p q _ _ r _ i=>
  refine i (acc:=ð _ _ _) λk=> ?_;refine rR r.1 ?_;exact y2 h r.2 k
theorem PT{K:Type}[ef K]{knd:KeyKind W.prog W.w K}{g:K->AV}(h:∀k v,F9 G (g k) v->knd.is k v=true){l:dg (K×AV)}{vs:dg (zg×zg)}(r:r9 (λp q=>F9 G p.1 q.1/\F9 G p.2 q.2) (l.map λp=>(g p.1,p.2)) vs):∃kvs,Carries knd vs kvs/\r9 (λp q=>p.1=q.1/\F9 G p.2 q.2) l kvs:=by
 induction l generalizing vs with
 |nil=>refine rL r.nil_inv ?_;exact⟨[],trivial,.nil⟩
 |cons p l i=>
  obtain⟨x,xs,rfl,m,r⟩:=r.cons_inv;exact O8 (i r) λkvs c1 n=>(⟨(p.1,x.2)::kvs,⟨h _ _ m.1,rfl,c1⟩,.cons ⟨rfl,m.2⟩ n⟩)
theorem lM{K:Type}[ef K]{g:dg (gg Expr)}{m:dg Expr}{l:dg (K×AV)}(knd:KeyKind F.W.prog F.W.w K)(A:K->AV)(Y:∀G h x,(∃kvs,h.DictOf knd x kvs/\∀k,R7 (F9 G) (b7 (λz'=>none) l k) (Vf kvs k))->OR F.W G h x o)(D:∀G k v,F9 G (A k) v->knd.is k v=true)(w:o.wr=true)(T:∀a b,o.ad a b↔b=a)
  (E:wD F U c g m pos (l.map λp=>(A p.1,p.2)) c1) (n:g.all (·.isSome)=true) (hl:g.length=m.length) (P:g≠[]) (B:g.length<=15):vY F U c (.Dict g m pos) o c1:=λG s S=>by
 refine wpAny_Dict_walk (knd:=knd) n hl P B ?_;haveI Z:(s.heap.push {cls:= .type "dict",data:= .dict #[]}).get? _=some {cls:= .type "dict",data:= .dict #[]}:=yf _ rfl;haveI N:=S.new (Ag _);refine Jg (E _ {s with heap:=s.heap.push {cls:= .type "dict",data:= .dict #[]}} ((S.push _).hold N.move Z)) (λvs z' z=>z.casesOn λf M O X e=> ?_) λz' z' x=>x;have Q:=ST.H0 N M O;exact O8 (PT (λk v=>D _ k v) X) λkvs c1 V=>(⟨kvs,c1,JR Q.at_,λh' J I=>⟨_,Q.g,Q.S.same Q.n I,(SS.heap _ _).trans (e.trans (SS.heap _ _)),_,rfl,Y _ _ _ ⟨_,J,oV (λz'=>trivial) (V.mono λp z' q r=>⟨r.1,Q.v _ _ r.2⟩)⟩,w,T,Q.n.has,Q.n.fa,Q.n.fc,S.sr.statics⟩⟩)
theorem Zy{g:dg (gg Expr)}{m:dg Expr}{l:dg (kg×AV)}(E:wD F U c g m pos (l.map λp=>(.a9 (.int p.1),p.2)) c1)(A:∀k,(b7 (λz'=>none) l k).isSome=true->j7 k=true)(n:g.all (·.isSome)=true)(hl:g.length=m.length)(w:g≠[])(q:g.length<=15):vY F U c (.Dict g m pos) (.p9 true (b7 (λz'=>none) l)) c1:=
 lM _ (λk=> .a9 _) (λG h x z=>z.imp λz' z=>⟨z.1,z.2,A⟩) (λG k v r=>by refine zE r λt e=> ?_;refine rL e ?_;exact jf k) rfl (λz' z'=> .rfl) E n hl w q
theorem Yy{g:dg (gg Expr)}{m:dg Expr}{l:dg (Str×AV)}(E:wD F U c g m pos (l.map λp=>(.a9 (.str p.1),p.2)) c1)(A:∀k,(b7 (λz'=>none) l k).isSome=true->k∈SK)(n:g.all (·.isSome)=true)(hl:g.length=m.length)(w:g≠[])(q:g.length<=15):vY F U c (.Dict g m pos) (.w8 (b7 (λz'=>none) l)) c1:=
 lM _ (λk=> .a9 _) (λG h x z=>z.imp λz' z=>⟨z.1,z.2,A⟩) (λG k v r=>by refine aL r λz' t e=> ?_;refine rL e ?_;exact jf k) rfl (λz' z'=> .rfl) E n hl w q
theorem Gr.all(g:Gr D0 G G'):Gr U G G':=g.weak λz' z'=>trivial
theorem zG{A m g:Tg->Prop}{k v:Expr}{q:dg (gg Expr)}{es:dg Expr}{d:dg (AV×AV)}(E1:Ev F A c k a c1)(I:Ev F m c1 v b c2)(E3:wD F g c2 q es pos d c3)(D:∀τ,U τ->A τ)(h:∀τ,U τ->m τ)(J:∀τ,U τ->g τ)(K:a.keeps λτ=>m τ/\g τ)(E:b.keeps g):wD F U c (some k::q) (v::es) pos ((a,b)::d) c3:=λG s S=>
 pairTrees_cons_walk (E1.bind S λZ u z' T L N O=>I.bind T λX w Y M H n B=>Jg (E3 _ _ M) (λvs z' z=>z.casesOn λQ l V r P=>⟨Q,((N.weak D).trans (n.weak h)).trans (l.weak J),V,.cons ⟨L.mono ((n.weak λz'=>ù).trans (l.weak λz'=>And.right)) K,H.mono l E⟩ r,(O.trans B).trans P⟩) λz' z' x=>x)
def Sx(F:Fm)(c:Cx)(ns:dg Str)(as:dg AV)(c':Cx):Prop:=∀G s xs,ST F c G s.heap->r9 (F9 G) as xs->Yg (Mk F.W) F.A (assignInOrder (ns.map λn=>bindName F.env n) xs) (RA F D0 c' G s λz' z'=>True) no s
theorem LJ:Sx F c [] [] c:=λG s z' S r=>by exact assignInOrder_nil (.here S trivial .refl)
theorem JM{x:Str}{ns:dg Str}(h:b6 (F.env.kindOf x)=true)(l:F.env.func.isSome=true\/F.env.kindOf x=some .local)(E:Sx F ⟨W9 c.ρ x a,c.σ⟩ ns as c1):Sx F c (x::ns) (a::as) c1:=λG s z' S r=>by
 obtain⟨y,n,rfl,g,r⟩:=r.cons_inv;exact assignInOrder_cons (wpAny_bindName (m6 h l S g λp m q=>jh .refl q (E G _ _ m r)))
theorem XW{vs:dg zg}(S:ST F c G s.heap):IsTup (s.heap.push (v7 vs.toArray 0)) s.heap.objs.size vs.toArray:=⟨_,yf _ rfl,rfl,_,rfl⟩
theorem rP{t:dg Expr}{k D:yg}{g p:re}(E:cS F U c es as c1)(T:AD F c1 t as c2)(hz:as.length<=1000)(hn:∀env,(Fc t env).length=as.length)(hst:∀env,(Fc t env).findIdx? (·.1)=none)
  (hs:Ë [.Tuple t k g] (.Tuple es D p) pos.line F.env=pure false) (hw:xd [.Tuple t k g] (.Tuple es D p) F.env=pure none):X1 F U c (.Assign [.Tuple t k g] (.Tuple es D p) pos) .next c2:=λG s S=>
 Assign_Tuple (Tuple_ ((E _).bind S λB z' H l r w A=>Ka (assign_Tuple_tuple l.fr.st.tU (XW l) ((hn _).trans (r.length.trans List.size_toArray.symm)) (hst _) λh' kk=>Jg (T _ _ _ ((l.push _).keeps (o0 kk)) r) (λz' z' z=>z.casesOn λn m v z' q=>⟨n,w.trans m.all,v,rfl,A.trans ((SS.heap _ H.toks).trans q)⟩) λz' z' x=>x) (O9 (j3 r (bg hz (by decide)))))) hs hw
theorem eQ{g:dg Expr}{k D:yg}{t p:re}{ns:dg Str}(E:cS F U c es as c1)(T:Sx F c1 ns.reverse as.reverse c2)(hz:as.length<=1000)(hn:ns.length=as.length)
  (hs:Ë [.Tuple g k t] (.Tuple es D p) pos.line F.env=pure false) (hw:xd [.Tuple g k t] (.Tuple es D p) F.env=pure (some ns)):X1 F U c (.Assign [.Tuple g k t] (.Tuple es D p) pos) .next c2:=λG s S=>
 Assign_Tuple_swapped (Tuple_ ((E _).bind S λB z' H l r w A=>Ka (by
  exact(hn.trans (r.length.trans List.size_toArray.symm))▸unpackItems_tuple l.fr.st.tU (XW l) λh' kk=>Jg (T _ _ _ ((l.push _).keeps (o0 kk)) r.reverse) (λz' z' z=>z.casesOn λn m v z' q=>⟨n,w.trans m.all,v,rfl,A.trans ((SS.heap _ H.toks).trans q)⟩) λz' z' x=>x) (O9 (j3 r (bg hz (by decide)))))) hs hw
theorem QK{l:dg (kg×AV)}(e:c.σ τ=some (.M9 false l)):bC F c (.g9 τ) (l.map λp=> .a9 (.int p.1)):=λG s v S r=>by
 obtain rfl:v= .ref (G.μ τ):=r;obtain⟨kvs,hm,hr⟩:=S.sr.g9 τ _ e;obtain⟨ob,z⟩:=S.sr.V5 τ _ _ e rfl rfl;obtain⟨ep,hm⟩:=hm.dictAt;refine wpAny_pyIter_dict (S.sr.nT e (.inr (S.sr.pX _ _ _ z)) rfl) hm ?_;obtain⟨od,es,hod,hrest⟩:=id hm;have zo:=ig (hod.symm.trans (S.sr.W7 _ _ _ z));have ln:=hr.length;refine⟨G,.refl,S.push _,SS.heap _ _,s.heap.objs.size,[(G.μ τ,od)],λi h=>h.IsKeyIter s.heap.objs.size (G.μ τ) i kvs.length ep,rfl,⟨S.sr.fresh (Ag _),S.fr.fresh (Ag _),(S.new (Ag _)).fc⟩,⟨?_,?_,?_,?_,?_⟩,⟨_,yf _ rfl,rfl,rfl⟩,λp m=>List.mem_singleton.mp m▸ .inr ⟨τ,zo▸z⟩⟩
 ·exactλi h ⟨o,ho,hc,hd⟩=>⟨o,_,_,ho,hc,hd,by decide⟩
 ·exactλi h h' ⟨o,ho,r⟩ q=>⟨o,q.trans ho,r⟩
 ·exactλi A s Q E st q=>wpAny_pyIter_keyiter st q
 ·intro i x A s1 Q hx hh hp st hQ;have hi:i<l.length:=by have:=(List.getElem?_eq_some_iff.mp hx).1;rwa [ng] at this
  have hk:=sf (ln▸hi);have key:l[i]?.map (·.1)=some kvs[i].1:=by rw [<-Wg,lR hr,Wg,hk];rfl
  obtain⟨p,hp1,hp2⟩:=Option.map_eq_some_iff.mp key;rw [Wg,hp1] at hx;refine wpAny_pyNext_dict_item st ⟨od,es,hp _ (.head _),hrest⟩ hk λkey h' hkey st' hs=> ?_;obtain⟨tk,rfl⟩:=Qa hkey;exact hQ _ h' s1.toks (ig hx▸⟨tk,by rw [hp2];rfl⟩) st' hs
 ·intro A s1 Q hh hp st hQ;rw [ng,ln] at st;exact wpAny_pyNext_dict_end hh st ⟨od,es,hp _ (.head _),hrest⟩ (Xb (Ag _)) λh' hs=>hQ h' s1.toks hs
theorem bJ{C fI n:yg}{σ1:Tg->gg d9}(hm:makesIn W.K C=true)(hi:Ad W.K (.ref C) "__init__"=some (some (.ref fI)))(hf:isFn W.K (.ref fI)=true)(hU:¬U τ)(hσ:∀τ' o,τ'≠τ->σ τ'=some o->o.keeps (·≠τ))(ha:∀a∈as,a.keeps (·≠τ))
  (E:Fn W (λt=>U t\/t=τ) n (.ref fI) (.g9 τ::as) (up σ τ (.inst C [])) (.a9 .none) σ1):Fn W U (n+1) (.ref C) as σ (.g9 τ) σ1:=λA G s xs hh hd hu S r=>by
 have X:=W.bW.keeps λb o e=>S.y9 b o (.inl (S.base b o e));obtain⟨hp,g,d,tk,os⟩:=s;have kk:∀b ob,hp.get? b=some ob->((hp.push Za).push (na C hp.objs.size)).get? b=some ob:=λb o e=>zf _ (zf _ e);have hx:((hp.push Za).push (na C hp.objs.size)).get? (hp.objs.size+1)=some (na C hp.objs.size):=by heap_get
 have hx2:((hp.push Za).push (na C hp.objs.size)).get? hp.objs.size=some Za:=zf _ (yf _ rfl);have qx:∀b∈[hp.objs.size+1,hp.objs.size],hp.objs.size<=b:=λb m=>(List.mem_cons.mp m).elim (λe=>e▸Gf _) λm=>List.mem_singleton.mp m▸Ag _;have g2:Gr (·≠τ) G (G.putL τ (hp.objs.size+1) [hp.objs.size+1,hp.objs.size]):= .put λz=>z rfl;have S2:SR W (up σ τ (.inst C [])) (G.putL τ (hp.objs.size+1) [hp.objs.size+1,hp.objs.size]) ((hp.push Za).push (na C hp.objs.size)):=
  SR.put (o:= .inst C []) S (λb m=>S.fresh (qx b m)) (λb m=>Og S.statics (qx b m)) rfl (λb=>⟨λz=>z.elim (λz=>z▸ .head _) λz=>z▸ .tail _ (.head _),λm=>(List.mem_cons.mp m).imp id λm=>List.mem_singleton.mp m⟩) ⟨ye _,hx,[],0,hx2,.nil,uf⟩ u7
   (λτ' n=>⟨.inl ⟨v8 n,λb q=>b5 kk (S.live (.inl ⟨_,q⟩)),λo=>hσ τ' o n⟩⟩) λb q=>b5 kk (S.live (q.elim (λq=> .inr (.inl q)) λq=> .inr (.inr q)))
 refine make_core (makes_of X hm) (looks_findIn X hi) (λself=>bind_fn X self (beq_iff_eq.mp hf)) (.inl rfl) (Oc (E _ _ ⟨(hp.push Za).push (na C hp.objs.size),g,d,tk,os⟩ _ hh ?_ ?_ S2 (.cons (eg aa N6.symm) (r.mono λa m v r=>r.mono g2 (ha a m)))) λr s' h'=>h'.casesOn λG' v z e R rv q=> ?_)
 ·show A.depth+1+2*n<900;rw [tf];exact Ib hd
 ·show A.units+1+20*n<9000;rw [tf];exact Qg (Eg (by decide:1<=20) _) hu
 ·rw [z,show v= .none from rv];refine⟨rfl,_,_,rfl,(Gr.put hU).trans (e.weak λz'=> .inl),R,?_,(SS.heap _ _).trans q⟩;exact eg aa ((e.m τ (.inr rfl)).trans N6).symm
theorem NV{G:Gh}{x:gg AV}{y:gg zg}{v:zg}(q:R7 (F9 G) x y)(r:F9 G a v):F9 G (x.getD a) (y.getD v):=by
 cases x with
 |none=>cases y with
  |none=>exact r
  |some _=>exact q.elim
 |some _=>cases y with
  |none=>exact q.elim
  |some _=>exact q
theorem FZ{R:AV->zg->Prop}{d:AV}{xs:dg zg}(r:r9 R [a,b,d] xs):∃x y z,xs=[x,y,z]/\R a x/\R b y/\R d z:=by
 refine u8 r.cons_inv λx n e m r=>(u8 (j4 r) λy z q g l=> ?_);subst q;exact⟨x,y,z,e,m,g,l⟩
theorem IG(e:c.σ τ=some o)(hf:Jh o=some f)(hw:o.wr=true)(hi:∀a b,o.ad a b↔b=a):X4 F U c (λxs=>call (.builtin "dict.get") xs []) [.g9 τ,.a9 (.int k),a] ((f k).getD a) c:=λG s xs S r=>by
 obtain⟨x,y,z,rfl,r1,⟨tk,rfl⟩,r3⟩:=FZ r;obtain rfl:x= .ref (G.μ τ):=r1;obtain⟨kvs,hd,hr⟩:=KR S.sr e hf;refine ß Bd hd.mapOf.typeIs Ob (ê _ _ _) (meets_dict_get_default (Bb F.W.prog F.W.w) _ (ii k tk) (S.sr.nT e (.inl hw) ((hi _ _).mpr rfl)) _) ⟨_,hd.mapOf,?_⟩;exact .here S (NV (hr k) r3) (SS.heap s.heap _)
theorem qK{f:dg KI->gg AV}{k:dg KI}(e:c.σ τ=some (.V9 f)):X4 F U c (λxs=>call (.builtin "dict.get") xs []) [.g9 τ,.a9 (.tuple (k.map KI.a9)),a] ((f k).getD a) c:=λG s z' S r=>by
 refine f8 (FZ r) λx y z u q=>eP q λg l p=> ?_;subst u;obtain rfl:x= .ref _:=g;refine e6 (YV S.sr e) λxs hd z' m=>(e6 (dW S.sr l) λa u z' h=> ?_);subst u;refine ß Bd hd.typeIs Ob (ê _ _ _) (meetsH_dict_get_default _ _ a (S.sr.nT e (.inl rfl) rfl) _) ⟨S.room (n:=1+8) (by decide),k,xs,h,hd,?_⟩;refine .here S ?_ (SS.heap _ _);rw [c6];exact NV (m _) p
variable{τh:Tg}
theorem yU{x:Str}{p:re}{elt y iter:Expr}{ifs:dg Expr}{scope:lf}{spos:re}(E:pU F U c (PV F.W elt y iter ifs scope spos) ws c1 σ')(hU:¬U τ)(L:dP ⟨c1.ρ,σ'⟩ (.list true ws) τ)(hk:b6 (F.env.kindOf x)=true)(hf:F.env.func.isSome=true\/F.env.kindOf x=some .local)
  (hsw:Ce (.ListComp elt [⟨y,iter,ifs,0⟩] scope spos) (some (.Name x p)) pos.line F.env=pure true):X1 F U c (.Assign [.Name x p] (.ListComp elt [⟨y,iter,ifs,0⟩] scope spos) pos) .next ⟨W9 c1.ρ x (.g9 τ),up σ' τ (.list true ws)⟩:=λG s S=>by
 rw [exec_Assign_Name_used _ _ _ _ hsw];refine fg (Qd (fg ?_));rw [ę];refine fg (E.go S rfl λacc C s' z=>z.casesOn λG' g S q D v M N st ne r m hn=>r.elim λitems r=>r.1.elim λn d=> ?_);have S2:=S.own (o:= .list true ws) ⟨items,n,d,r.2⟩ rfl (λb=> .rfl) M.has M.fa st L.w L.s L.r;have N2:R5 F (G'.put τ D) s'.heap C:=⟨IS (λz=>ne (List.mem_singleton.mp z).symm) N.has,N.fa,N.fc⟩;have gp:Gr U G' (G'.put τ D):= .put hU;have hn':=hn;obtain⟨o,_,_,ho,_⟩:=hn';have r2:F9 ((G'.put τ D).hold C o) (.g9 τ) acc:=v.trans (eg aa (N6 (L:=[D])).symm);refine Uc (m6 hk hf (S2.hold N2 ho) r2 λs5 S5 q5=> ?_);have Q:=ST.H0 (U:=U) N2 .refl S5;exact⟨m,pZ hn (Q.at_.trans ho.symm),λh'' hs=>ug (ug ⟨_,(g.trans gp).trans Q.g,Q.S.same Q.n hs,rfl,(q.trans q5).trans (SS.heap h'' s5.toks)⟩)⟩
noncomputable def Gh.give(G:Gh)(τ:Tg)(ob:Fd):Gh:={G with P:=λb=>if b=G.μ τ then some ob else G.P b,own:=λb=>if b=G.μ τ then none else G.own b}
theorem MV{b:yg}(q:(G.give τ ob).own b=some τh):b≠G.μ τ/\G.own b=some τh:=(k8 q).resolve_left λq=>(by nomatch q.2)
theorem ST.give{y:Str}(S:ST F ⟨ρ,σ⟩ G h)(e:σ τ=some (.list true (ds.map .a9)))(hσ:∀t,t≠τ->σ' t=σ t)(L:σ' τ=none)(D:ρ.lookup y=some (.g9 τ)):∃G',Gr U G G'/\ST F ⟨W9 ρ y (.a9 (.list ds)),σ'⟩ G' h:=by
 refine Z5 (S.sr.g9 _ _ e) λitems n g r=> ?_;have A:=S.sr.own _ _ _ e rfl rfl;obtain⟨⟨K,k0,M,_⟩,_⟩:=S.sr.at_ _ _ A
 have l:∀{V},Gr V G (G.give _ (listOf items n)):=λ{V}=>
  ⟨λb x q=>(og λz=>s9 (z▸q) K).trans q,λb x q=>⟨q,og λz=>s9 (z▸q) k0⟩,λb x q=>⟨q,og λz=>s9 (z▸q) M⟩,λz' z'=>rfl⟩
 have B:∀{t o},σ' t=some o->t≠τ/\σ t=some o:=λ{t o} q=>by
  by_cases z:t=τ
  ·haveI q:=z▸q;have q:=L▸q;exact(by nomatch q)
  ·exact⟨z,hσ t z▸q⟩
 have E:∀x v,(W9 _ y (.a9 (.list ds))).lookup x=some v->∀w,(∀u,ρ.lookup x=some u->F9 G u w)->F9 (G.give τ (listOf items n)) v w:=λx v q w hw=>by
  by_cases z:x=y
  ·rw [z,nZ] at q;exact ig q▸⟨G.μ _,items,n,(hw (.g9 _) (z▸D)),xg rfl,r.R6.mono (l (V:=D0)).p⟩
  ·rw [F6 z] at q;exact(hw v q).mono (l) v.U9
 have H:∀x v,(W9 ρ y (.a9 (.list ds))).lookup x=some v->∃u,ρ.lookup x=some u:=λx v q=>by
  by_cases z:x=y
  ·exact⟨_,z▸D⟩
  ·exact⟨v,F6 z▸q⟩
 haveI N:∀b x,(G.give _ _).P b=some x->h.get? b=some x:=λb x q=>(k8 q).elim (λq=>q.1▸q.2▸g) λq=>S.sr.y9 b x (.inl q.2);refine⟨_,l,⟨λa x q=>(l (V:=D0)).p a x (S.sr.base a x q),λa x q=>q.elim (N a x) λq=>S.sr.y9 a x (.inr q),S.sr.W7,S.sr.pX,S.sr.kz,λt x q=>(S.sr.g9 t x (B q).2).mono (l) x.U9,λt x a q w f=> ?_,λt x a q w f=>S.sr.V5 t x a (B q).2 w f,λa t q=> ?_⟩,S.fr.st,?_,λx v q k=> ?_,S.fr.live,λa m q=>S.fr.zY a m ?_,λx d q=>⟨?_,(S.fr.k5 x d q).2⟩⟩
 ·have:=S.sr.own t x a (B q).2 w f;exact(og λ(z:a=G.μ _)=>(B q).1 (ig (this.symm.trans (z▸A)))).trans this
 ·obtain⟨I,q⟩:=MV q;refine F0 (S.sr.at_ a t q) λz x J w f=> ?_;haveI O:t≠τ:=λy=>I (by
   haveI C:=y▸J;haveI f:=(ig (e.symm.trans C)).symm▸f;haveI f:=y▸f;exact f)
  exact⟨⟨(og I).trans z.1,z.2⟩,x,(hσ t O).trans J,w,f⟩
 ·exact S.fr.ns.imp λm q=>⟨q.1,λx v e1 C=>(H x v e1).elim λu j=>(q.2 x u j C).imp λz w=>⟨w.1,E x v e1 z λQ i=>ig (j.symm.trans i)▸w.2⟩⟩
 ·exact(H x v q).elim λu j=>(S.fr.cell x u j k).imp λd w=>w.imp λz w=>⟨w.1,w.2.1,E x v q z λQ i=>ig (j.symm.trans i)▸w.2.2⟩
 ·exact q.elim (λq=> .inl (q.imp λt q=>(MV q).2)) λq=>q.elim (λq=>q.elim λx q=>q.elim (λq=>(k8 q).elim (λq=> .inl ⟨τ,q.1▸A⟩) λq=> .inr (.inl ⟨x,.inl q.2⟩)) λq=> .inr (.inl ⟨x,.inr q⟩)) λq=> .inr (.inr q)
 ·exact(og λ(z)=>s9 (z▸A) (S.fr.k5 x d q).1).trans (S.fr.k5 x d q).1
theorem Do.f5{t:Ra α}(H:∀G h,ST F c G h->∃G',Gr U G G'/\ST F c1 G' h)(E:Do F U c1 t R c2):Do F U c t R c2:=λG s S=>(H G _ S).elim λG' q=>jh q.1 .refl (E _ s q.2)
theorem Fy{l r:Expr}(E1:Ev F U c l a c1)(E2:Ev F U' c1 r b c2)(hU:∀τ,U τ->U' τ)(ha:a.keeps U')(h1:Ls c2.σ a vs)(h2:Ls c2.σ b ws)(hz:(vs++ws).length<=1000000):uL F U c (.BinOp l .Add r pos) (vs++ws) c2:=λG s S=>
 wpAny_BinOp (E1.bind S λG1 v s1 S1 r1 g1 q1=>E2.bind S1 λG2 w s2 S2 r2 g2 q2=>by
  obtain⟨z,items,n,rfl,g,q⟩:=a6 S2.sr h1 (r1.mono g2 ha);obtain⟨z2,items2,n2,rfl,g',q'⟩:=a6 S2.sr h2 r2;have l1:=q.length.trans Zg;have l2:=q'.length.trans Zg;have hz:=l1▸l2▸jg▸hz;exact P.add_list g g' (.BT (g1.trans (g2.weak hU)) (q1.trans q2) (.push S2 (by rw [ec];exact q.append q') (λz' z' e=>zf _ e) (Ag _) (yf _ rfl))) (by rw [û];lia))
theorem OW{o' i:Expr}{p:re}{f:Str->gg AV}{k:Str}(E:vY F U c e o c1)(Eo:TJ F c1 o' (.g9 τh))(Ei:TJ F c1 i (.a9 (.str k)))(hU:¬U τ)(L:UJ c1 o τ τh)(eh:c1.σ τh=some (.w8 f))(hr:k∈SK)(hk:∀j v,j≠k->f j=some v->v.keeps (·≠τ))(hs:∀env,Ce e (some (.Subscript o' i p)) pos.line env=pure false):
  X1 F U c (.Assign [.Subscript o' i p] e pos) .next ⟨c1.ρ,up (up c1.σ τ o) τh (.w8 (f9 f k (.g9 τ)))⟩:=λG s S=>
 ja (Jg (E G s S) (λv s1 z=>z.casesOn λG1 g1 S1 q1 x v gx w0 ad hx hfa hfc st=>Eo G1 s1 S1 _ λov tk r1=>Ei G1 {s1 with toks:=tk} S1 _ λiv tk2 r2=>by
  obtain rfl:ov= .ref (G1.μ τh):=r1;obtain⟨hok,tk3,rfl⟩:=r2;obtain⟨kvs,hd,hq,hf⟩:=S1.sr.g9 τh _ eh;refine rc (by show(k==k)=true;exact jf k) hd (λh' hd' hs'=> ?_) (O9 (bg (O7 (XP hf) (x6 hd) hq) (by decide)));refine⟨G1.put τ x,g1.trans (.put hU),S1.TE gx w0 ad hx hfa hfc st L eh rfl rfl (λz'=>Ef) (λb n=>hs'.2 b λz=>n (z▸S1.sr.own τh _ _ eh rfl rfl)) ⟨_,hd',λj=> ?_,a5 hf hr⟩,rfl,q1.trans (SS.heap _ _)⟩;rw [f6];unfold f9;by_cases z:j=k
  ·rw [xg z,xg z,v];exact eg aa N6.symm
  ·rw [og z,og z];exact(hq j).mono λw m z' q=>q.mono (.put λz=>z rfl) (hk j w z m)) λz' z' z=>z) (hs _)
end
section
variable{c c1:Cx}{F:Fm}{W:Wd}{σ':Tg->gg d9}{G G':Gh}{h h':Be}{U:Tg->Prop}{s s':Gg}{pos:re}{ps:dg (kg×vg)}{kx vx x iter:Expr}{ifs:dg Expr}{sc:lf}
noncomputable def KD(p:kg×vg):AV:= .a9 (.tuple [.int p.1,p.2])
noncomputable def pJ(ps:dg (kg×vg)):dg (kg×AV):=ps.foldl (λl p=>X6 l p.1 (.a9 p.2)) []
theorem UZ{l:dg (kg×AV)}{k:kg}{a:AV}(h:∀y∈l,y.2.keeps U)(b:a.keeps U):∀y∈X6 l k a,y.2.keeps U:=λy m=>by
 unfold X6 at m;split at m
 ·refine O8 (List.mem_map.mp m) λz m2 q=> ?_;subst q;split
  ·exact b
  ·exact h z m2
 ·exact(List.mem_append.mp m).elim (h y) λm=>List.mem_singleton.mp m▸b
theorem FQ:∀y∈pJ a,y.2.keeps U:=by
 haveI:∀(a:dg (kg×vg)) (l),(∀y∈l,y.2.keeps U)->∀y∈a.foldl (λl p=>X6 l p.1 (.a9 p.2)) l,y.2.keeps U:=λa=>by
  induction a with
  |nil=>exactλz' h=>h
  |cons p _ i=>exactλl h=>i _ (UZ h trivial)
 exact this _ [] λz' m=>(by nomatch m)
def xM(W:Wd)(D:yg)(G:Gh)(h:Be)(us:dg AV):Prop:=∃(p:dg (kg×vg)) (kvs:dg (kg×zg)),us=p.map KD/\h.DictOf (Bb W.prog W.w) D kvs/\kvs.length<=us.length/\r9 (λx y=>x.1=y.1/\F9 G x.2 y.2) (pJ p) kvs
theorem sJ{D:yg}{us:dg AV}(r:xM W D G h us)(g:Gr U G G')(e:h'.get? D=h.get? D):xM W D G' h' us:=r.imp λp r=>r.imp λkvs r=>⟨r.1,i5 r.2.1 e,r.2.2.1,r.2.2.2.mono λx m y r=>⟨r.1,r.2.Z7 g.gm (FQ x m)⟩⟩
noncomputable def hE(W:Wd)(j d x iter:Expr)(ifs:dg Expr)(sc:lf)(pos:re):Fo W where
 ex:= .DictComp j d [⟨x,iter,ifs,0⟩] sc pos
 sc:=sc
 x:=x
 iter:=iter
 ifs:=ifs
 nm:="dict"
 d0:= .dict #[]
 γ:=zg×zg
 cmp A env Q s:=Yg (Mk W) A (Nc j env) (λk s=>Yg (Mk W) A (Nc d env) (λv s=>Q (k,v) s) no s) no s
 R b G q:=∃p tk,b=KD p/\q.1= .int p.1 tk/\F9 G (.a9 p.2) q.2
 l6 D env:=do
  let o<-Nc j env;let t<-Xa [o] (Nc d env)
  Wa {j.pos with endLine:=d.pos.endLine,endCol:=d.pos.endCol}
  Xa [o,t] (dictSet D o t)
 HD D q:=dictSet D q.1 q.2
 cont:=xM W
 turn it D env:=⟨_,nQ⟩
 start h0 h1:=codeAny_compStart_dict h0 h1
 ct A env fa n U D:={
  mo:=λP Q s h k=>Jg h (λz' z' h=>Jg h (λz' z' h=>k _ _ h) λz' z' x=>x) λz' z' x=>x
  ex:=λG h us r=>r.elim λf r=>r.elim λkvs r=>T4 r.2.1
  mv:=λG G' h h' us r g w e=>sJ r g e
  rm:=λb G G' x k r=>r.imp λp r=>r.imp λtk r=>⟨r.1,r.2.1,k _ _ r.2.2⟩
  st:=λG s us b x Q r q hz k=>r.elim λf r=>r.elim λkvs r=>q.elim λp q=>q.elim λtk q=>by
   rw [q.2.1];refine wpAny_dictSet_pairs (hsz:=O9 (bg (bg r.2.2.1 hz) (by decide))) (ii p.1 tk) r.2.1 λy u l=>k y _ ⟨f++[p],_,?_,u,?_,?_⟩ l
   ·rw [r.1,q.1,Ng];rfl
   ·rw [jg];exact bg (stored_length_le kvs p.1 x.2) (Hg r.2.2.1)
   ·have:pJ (f++[p])=X6 (pJ f) p.1 (.a9 p.2):=by unfold pJ;rw [List.foldl_append];rfl
    rw [this];exact aR r.2.2.2 q.2.2}
 step A env D Q s h:=fg (Jg h (λz' z' h=>fg (Nf (Jg h (λz' z' h=>fg (Qd (Nf h))) λz' z' x=>x))) λz' z' x=>x)
 new G h D e:=⟨[],[],rfl,JR e,Ag _,.nil⟩
 sz:=by size_fits
 fr:=rfl
 cl:=rfl
theorem gE:∀D G G' h us,xM W D G h us->(∀a v,F9 G a v->F9 G' a v)->xM W D G' h us:=
 λD G z' h z' r k=>r.imp λp r=>r.imp λkvs r=>⟨r.1,r.2.1,r.2.2.1,r.2.2.2.mono λx z' y r=>⟨r.1,k _ _ r.2⟩⟩
theorem kK{p q:kg×vg}(e:KD p=KD q):p=q:=by cases q;cases e;rfl
theorem JE(E:pU F U c (hE F.W kx vx x iter ifs sc pos) (ps.map KD) c1 σ'):vY F U c (.DictComp kx vx [⟨x,iter,ifs,0⟩] sc pos) (.M9 true (pJ ps)) ⟨c1.ρ,σ'⟩:=λG s S=>by
 exact E.go S rfl λacc C z' z=>z.casesOn λG' g S q D v M N a n r m hn=>r.elim λp r=>r.elim λkvs r=>
  ⟨m,hn,λh hs=>⟨G',g,S.same N hs,q.trans (SS.heap _ _),D,v,(List.map_inj_right λz' z'=>kK).mp r.1▸⟨kvs,i5 r.2.1 (hs.2 D n),r.2.2.2⟩,rfl,λz' z'=> .rfl,M.has,M.fa,M.fc,a⟩⟩
theorem DE{τ:Tg}{o o' y:d9}{e:Expr}(z:Fz o o')(e':c.σ τ=some o)(E:vY F (λt=>U t\/t=τ) ⟨c.ρ,up c.σ τ o'⟩ e y c1)(e1:c1.σ τ=some o'):vY F U c e y ⟨c1.ρ,up c1.σ τ o⟩:=λG s S=>
 (S.sr.g9 τ o e').live ((z.ad _ _).mpr rfl)|>.elim λob g=>
 have X:=S.freeze e' z g
 Jg (E _ s X.S) (λv s' y=>y.casesOn λG' g' S' q x v gx w ad f fa fc st=>have w':=S'.oQ X z g' (.inr rfl) e1
  ⟨_,w'.g.weak λz'=> .inl,w'.S,q,x,v,gx.f5 rfl rfl,w,ad,λq=>f (q.elim (λq=>q.elim λt q=>(k8 q).elim (λq=> .inr (.inr ((S'.sr.V5 τ o' _ e1 z.w' ((z.bo _ _).mpr rfl)).imp' (Prod.mk τ) λz' y=>q.1▸y))) λq=> .inl ⟨t,q.2⟩) λq=>q.elim (λq=> .inr (.inl q)) λq=>q.elim λt q=>(k8 q).elim (λq=>(by nomatch q.2)) λq=> .inr (.inr ⟨t,q.2⟩)),fa,fc,st⟩) λz' z' x=>x
end
section
set_option genCtorIdx true
inductive O2 where
 |add|sub|mul|mod|fdiv
inductive C2 where
 |eq|ne|lt|le|gt|ge|isin|notin|isv|isnot
inductive BF where
 |len|sorted|list|tuple|range|min|max|int
inductive LM where
 |append|extend|pop|get
inductive Md where
 |all|st|s2|sU|top
inductive K4 where
 |W1|ifs
set_option genCtorIdx false
inductive K0 where
 |var (i:yg)|con (d:vg)|JI (k:yg)|nil|dI|dL|dT|fZ|bad
inductive K1 where
 |I6 (i:yg)|neg|one|tup|lst|blt (f:BF)|VF|fP|LH|fn (id:yg)|own (τ:Tg)|dS|dN|fz|val|not|ret|rel (i:yg)|new (τ:Tg) (id:yg)
inductive K2 where
 |sub|bin (o:O2)|cmp (o:C2)|DW|cons|zip|met (id:yg)|lm (f:LM)|qU|fL|and|or|ex|set (i:yg)|n6 (a:dg yg)|dV (a:dg yg)|fV (a:dg yg)|EY (i:yg)|DY (i:yg) (τ:Tg)|V4 (y:yg) (i:yg)|eV (y:yg) (i:yg) (τ:Tg)|X3 (y:yg) (i:yg) (j:yg) (κ:LK)|eZ (y:yg) (x:Str) (τ:Tg)
inductive K3 where
 |ite|pr|comp (a:dg yg) (o:wg) (f:dg yg)|lY (a:dg yg) (o:wg) (f:dg yg)|del|cY (z:wg) (a:dg yg) (o:wg) (k:dg yg)|OV (i:yg) (k:dg yg)|CU (k:dg yg)
inductive M where
 |z (k:K0)|a (k:K1) (m:M)|b (k:K2) (m n:M)|c (k:K3) (m n v:M)|d (k:K4) (m n v w:M)
noncomputable abbrev M.var(i:yg):M:= .z (.var i)
noncomputable abbrev M.con(d:vg):M:= .z (.con d)
noncomputable abbrev M.JI(k:yg):M:= .z (.JI k)
noncomputable abbrev M.I6(m:M)(i:yg):M:= .a (.I6 i) m
noncomputable abbrev M.sub(m:M)(n:M):M:= .b .sub m n
noncomputable abbrev M.bin(o:O2)(m:M)(n:M):M:= .b (.bin o) m n
noncomputable abbrev M.cmp(o:C2)(m:M)(n:M):M:= .b (.cmp o) m n
noncomputable abbrev M.neg(m:M):M:= .a .neg m
noncomputable abbrev M.DW(m:M)(n:M):M:= .b .DW m n
noncomputable abbrev M.one(m:M):M:= .a .one m
noncomputable abbrev M.ite(t:M)(m:M)(n:M):M:= .c .ite t m n
noncomputable abbrev M.tup(m:M):M:= .a .tup m
noncomputable abbrev M.lst(m:M):M:= .a .lst m
noncomputable abbrev M.nil:M:= .z .nil
noncomputable abbrev M.cons(m:M)(n:M):M:= .b .cons m n
noncomputable abbrev M.pr(k:M)(v:M)(m:M):M:= .c .pr k v m
noncomputable abbrev M.blt(f:BF)(m:M):M:= .a (.blt f) m
noncomputable abbrev M.VF(m:M):M:= .a .VF m
noncomputable abbrev M.fP(m:M):M:= .a .fP m
noncomputable abbrev M.LH(m:M):M:= .a .LH m
noncomputable abbrev M.zip(m:M)(n:M):M:= .b .zip m n
noncomputable abbrev M.fn(id:yg)(m:M):M:= .a (.fn id) m
noncomputable abbrev M.met(o:M)(id:yg)(m:M):M:= .b (.met id) o m
noncomputable abbrev M.lm(o:M)(f:LM)(m:M):M:= .b (.lm f) o m
noncomputable abbrev M.own(τ:Tg)(m:M):M:= .a (.own τ) m
noncomputable abbrev M.qU(m:M)(n:M):M:= .b .qU m n
noncomputable abbrev M.fL(m:M)(n:M):M:= .b .fL m n
noncomputable abbrev M.comp(e:M)(b:dg yg)(o:wg)(a:M)(i:M)(f:dg yg):M:= .c (.comp b o f) e a i
noncomputable abbrev M.lY(k:M)(v:M)(a:dg yg)(o:wg)(i:M)(f:dg yg):M:= .c (.lY a o f) k v i
noncomputable abbrev M.dI:M:= .z .dI
noncomputable abbrev M.dL:M:= .z .dL
noncomputable abbrev M.dT:M:= .z .dT
noncomputable abbrev M.dS(m:M):M:= .a .dS m
noncomputable abbrev M.dN(m:M):M:= .a .dN m
noncomputable abbrev M.fz(m:M):M:= .a .fz m
noncomputable abbrev M.val(m:M):M:= .a .val m
noncomputable abbrev M.not(m:M):M:= .a .not m
noncomputable abbrev M.and(m:M)(n:M):M:= .b .and m n
noncomputable abbrev M.or(m:M)(n:M):M:= .b .or m n
noncomputable abbrev M.ex(m:M)(k:M):M:= .b .ex m k
noncomputable abbrev M.set(i:yg)(m:M)(k:M):M:= .b (.set i) m k
noncomputable abbrev M.n6(i:dg yg)(m:M)(k:M):M:= .b (.n6 i) m k
noncomputable abbrev M.dV(i:dg yg)(m:M)(k:M):M:= .b (.dV i) m k
noncomputable abbrev M.fV(i:dg yg)(m:M)(k:M):M:= .b (.fV i) m k
noncomputable abbrev M.EY(i:yg)(m:M)(k:M):M:= .b (.EY i) m k
noncomputable abbrev M.DY(i:yg)(τ:Tg)(m:M)(k:M):M:= .b (.DY i τ) m k
noncomputable abbrev M.V4(y:yg)(i:yg)(m:M)(k:M):M:= .b (.V4 y i) m k
noncomputable abbrev M.eV(y:yg)(i:yg)(τ:Tg)(m:M)(k:M):M:= .b (.eV y i τ) m k
noncomputable abbrev M.W1(m:M)(n:M)(v:M)(k:M):M:= .d .W1 m n v k
noncomputable abbrev M.X3(y:yg)(i:yg)(j:yg)(κ:LK)(m:M)(k:M):M:= .b (.X3 y i j κ) m k
noncomputable abbrev M.del(m:M)(n:M)(k:M):M:= .c .del m n k
noncomputable abbrev M.ifs(t:M)(m:M)(n:M)(k:M):M:= .d .ifs t m n k
noncomputable abbrev M.cY(z:wg)(b:dg yg)(o:wg)(i:M)(body:M)(a:dg yg)(k:M):M:= .c (.cY z b o a) i body k
noncomputable abbrev M.OV(i:yg)(b:M)(body:M)(a:dg yg)(k:M):M:= .c (.OV i a) b body k
noncomputable abbrev M.CU(t:M)(body:M)(a:dg yg)(k:M):M:= .c (.CU a) t body k
noncomputable abbrev M.ret(m:M):M:= .a .ret m
noncomputable abbrev M.fZ:M:= .z .fZ
noncomputable abbrev M.bad:M:= .z .bad
noncomputable abbrev M.rel(i:yg)(k:M):M:= .a (.rel i) k
noncomputable abbrev M.eZ(y:yg)(x:Str)(τ:Tg)(m:M)(k:M):M:= .b (.eZ y x τ) m k
noncomputable abbrev M.new(τ:Tg)(id:yg)(m:M):M:= .a (.new τ id) m
structure IC where
 ρ:dg (yg×AV)
 t:dg (yg×d9)
 b:Tg->gg d9
noncomputable def Tg.ti(τ:Tg):gg yg:=match τ.T9 with
 |true=>some τ.code.2.toNat
 |false=>none
noncomputable def L4(t:dg (yg×d9))(b:Tg->gg d9)(τ:Tg):gg d9:=match τ.ti with
 |some k=>t.lookup k
 |none=>b τ
noncomputable def IC.σ(c:IC):Tg->gg d9:=L4 c.t c.b
noncomputable def vn(vs:dg Str)(i:yg):Str:=(vs[i]?).getD ⟨#[1114112+i]⟩
noncomputable def yY(vs:dg Str)(a:dg (yg×AV)):dg (Str×AV):=a.map λp=>(vn vs p.1,p.2)
noncomputable def IC.cx(vs:dg Str)(c:IC):Cx:=⟨yY vs c.ρ,c.σ⟩
noncomputable def Tg.T1:Tg->wg
 | .queue| .marks| .trail| .ls _ _| .Z8 _| .byr _| .levels| .lvl _| .news| .ltold| .fresh=>false
 |_=>true
noncomputable def Tg.uN(τ:Tg):wg:=í τ.code.1 18
noncomputable def d5(τ:Tg):wg:=í τ.code.1 11
noncomputable def aY:Tg->gg Tg
 | .ls k _=>some (.C7 k)
 | .bk _=>some .bank
 | .levels| .lwat| .ltold| .fresh=>some .state
 | .lvl _=>some .levels
 | .house| .Z8 _| .byr _| .feed| .state=>none
 |_=>some .house
noncomputable def Md.u:Md->Tg->wg
 | .all,τ=> !τ.T9
 | .st,τ=>τ.T1||τ.uN
 | .s2,τ=>τ.T1
 | .sU,τ=>dc τ.code.1 1||Nat.beq τ.code.1 19
 | .top,_=>false
noncomputable def Md.le:Md->Md->wg
 | .top,_=>true
 |_,.top=>false
 | .sU,_=>true
 |_,.sU=>false
 | .s2,_=>true
 | .st,.s2=>false
 | .st,_=>true
 | .all,.all=>true
 | .all,_=>false
abbrev Mo:=Md×dg Tg
def um(u:Mo)(τ:Tg):Prop:=u.1.u τ=true\/τ∈u.2
noncomputable def hold(a:AV)(u:Mo):Mo:=match a with
 | .g9 τ=>(u.1,τ::u.2)
 |_=>u
noncomputable def G8(a:dg (yg×AV))(u:Mo):Mo:=a.foldr (λp u=>hold p.2 u) u
noncomputable def QB(p:Tg->wg):AV->wg
 | .g9 τ=>p τ
 |_=>true
noncomputable def gN(m:Md):AV->wg:=QB λτ=>m.u τ||τ.T9
noncomputable def LF:AV->wg:=QB λτ=> !τ.T9
noncomputable def sF(u:Mo)(m:Md):wg:=u.1.le m&&u.2.all λτ=>m.u τ||τ.T9
noncomputable def nu(u:Mo)(τ:Tg):wg:= !u.1.u τ&& !u.2.contains τ
noncomputable def nt(τ:Tg):AV->wg:=QB λa=> !decide (a=τ)
noncomputable def hb(τ t:Tg):wg:= !τ.T9&&(!t.T9&&(!decide (t=τ)&&decide (aY t=some τ)))
noncomputable def hk(τ:Tg):AV->wg:=QB (hb τ)
def C6(τ:Tg)(o:d9):Prop:=o.keeps λt=>hb τ t=true
noncomputable def AV.dat?:AV->gg vg
 | .a9 d=>some d
 |_=>none
noncomputable def AV.obj?:AV->gg Tg
 | .g9 τ=>some τ
 |_=>none
noncomputable def AV.rng?:AV->gg kg
 | .range n=>some n
 |_=>none
noncomputable def nV:vg->gg kg
 | .int i=>some i
 |_=>none
noncomputable def iK:vg->gg Str
 | .str i=>some i
 |_=>none
noncomputable def mO:vg->gg wg
 | .bool i=>some i
 |_=>none
noncomputable def hK:vg->gg (dg vg)
 | .tuple i=>some i
 |_=>none
noncomputable def yG:vg->gg (dg vg)
 | .list i=>some i
 |_=>none
noncomputable abbrev AV.int?(a:AV):gg kg:=a.dat?.bind nV
noncomputable abbrev AV.str?(a:AV):gg Str:=a.dat?.bind iK
noncomputable abbrev AV.bool?(a:AV):gg wg:=a.dat?.bind mO
noncomputable abbrev AV.tup?(a:AV):gg (dg vg):=a.dat?.bind hK
noncomputable abbrev AV.lst?(a:AV):gg (dg vg):=a.dat?.bind yG
noncomputable def d9.ls?:d9->gg (wg×dg AV)
 | .list w vs=>some (w,vs)
 |_=>none
noncomputable def d9.dI?:d9->gg (wg×(kg->gg AV))
 | .p9 w vs=>some (w,vs)
 |_=>none
noncomputable def d9.dL?:d9->gg (wg×dg (kg×AV))
 | .M9 w vs=>some (w,vs)
 |_=>none
noncomputable def d9.dT?:d9->gg (dg KI->gg AV)
 | .V9 f=>some f
 |_=>none
noncomputable def d9.dS?:d9->gg (Str->gg AV)
 | .w8 f=>some f
 |_=>none
noncomputable def d9.in?:d9->gg (yg×dg (yg×AV))
 | .inst w vs=>some (w,vs)
 |_=>none
def br(b:wg)(P Q:Prop):Prop:=match b with
 |true=>P
 |false=>Q
def ck(b:wg)(P:Prop):Prop:=match b with
 |true=>P
 |false=>False
def rd{b:Type}(x:gg b)(P:b->Prop):Prop:=match x with
 |some a=>P a
 |none=>False
def ph{b:Type}(x:gg b)(P:b->Prop)(Q:Prop):Prop:=match x with
 |some a=>P a
 |none=>Q
abbrev kP(a:dg (yg×AV))(t:dg (yg×d9))(K:IC->Prop)(b:Tg->gg d9):Prop:=K ⟨a,t,b⟩
abbrev Bp{a:Type}(x:a)(Q:a->Prop)(y:a):Prop:=x=y/\Q y
def put(c:IC)(τ:Tg)(o:d9)(K:IC->Prop):Prop:=match τ.ti with
 |some k=>K ⟨c.ρ,W9 c.t k o,c.b⟩
 |none=>Exists (Bp (up c.b τ o) (kP c.ρ c.t K))
def two(a b:AV)(P:kg->kg->Prop):Prop:=rd a.int? λi=>rd b.int? λj=>P i j
noncomputable def aU:dg AV->(dg vg->Prop)->Prop
 |[],P=>P []
 |a::as,P=>rd a.dat? λd=>aU as λds=>P (d::ds)
def uI(c:IC)(a:AV)(P:dg AV->Prop):Prop:=ph a.obj? (λτ=>rd (c.σ τ) λo=>rd o.ls? λp=>P p.2) (rd a.lst? λds=>P (ds.map .a9))
def kL(c:IC)(a:AV)(P:dg vg->Prop):Prop:=ph a.obj? (λτ=>rd (c.σ τ) λo=>rd o.ls? λp=>∃ds,p.2=ds.map .a9/\P ds) (rd a.lst? P)
def cu(c:IC)(a:AV)(P:dg kg->Prop):Prop:=kL c a λds=>∃ns,ds=zs ns/\P ns
noncomputable def HB(n:kg):dg AV:=(af n.toNat).map λ(i:yg)=> .a9 (.int i)
def SD(c:IC)(u:Mo)(a:AV)(P:dg AV->Prop):Prop:=ph a.obj?
 (λτ=>rd (c.σ τ) λo=>ph o.ls? (λp=>ck (!p.1) ((∀v∈p.2,v.keeps (um u))/\P p.2)) (rd o.dL? λp=>ck (!p.1) (P (p.2.map λp=> .a9 (.int p.1)))))
 (ph a.rng? (λn=>(0<=n/\n<=1000000)/\P (HB n)) (ph a.lst? (λds=>P (ds.map .a9)) (rd a.tup? λds=>P (ds.map .a9))))
def SJ(ns:dg kg)(o:Fd):Prop:=o.cls= .type "list"/\∃items n,o.data= .seq items n/\IntsAre items.toList ns
noncomputable def AV.raw?:AV->gg (Fd->Prop)
 | .raw p=>some p
 |_=>none
def Zq(c:IC)(a:AV)(P:dg vg->Prop):Prop:=ph a.raw? (λp=>∃ns,p=SJ ns/\P (zs ns)) (kL c a P)
def fld(c:IC)(a:AV)(i:yg)(P:AV->Prop):Prop:=rd a.obj? λτ=>rd (c.σ τ) λo=>rd o.in? λp=>rd (p.2.lookup i) P
abbrev yp{a:Type}(l:dg a)(P:a->Prop)(v:a):Prop:=l.length<=1000000/\P v
abbrev Ep(P:AV->Prop)(d:vg):Prop:=P (.a9 d)
def Mh(c:IC)(a b:AV)(P:AV->Prop):Prop:=ph b.int?
 (λk=>ph a.obj? (λτ=>rd (c.σ τ) λo=>ph o.ls? (λp=>rd (r7 k p.2) (yp p.2 P)) (ph o.dI? (λp=>rd (p.2 k) P) (rd o.dL? λp=>rd (lk p.2 k) P)))
  (ph a.lst? (λds=>rd (r7 k ds) (yp ds (Ep P))) (rd a.tup? λds=>ck (decide (0<=k)&&decide (k<=1000)) (rd ds[k.toNat]? (Ep P)))))
 (rd b.str? λs=>rd a.obj? λτ=>rd (c.σ τ) λo=>rd o.dS? λf=>rd (f s) P)
def tx(c:IC)(a b:AV)(P:vg->Prop):Prop:=ph a.int? (λi=>rd b.int? λj=>P (.int (i+j)))
 (ph a.tup? (λds=>rd b.tup? λes=>(ds≠[]/\es≠[])/\(ds++es).length<=1000/\P (.tuple (ds++es))) (kL c a λds=>kL c b λes=>(ds++es).length<=1000000/\P (.list (ds++es))))
def Xp(o:O2)(c:IC)(a b:AV)(P:vg->Prop):Prop:=match o with
 | .add=>tx c a b P
 | .sub=>two a b λi j=>P (.int (i-j))
 | .mul=>two a b λi j=>IntMulOk i j/\P (.int (i*j))
 | .mod=>two a b λi j=>0<j/\P (.int (i%j))
 | .fdiv=>two a b λi j=>(0<j/\Ê i j=false)/\P (.int (i/j))
noncomputable def gZ(d e:vg):wg:=((nV d).bind λi=>(nV e).map λj=>decide (i=j)).getD (je d e)
noncomputable def CW(ds:dg vg)(e:vg):wg:=ds.any λy=>je y e
def yr(c:IC)(a b:AV)(P:wg->Prop):Prop:=ph b.obj?
 (λτ=>rd (c.σ τ) λo=>ph o.ls? (λp=>rd a.dat? λe=>∃ds,p.2=ds.map .a9/\ck (lay (.list ds)&&lay e) (P (CW ds e)))
  (ph o.dI? (λp=>rd a.int? λk=>P (p.2 k).isSome) (rd o.dL? λp=>rd a.int? λk=>P (lk p.2 k).isSome)))
 (rd a.dat? λe=>ph b.lst? (λds=>ck (lay (.list ds)&&lay e) (P (CW ds e))) (rd b.tup? λds=>ck (lay (.tuple ds)&&lay e) (P (CW ds e))))
def vr(a b:AV)(P:wg->Prop):Prop:=rd b.dat? λe=>ck (isNone e) (rd a.dat? λd=>P (isNone d))
def dv(c:IC)(a:AV)(P:vg->Prop):Prop:=ph a.dat? P (kL c a λds=>P (.list ds))
def WD(c:IC)(a b:AV)(P:wg->Prop):Prop:=dv c a λd=>dv c b λe=>ck (lay d&&lay e) (P (gZ d e))
def Pr(o:C2)(c:IC)(a b:AV)(P:wg->Prop):Prop:=match o with
 | .eq=>WD c a b P
 | .ne=>WD c a b λt=>P (!t)
 | .lt=>two a b λi j=>P (decide (i<j))
 | .le=>two a b λi j=>P (decide (i<=j))
 | .gt=>two a b λi j=>P (decide (j<i))
 | .ge=>two a b λi j=>P (decide (j<=i))
 | .isin=>yr c a b P
 | .notin=>yr c a b λt=>P (!t)
 | .isv=>vr a b P
 | .isnot=>vr a b λt=>P (!t)
def a1(vs:dg AV)(P:AV->Prop):Prop:=match vs with
 |[a]=>P a
 |_=>False
def a2(vs:dg AV)(P:AV->AV->Prop):Prop:=match vs with
 |[a,b]=>P a b
 |_=>False
def io(vs:dg AV)(P:AV->Prop)(Q:AV->AV->Prop):Prop:=match vs with
 |[a]=>P a
 |[a,b]=>Q a b
 |_=>False
def px(c:IC)(a:AV)(P:AV->Prop):Prop:=ph a.lst? (λds=>ds.length<=1000000/\P (.a9 (.int ds.length))) (uI c a λvs=>vs.length<=1000000/\P (.a9 (.int vs.length)))
def XI(c:IC)(a:AV)(P:AV->Prop):Prop:=ph a.rng? (λn=>(0<=n/\n<=1000000)/\P (.a9 (.list (zs ((af n.toNat).map λ(i:yg)=>(i:kg))))))
 (ph a.obj? (λτ=>rd (c.σ τ) λo=>ph o.dL? (λp=>ck p.1 (p.2.length<=1000000/\P (.a9 (.list (zs (p.2.map (·.1))))))) (rd o.ls? λp=>∃ds,p.2=ds.map .a9/\ds.length<=1000000/\P (.a9 (.list ds)))) (rd a.lst? λds=>ds.length<=1000000/\P (.a9 (.list ds))))
def ix(c:IC)(a:AV)(P:AV->Prop):Prop:=ph a.tup? (λds=>P (.a9 (.tuple ds))) (kL c a λds=>ds.length<=1000000/\P (.a9 (.tuple ds)))
def lx(f:BF)(c:IC)(vs:dg AV)(P:AV->Prop):Prop:=match f with
 | .len=>a1 vs λa=>px c a P
 | .sorted=>a1 vs λa=>cu c a λns=>ns.length<64/\P (.a9 (.list (zs (Ì ns))))
 | .list=>a1 vs λa=>XI c a P
 | .tuple=>a1 vs λa=>ix c a P
 | .range=>a1 vs λa=>rd a.int? λi=>P (.range i)
 | .min=>a2 vs λa b=>two a b λi j=>P (.a9 (.int (if j<i then j else i)))
 | .max=>a2 vs λa b=>two a b λi j=>P (.a9 (.int (if i<j then j else i)))
 | .int=>a1 vs λa=>rd a.int? λi=>P (.a9 (.int i))
def iz(d:vg)(P:KI->Prop):Prop:=ph (nV d) (λi=>P (.int i)) (ph (iK d) (λs=>P (.str s)) (rd (hK d) λds=>∃l,ds=zs l/\P (.tup l)))
noncomputable def Zu:dg vg->(dg KI->Prop)->Prop
 |[],P=>P []
 |d::ds,P=>iz d λk=>Zu ds λa=>P (k::a)
def key(a:AV)(P:dg KI->Prop):Prop:=rd a.tup? λds=>Zu ds P
def pO(c:IC)(a:AV)(P:Tg->d9->Prop):Prop:=rd a.obj? λτ=>rd (c.σ τ) (P τ)
def Nq(c:IC)(b r a:AV)(K:IC->Prop):Prop:=pO c b λτ o=>ck (hk τ a&& !d5 τ)
 (ph o.dI? (λp=>rd r.int? λk=>ck p.1 (j7 k=true/\put c τ (.p9 true (f9 p.2 k a)) K))
 (ph o.dL? (λp=>rd r.int? λk=>ck p.1 (p.2.length<=1000000/\put c τ (.M9 true (X6 p.2 k a)) K))
 (ph o.dS? (λf=>rd r.str? λk=>ck (decide (k∈SK)) (put c τ (.w8 (f9 f k a)) K))
 (rd o.dT? λf=>key r λk=>k∈TK/\put c τ (.V9 (f9 f k a)) K))))
def Oq(c:IC)(b r:AV)(K:IC->Prop):Prop:=pO c b λτ o=>
 ph o.dI? (λp=>rd r.int? λk=>ck p.1 ((p.2 k).isSome=true/\put c τ (.p9 true (H9 p.2 k)) K))
 (rd o.dT? λf=>key r λk=>(f k).isSome=true/\put c τ (.V9 (H9 f k)) K)
abbrev Cs(P:Tg->wg->dg AV->Prop)(τ:Tg)(p:wg×dg AV):Prop:=P τ p.1 p.2
abbrev lj(P:Tg->wg->dg AV->Prop)(τ:Tg)(o:d9):Prop:=rd o.ls? (Cs P τ)
def RK(c:IC)(a:AV)(P:Tg->wg->dg AV->Prop):Prop:=pO c a (lj P)
abbrev oj(P:Tg->dg AV->Prop)(τ:Tg)(w:wg)(l:dg AV):Prop:=ck w (P τ l)
abbrev pj(c:IC)(a:AV)(P:Tg->dg AV->Prop)(_:Tg)(_:wg)(_:dg AV):Prop:=RK c a (oj P)
def nR(c1 c:IC)(a:AV)(P:Tg->dg AV->Prop):Prop:=RK c1 a (pj c a P)
abbrev Dj(c:IC)(K:AV->IC->Prop)(v:AV)(τ:Tg)(l:dg AV):Prop:=ck (hk τ v) (l.length<=1000000/\put c τ (.list true (l++[v])) (K (.a9 .none)))
abbrev et(c:IC)(K:AV->IC->Prop)(τ:Tg)(l:dg AV)(ds:dg vg):Prop:=l.length+ds.length<=1000000/\put c τ (.list true (l++ds.map .a9)) (K (.a9 .none))
abbrev ej(c:IC)(K:AV->IC->Prop)(v:AV)(τ:Tg)(l:dg AV):Prop:=kL c v (et c K τ l)
abbrev jj(c:IC)(K:AV->IC->Prop)(τ:Tg)(l:dg AV):Prop:=∃a v,l=a++[v]/\a.length<=1000000/\put c τ (.list true a) (K v)
def du(f:LM)(c1 c:IC)(a:AV)(vs:dg AV)(K:AV->IC->Prop):Prop:=match f with
 | .append=>a1 vs λv=>nR c1 c a (Dj c K v)
 | .extend=>a1 vs λv=>nR c1 c a (ej c K v)
 | .pop=>ck vs.isEmpty (nR c1 c a (jj c K))
 | .get=>pO c1 a λz' b=>pO c a λτ o=>ph b.dT?
  (λz'=>rd o.dT? λf=>io vs (λr=>key r λk=>ph (f k) (λv=>K v c) (K (.a9 .none) c)) λr d=>key r λk=>ph (f k) (λv=>K v c) (K d c))
  (rd b.dL? λz'=>rd o.dL? λp=>ck p.1 (a2 vs λr d=>rd r.int? λk=>ph (lk p.2 k) (λv=>K v c) (K d c)))
noncomputable def IC.set(c:IC)(i:yg)(a:AV):IC:=⟨W9 c.ρ i a,c.t,c.b⟩
noncomputable def qQ:dg yg->dg AV->IC->(IC->Prop)->Prop
 |[],[],c,P=>P c
 |i::a,v::vs,c,P=>qQ a vs (c.set i v) P
 |_,_,_,_=>False
def U5(o:wg)(i:dg yg)(v:AV)(c:IC)(P:IC->Prop):Prop:=match o with
 |true=>qQ i [v] c P
 |false=>rd v.tup? λds=>qQ i (ds.map .a9) c P
noncomputable def O5(b:dg yg)(a:dg (yg×AV)):dg (yg×AV):=b.filterMap λi=>(a.lookup i).map (Prod.mk i)
noncomputable def IC.keep(i:dg yg)(c:IC):IC:=⟨O5 i c.ρ,c.t,c.b⟩
abbrev KE:=AV->IC->Prop
abbrev KL:=dg AV->IC->Prop
abbrev KT:=wg->IC->Prop
abbrev KO:=d9->IC->Prop
abbrev KP:=dg (AV×AV)->IC->Prop
abbrev KB:=Fl->IC->Prop
def IW(k:IC->Prop)(K:KB):KB:=λf c=>match f with
 | .next=>k c
 | .ret a=>K (.ret a) c
abbrev kN(B:IC->KB->Prop)(N:KB)(c1:IC):Prop:=B c1 N
noncomputable def lp(B:IC->KB->Prop)(A:AV->IC->(IC->Prop)->Prop)(k:IC->IC)(K:KB):dg AV->IC->Prop
 |[],c=>K .next (k c)
 |v::vs,c=>A v (k c) (kN B (IW (lp B A k K vs) K))
abbrev fj(B:IC->KB->Prop)(N K:KB)(b:wg)(c1:IC):Prop:=br b (B c1 N) (K .next c1)
noncomputable def wh(T:IC->KT->Prop)(B:IC->KB->Prop)(k:IC->IC)(K:KB):yg->IC->Prop
 |0,_=>False
 |n+1,c=>T (k c) (fj B (IW (wh T B k K n) K) K)
section
variable(T:IC->KT->Prop)(E:IC->KE->Prop)(R:IC->KL->Prop)(K:KL)
abbrev wj(d:vg):KL:=λw c=>K (.a9 d::w) c
abbrev xj(c:IC)(d:vg):Prop:=R c (wj K d)
abbrev zj:KE:=λa c=>rd a.dat? (xj R K c)
abbrev Aj:KT:=λb c1=>br b (E c1 (zj R K)) (R c1 K)
abbrev Bj(c:IC):Prop:=T c (Aj E R K)
end
noncomputable def rJ(T:IC->KT->Prop)(E:IC->KE->Prop)(a:dg (yg×AV))(o:wg)(i:dg yg):dg AV->IC->KL->Prop
 |[],c,K=>K [] c
 |v::vs,c,K=>U5 o i v ⟨a,c.t,c.b⟩ (Bj T E (rJ T E a o i vs) K)
noncomputable def fT:dg (AV×AV)->(dg (Str×AV)->Prop)->Prop
 |[],P=>P []
 |p::a,P=>rd p.1.str? λk=>fT a λl=>P ((k,p.2)::l)
noncomputable def gT:dg (AV×AV)->(dg (kg×AV)->Prop)->Prop
 |[],P=>P []
 |p::a,P=>rd p.1.int? λk=>gT a λl=>P ((k,p.2)::l)
end
structure Pg where
 nm:yg->Str
 gd:yg->Str×vg
 ps:yg->dg Str
 sc:yg->lf
 body:yg->dg Xf
noncomputable def fK:Xf->Str×Arguments×dg Xf×lf
 | .FunctionDef n a b _ _ _ s _ _ _=>(n,a,b,s)
 | .ClassDef n _ _ b _ _ s _ _ _ _=>(n,default,b,s)
 |_=>default
noncomputable def FB(s:Xf):Str:=(fK s).1
noncomputable def bO(s:Xf):dg Xf:=(fK s).2.2.1
noncomputable def GB(s:Xf):Arguments:=(fK s).2.1
noncomputable def lG(s:Xf):lf:=(fK s).2.2.2
noncomputable def Iv(l:dg Xf)(n:yg):Xf:=l.getD n default
noncomputable def top(n:yg):Xf:=Iv pw_nz0156_01.main.body n
noncomputable def Ux(i:yg):Xf:=if i<43 then Iv (bO (top 6)) i else if i<72 then Iv (bO (top 9)) (i-43) else top (i-72+13)
@[irreducible] noncomputable def MM:vg:= .tuple [.tuple [.str (S "f"),.int 0,.int 3],.tuple [.str (S "f"),.int 1,.int 4],.tuple [.str (S "f"),.int 3,.int 5],.tuple [.str (S "p"),.int 0,.int 6],.tuple [.str (S "p"),.int 1,.int 7],.tuple [.str (S "p"),.int 3,.int 8]]
@[irreducible] noncomputable def OO:vg:= .tuple [.tuple [.int 0,.int 1],.tuple [.int 1,.int 2],.tuple [.int 0,.int 2],.tuple [.int 3,.int 4],.tuple [.int 0,.int 3],.tuple [.int 3,.int 5],.tuple [.int 2,.int 5],.tuple [.int 6,.int 7],.tuple [.int 7,.int 8],.tuple [.int 6,.int 9],.tuple [.int 7,.int 9],.tuple [.int 8,.int 9]]
noncomputable def pg:Pg:=⟨λi=>FB (Ux i),λk=>match k with
 |0=>(S "VALUE_OPS",.tuple [.str (S "num"),.str (S "bvnum"),.str (S "true"),.str (S "false")])
 |1=>(S "BY_ARGUMENTS",.str (S "arguments"))
 |2=>(S "BOOL",.int 0)
 |3=>(S "_law_apps",MM)
 |_=>(S "_law_menu",OO),λi=>(GB (Ux i)).args.map (·.arg),λi=>lG (Ux i),λi=>bO (Ux i)⟩
section
structure y8 where
 W:Wd
 C:yg
 B:yg
 fv:yg->yg
 cls:∀D,D=C\/D=B->A4 W D/\∀i,i<30->Ad W.K (.ref D) (an i)=some none
 fc:∀i,i<43->Ad W.K (.ref C) (pg.nm i)=some (some (.ref (fv i)))
 fb:∀i,43<=i->i<72->Ad W.K (.ref B) (pg.nm i)=some (some (.ref (fv i)))
 fn:∀i,i<72->isFn W.K (.ref (fv i))=true/\∀j,j<30->an j≠pg.nm i
 I4:∀D,D=C\/D=B->makesIn W.K D=true/\ċ W.K (.ref D)=true
 sU:pg.nm 0=S "__init__"/\pg.nm 43=S "__init__"/\ó W.K fe (S "Congruence")=some (some (.ref C))/\ó W.K fe (S "Bank")=some (some (.ref B))
 df:∀i,i<86->∃fd,ZM W (fv i) fd (pg.body i) (pg.ps i)/\fd.scope=pg.sc i
 kp:∀i,i<86->ċ W.K (.ref (fv i))=true
 gl:∀i,72<=i->i<86->ó W.K fe (pg.nm i)=some (some (.ref (fv i)))
 no:∀x∈[S "len",S "sorted",S "list",S "tuple",S "zip",S "min",S "max",S "set",S "range",S "int",S "isinstance"],ó W.K fe x=some none
 gd:∀k,k<5->∃v,ó W.K fe (pg.gd k).1=some (some v)/\∀G:Gh,(∀a o,W.K.lookup a=some o->G.P a=some o)->F9 G (.a9 (pg.gd k).2) v
section
variable(P:y8)
structure uU(τ:Tg)(o:d9):Prop where
 hold:C6 τ o
 cls:∀D as,o= .inst D as->(D=P.C/\τ= .house)\/(D=P.B/\τ= .bank)
 C7:∀κ f,τ= .C7 κ->o= .p9 true f->∀j v,f j=some v->v= .g9 (.ls κ j)
def Inv(σ:Tg->gg d9):Prop:=∀τ o,σ τ=some o->uU P τ o
def i7(n:yg)(md:Md)(id:yg)(as:dg AV)(b:Tg->gg d9)(a:AV)(b':Tg->gg d9):Prop:=
 Inv P (L4 [] b)->Fn P.W (λτ=>md.u τ=true) n (.ref (P.fv id)) as (L4 [] b) a (L4 [] b')/\Inv P (L4 [] b')
inductive Ox(n id) u as(c:IC)(K:KE):Prop
 |mk m a b' (h:i7 P n m id as c.b a b') (k:ck (sF u m&&(c.ρ.all λp=>gN m p.2)&&LF a) (K a ⟨c.ρ,c.t,b'⟩))
end
noncomputable def y8.cl(P:y8):Tg->yg
 | .house=>P.C
 |_=>P.B
noncomputable def ag(τ:Tg)(id:yg):wg:=(decide (τ= .house)&&í id 0)||(decide (τ= .bank)&&í id 43)
inductive Mx(P:y8)(n id:yg)(τ:Tg)(u:Mo)(as:dg AV)(c:IC)(K:KE):Prop
 |mk (n':yg) (hn:n=n'+1) (md:Md) (b':Tg->gg d9) (h:i7 P n' md id (.g9 τ::as) (up c.b τ (.inst (P.cl τ) [])) (.a9 .none) b') (hs:∀τ' o,τ'≠τ->c.b τ'=some o->o.keeps (·≠τ))
  (k:ck (ag τ id&&(nu u τ&&(sF u md&&(md.u τ&&((c.ρ.all λp=>gN md p.2&&nt τ p.2)&&as.all (nt τ)))))) (K (.g9 τ) ⟨c.ρ,c.t,b'⟩))
structure Sm where
 e:Mo->IC->KE->Prop
 l:Mo->IC->KL->Prop
 t:Mo->IC->KT->Prop
 o:Mo->IC->KO->Prop
 c:Mo->IC->KL->Prop
 p:Mo->IC->KP->Prop
 b:Mo->IC->KB->Prop
noncomputable def Sm.F:Sm:=⟨λz' z' z'=>False,λz' z' z'=>False,λz' z' z'=>False,λz' z' z'=>False,λz' z' z'=>False,λz' z' z'=>False,λz' z' z'=>False⟩
noncomputable def XG(τ:Tg)(id:yg):wg:=(decide (τ= .house)&&decide (id<43))||(decide (τ= .bank)&&(decide (43<=id)&&decide (id<72)))
noncomputable def Q6(o:d9):wg:=o.in?.isSome
def Sw(c:IC)(τ:Tg)(K:IC->Prop)(o:d9):Prop:=C6 τ o/\ck (!Q6 o&& !d5 τ) (ph (aY τ) (λh=>(∀a,c.σ h=some a->a.keeps (·≠τ))/\put c τ o K) (put c τ o K))
def Lo(c:IC)(y i:yg)(a:AV)(K:IC->Prop):Prop:=rd (c.ρ.lookup y) λh=>pO c h λτ o=>rd o.in? λp=>ck (hk τ a) (put c τ (.inst p.1 (W9 p.2 i a)) K)
def XM(τ:Tg)(o:d9):Prop:=br (d5 τ) (o= .p9 true λz'=>none) (C6 τ o)
def Lq(c:IC)(u:Mo)(y i:yg)(τ:Tg)(o:d9)(K:IC->Prop):Prop:=rd (c.ρ.lookup y) λh=>pO c h λa b=>rd b.in? λp=>
 ck (nu u τ&&(c.ρ.all (λp=>nt τ p.2)&&(hb a τ&&(!Q6 o&&p.2.all λp=>decide (p.1=i)||nt τ p.2)))) (XM τ o/\∃b',up (up c.b τ o) a (.inst p.1 (W9 p.2 i (.g9 τ)))=b'/\K ⟨c.ρ,c.t,b'⟩)
def Ko(c:IC)(u:Mo)(y i j:yg)(κ:LK)(o:d9)(K:IC->Prop):Prop:=rd (c.ρ.lookup y) λh=>fld c h i λd=>rd (c.ρ.lookup j) λt=>rd t.int? λt=>pO c d λτ a=>rd a.dI? λp=>
 ck (decide (τ= .C7 κ)&&(p.1&&(!Q6 o&&(nu u (.ls κ t)&&c.ρ.all λp=>nt (.ls κ t) p.2)))) (C6 (.ls κ t) o/\j7 t=true/\∃b',up (up c.b (.ls κ t) o) (.C7 κ) (.p9 true (f9 p.2 t (.g9 (.ls κ t))))=b'/\K ⟨c.ρ,c.t,b'⟩)
def Pw(c:IC)(u:Mo)(y:yg)(x:Str)(τ:Tg)(o:d9)(K:IC->Prop):Prop:=rd (c.ρ.lookup y) λh=>pO c h λa b=>rd b.dS? λf=>
 ck (nu u τ&&(c.ρ.all (λp=>nt τ p.2)&&(hb a τ&&(!Q6 o&&(!d5 τ&&decide (x∈SK)))))) (C6 τ o/\(∀j v,j≠x->f j=some v->v.keeps (·≠τ))/\∃b',up (up c.b τ o) a (.w8 (f9 f x (.g9 τ)))=b'/\K ⟨c.ρ,c.t,b'⟩)
def zp(ds es:dg vg)(P:vg->Prop):Prop:=match ds,es with
 |[x],[y]=>P (.list [.tuple [x,y]])
 |_,_=>False
noncomputable def O2.DI:O2->wg
 | .add=>true
 |_=>false
def bS(ns:dg kg):Prop:=ns.Pairwise (·<·)/\∀x∈ns,x∈[-7,-5,-3,2,4,6]
noncomputable def I0(L:dg (dg kg)):dg (dg kg):=L.mergeSort λx y=>decide (x.headD 0<=y.headD 0)
def bH(L:dg (dg kg)):Prop:=(∀l∈L,l≠[])/\(L.map (·.headD 0)).Nodup
noncomputable def iP(L:dg (dg kg)):dg vg:=L.map λl=> .tuple (zs l)
def Rw(c:IC)(a:AV)(P:vg->Prop):Prop:=kL c a λds=>∃L,ds=iP L/\L.length<64/\bH L/\P (.list (iP (I0 L)))
def To(c:IC)(i:yg)(K:IC->Prop):Prop:=rd (c.ρ.lookup i) λa=>RK c a λτ w vs=>rd τ.ti λj=>∃ds,vs=ds.map .a9/\ck w (K ⟨W9 c.ρ i (.a9 (.list ds)),c.t.filter λp=> !decide (p.1=j),c.b⟩)
inductive V5(u:Mo) c(K:Mo->IC->(IC->(IC->Prop)->Prop)->Prop):Prop
 |mk τ (o o') (e:c.σ τ=some o) (z:Fz o o') (h:put c τ o' λc1=>K (u.1,τ::u.2) c1 λa k=>a.σ τ=some o'/\put a τ o k)
noncomputable def Ro(l:dg (Str×AV)):wg:=l.all λp=>decide (p.1∈SK)
noncomputable def So(l:dg (kg×AV)):wg:=l.all λp=>j7 p.1
section
variable{α:Type}(P:y8)(n:yg)(mp mq mr ms:Sm)(u:Mo)(c c0:IC)(K:KE)(KT':KT)(KL':KL)(KO':KO)(KP':KP)(KB':KB)
abbrev kA(K:α->IC->Prop)(a:α):Prop:=K a c
abbrev kD(d:vg):Prop:=K (.a9 d) c
abbrev kC(Q:Prop)(_:α):Prop:=Q
abbrev kB(c:IC):Prop:=mq.b u c KB'
abbrev Zs(i:yg):KE:=λa c1=>fld c1 a i (kA c1 K)
abbrev Nz(i:kg):Prop:=K (.a9 (.int (-i))) c
abbrev Zt:KE:=λa c1=>rd a.int? (Nz c1 K)
abbrev uz(ds:dg vg):Prop:=K (.a9 (.tuple ds)) c
abbrev Qz(ds:dg vg):Prop:=K (.a9 (.list ds)) c
abbrev ot:KL:=λvs c1=>ck (dc vs.length 100) (aU vs (uz c1 K))
abbrev ss:KL:=λvs c1=>ck (dc vs.length 100) (aU vs (Qz c1 K))
abbrev Bs:KL:=λvs c1=>ck (dc vs.length 100) (KO' (.list true vs) c1)
abbrev Us(f:BF):KL:=λvs c1=>lx f c1 vs (kA c1 K)
abbrev Gs:KE:=λa c1=>uI c1 a (kC (K (.a9 (.bool true)) c1))
abbrev Ht:KE:=λa c1=>Rw c1 a (kD c1 K)
abbrev yz(ns:dg kg):Prop:=bS ns/\K (.a9 (.list (zs ns))) c
abbrev Jt:KE:=λa c1=>cu c1 a (yz c1 K)
abbrev Yt(τ:Tg)(id:yg):KL:=λvs c1=>Mx P n id τ u vs c1 K
abbrev tj(id:yg):KL:=λvs c1=>Ox P n id u vs c1 K
abbrev Wt(τ:Tg):KO:=λo c1=>ck (nu u τ&&c1.ρ.all λp=>nt τ p.2) (Sw c1 τ (K (.g9 τ)) o)
abbrev Xu(l:dg (Str×AV)):Prop:=ck (dc l.length 15&&Ro l) (KO' (.w8 (b7 (λz'=>none) l)) c)
abbrev cj:KP:=λp c1=>fT p (Xu c1 KO')
abbrev Yu(l:dg (kg×AV)):Prop:=ck (dc l.length 15) (So l=true/\KO' (.p9 true (b7 (λz'=>none) l)) c)
abbrev dj:KP:=λp c1=>gT p (Yu c1 KO')
abbrev kW(W:IC->(IC->Prop)->Prop)(K:α->IC->Prop)(a:α)(c:IC):Prop:=W c (K a)
abbrev rj(u:Mo)(c1:IC)(W:IC->(IC->Prop)->Prop):Prop:=mp.e u c1 (kW W K)
abbrev Hs(u:Mo)(c1:IC)(W:IC->(IC->Prop)->Prop):Prop:=mp.o u c1 (kW W KO')
abbrev jt:KE:=λa c1=>rd a.bool? (kA c1 KT')
abbrev Xt:KT:=λb c1=>KT' (!b) c1
abbrev Tt:KE:=λa c1=>KB' (.ret a) c1
abbrev vz(a:AV):KE:=λb c=>Mh c a b (kA c K)
abbrev qt:KE:=λa c1=>mq.e (hold a u) c1 (vz K a)
abbrev ay(o:O2)(a:AV):KE:=λb c=>Xp o c a b (kD c K)
abbrev Ws(o:O2):KE:=λa c1=>mq.e (hold a u) c1 (ay K o a)
abbrev Xz(vs w:dg AV):Prop:=(vs++w).length<=1000000/\KO' (.list true (vs++w)) c
abbrev Yz(b:AV)(vs:dg AV):Prop:=uI c b (Xz c KO' vs)
abbrev Zz(o:O2)(a:AV):KE:=λb c=>ck o.DI (uI c a (Yz c KO' b))
abbrev Vs(o:O2):KE:=λa c1=>mq.e (hold a u) c1 (Zz KO' o a)
abbrev Cj(t:wg):Prop:=K (.a9 (.bool t)) c
abbrev Wz(o:C2)(a:AV):KE:=λb c=>Pr o c a b (Cj c K)
abbrev Ss(o:C2):KE:=λa c1=>mq.e (hold a u) c1 (Wz K o a)
abbrev Vz(o:C2)(a:AV):KE:=λb c=>Pr o c a b (kA c KT')
abbrev Rs(o:C2):KE:=λa c1=>mq.e (hold a u) c1 (Vz KT' o a)
abbrev cy(a:AV)(b:wg):Prop:=br b (mq.e u c K) (K a c)
abbrev dr:KE:=λa c1=>rd a.bool? (cy mq u c1 K a)
abbrev NF(a:AV):KL:=λas c=>KL' (a::as) c
abbrev Uz:KE:=λa c1=>mq.l (hold a u) c1 (NF KL' a)
abbrev pz(ds es:dg vg):Prop:=zp ds es (kD c K)
abbrev qz(b:AV)(ds:dg vg):Prop:=rd b.tup? (pz c K ds)
abbrev rz(a:AV):KE:=λb c=>rd a.tup? (qz c K b)
abbrev dt:KE:=λa c1=>mq.e (hold a u) c1 (rz K a)
abbrev Dt(y:yg)(x:Str)(τ:Tg):KO:=λo c1=>Pw c1 u y x τ o (kB mq u KB')
abbrev Oz(id:yg)(a:AV)(vs:dg AV)(τ:Tg)(o:d9):Prop:=ck (Q6 o&&XG τ id) (Ox P n id u (a::vs) c K)
abbrev Pz(id:yg)(a:AV)(c1:IC):KL:=λvs c=>pO c1 a (Oz P n u c K id a vs)
abbrev js(id:yg):KE:=λa c1=>mq.l (hold a u) c1 (Pz P n u K id a c1)
abbrev Ds(f:LM)(a:AV)(c1:IC):KL:=λvs c=>du f c1 c a vs K
abbrev mj(f:LM):KE:=λa c1=>mq.l (hold a u) c1 (Ds K f a c1)
abbrev AI(ds es:dg vg):Prop:=ds.length<=1000000/\K (.a9 (.list es)) c
abbrev Az(k:kg)(ds:dg vg):Prop:=rd (C3 none (some k) none ds) (AI c K ds)
abbrev Bz(a:AV)(k:kg):Prop:=Zq c a (Az c K k)
abbrev Cz(a:AV):KE:=λb c=>rd b.int? (Bz c K a)
abbrev Kt:KE:=λa c1=>mq.e (hold a u) c1 (Cz K a)
abbrev Hz(vs w:dg AV):Prop:=vs.length<=1000000/\KO' (.list true w) c
abbrev Iz(k:kg)(vs:dg AV):Prop:=rd (C3 none (some k) none vs) (Hz c KO' vs)
abbrev Jz(a:AV)(k:kg):Prop:=uI c a (Iz c KO' k)
abbrev Kz(a:AV):KE:=λb c=>rd b.int? (Jz c KO' a)
abbrev Ot:KE:=λa c1=>mq.e (hold a u) c1 (Kz KO' a)
abbrev Dz(k:kg)(ds:dg vg):Prop:=rd (C3 none none (some k) ds) (AI c K ds)
abbrev Ez(a:AV)(k:kg):Prop:=kL c a (Dz c K k)
abbrev Gz(a:AV):KE:=λb c=>rd b.int? (Ez c K a)
abbrev Nt:KE:=λa c1=>mq.e (hold a u) c1 (Gz K a)
abbrev cr:KT:=λb c1=>br b (mq.t u c1 KT') (KT' false c1)
abbrev kj:KT:=λb c1=>br b (KT' true c1) (mq.t u c1 KT')
abbrev vj:KE:=λz' c1=>mq.b u c1 KB'
abbrev Rt(i:yg):KE:=λa c1=>mq.b u (c1.set i a) KB'
abbrev vt(i:dg yg):KE:=λa c1=>U5 false i a c1 (kB mq u KB')
abbrev xt(i:dg yg):KL:=λvs c1=>qQ i.reverse vs.reverse c1 (kB mq u KB')
abbrev Bt(i:dg yg):KL:=λvs c1=>ck (dc vs.length 100) (qQ i vs c1 (kB mq u KB'))
abbrev xz(i:yg)(ds:dg vg):Prop:=mq.b u (c.set i (.a9 (.list ds))) KB'
abbrev Et(i:yg):KL:=λw c1=>aU w (xz mq u c1 KB' i)
abbrev wz(i:yg)(τ:Tg)(c:IC):Prop:=mq.b u (c.set i (.g9 τ)) KB'
abbrev ut(i:yg)(τ:Tg):KL:=λw c1=>ck (nu (G8 c0.ρ u) τ&&c1.ρ.all λp=>nt τ p.2) (Sw c1 τ (wz mq u KB' i τ) (.list true w))
abbrev Ft(y i:yg):KE:=λa c1=>Lo c1 y i a (kB mq u KB')
abbrev yt(y i:yg)(τ:Tg):KO:=λo c1=>Lq c1 u y i τ o (kB mq u KB')
abbrev Ct(y i j:yg)(κ:LK):KO:=λo c1=>Ko c1 u y i j κ o (kB mq u KB')
abbrev Es:KT:=λb c1=>br b (mq.e u c1 K) (mr.e u c1 K)
abbrev Ut(a b:AV):KP:=λp c=>KP' ((a,b)::p) c
abbrev Vt(a:AV):KE:=λb c=>mr.p (hold b (hold a u)) c (Ut KP' a b)
abbrev ij:KE:=λa c1=>mq.e (hold a u) c1 (Vt mr u KP' a)
abbrev Ps(i:dg yg)(o:wg)(f:dg yg)(c1:IC)(vs:dg AV):Prop:=vs.length<=1000000/\rJ (mr.t (G8 c0.ρ u)) (mp.e (G8 c0.ρ u)) (O5 f c0.ρ) o i vs c1 KL'
abbrev Qs(i:dg yg)(o:wg)(f:dg yg):KE:=λa c1=>SD c1 (G8 c0.ρ u) a (Ps mp mr u c0 KL' i o f c1)
abbrev Tz(c:IC)(ds:dg vg):Prop:=K (.a9 (.list ds)) ⟨c0.ρ,c.t,c.b⟩
abbrev Ms:KL:=λw c=>aU w (Tz c0 K c)
abbrev Ks:KL:=λw c=>KO' (.list true w) ⟨c0.ρ,c.t,c.b⟩
abbrev Os:KL:=λw c=>KL' w ⟨c0.ρ,c.t,c.b⟩
abbrev Sz(a:AV):KE:=λb c=>Oq c a b (kB mr u KB')
abbrev Js:KE:=λa c1=>mq.e (hold a u) c1 (Sz mr u KB' a)
abbrev Rz(i:dg yg)(o:wg)(k:dg yg)(c1:IC)(vs:dg AV):Prop:=lp (mq.b u) (U5 o i) (IC.keep k) KB' vs c1
abbrev Yh(i:dg yg)(o:wg)(k:dg yg):KE:=λa c1=>SD c1 u a (Rz mq u KB' i o k c1)
def dE(a:dg yg)(o:wg)(i body:Sm)(k:dg yg)(c:IC)(K:KB):Prop:=i.e u c (Yh body u K a o k)
abbrev sj(i:dg yg)(o:wg)(k:dg yg)(a:Mo)(c1:IC)(W:IC->(IC->Prop)->Prop):Prop:=dE a i o mp mq k c1 (kW W (IW (kB mr u KB') KB'))
abbrev uj(i:yg)(k:dg yg):KL:=λvs c1=>ck (dc vs.length 100) (lp (mq.b (vs.foldr hold u)) (U5 true [i]) (IC.keep k) (IW (kB mr u KB') KB') vs c1)
abbrev Pt(a b:AV):KE:=λr c=>Nq c b r a (kB ms u KB')
abbrev Qt(a:AV):KE:=λb c=>mr.e (hold b (hold a u)) c (Pt ms u KB' a b)
abbrev gj:KE:=λa c1=>mq.e (hold a u) c1 (Qt mr ms u KB' a)
abbrev nj:KT:=λb c1=>br b (mq.b u c1 (IW (kB ms u KB') KB')) (mr.b u c1 (IW (kB ms u KB') KB'))
end
noncomputable def Yw(P:y8)(n:yg)(k:K0):Sm:=match k with
 | .var i=>{Sm.F with e:=λu c K=>rd (c.ρ.lookup i) (kA c K)}
 | .con d=>{Sm.F with e:=λu c K=>K (.a9 d) c}
 | .JI k=>{Sm.F with e:=λu c K=>K (.a9 (pg.gd k).2) c}
 | .nil=>{Sm.F with
   l:=λu c K=>K [] c
   t:=λu c K=>K true c
   p:=λu c K=>K [] c
   b:=λu c K=>K .next c}
 | .dI=>{Sm.F with o:=λu c K=>K (.p9 true λz'=>none) c}
 | .dL=>{Sm.F with o:=λu c K=>K (.M9 true []) c}
 | .dT=>{Sm.F with o:=λu c K=>K (.V9 λz'=>none) c}
 | .fZ=>{Sm.F with b:=λu c K=>K (.ret (.a9 .none)) c}
 | .bad=>Sm.F
noncomputable def Xw(P:y8)(n:yg)(k:K1)(m:Sm):Sm:=match k with
 | .I6 i=>{Sm.F with e:=λu c K=>m.e u c (Zs K i)}
 | .neg=>{Sm.F with e:=λu c K=>m.e u c (Zt K)}
 | .one=>{Sm.F with e:=m.e}
 | .tup=>{Sm.F with e:=λu c K=>m.l u c (ot K)}
 | .lst=>{Sm.F with
   e:=λu c K=>m.l u c (ss K)
   o:=λu c K=>m.l u c (Bs K)}
 | .blt f=>{Sm.F with e:=λu c K=>m.l u c (Us K f)}
 | .VF=>{Sm.F with e:=λu c K=>m.e u c (Gs K)}
 | .fP=>{Sm.F with e:=λu c K=>m.e u c (Ht K)}
 | .LH=>{Sm.F with e:=λu c K=>m.e u c (Jt K)}
 | .new τ id=>{Sm.F with e:=λu c K=>m.l u c (Yt P n u K τ id)}
 | .fn id=>{Sm.F with e:=λu c K=>m.l u c (tj P n u K id)}
 | .own τ=>{Sm.F with e:=λu c K=>m.o u c (Wt u K τ)}
 | .dS=>{Sm.F with o:=λu c K=>m.p u c (cj K)}
 | .dN=>{Sm.F with o:=λu c K=>m.p u c (dj K)}
 | .fz=>{Sm.F with
   e:=λu c K=>V5 u c (rj m K)
   o:=λu c K=>V5 u c (Hs m K)}
 | .val=>{Sm.F with t:=λu c K=>m.e u c (jt K)}
 | .not=>{Sm.F with t:=λu c K=>m.t u c (Xt K)}
 | .ret=>{Sm.F with b:=λu c K=>m.e u c (Tt K)}
 | .rel i=>{Sm.F with b:=λu c K=>To c i (kB m u K)}
noncomputable def Ww(P:y8)(n:yg)(k:K2)(a m:Sm):Sm:=match k with
 | .sub=>{Sm.F with e:=λu c K=>a.e u c (qt m u K)}
 | .bin d=>{Sm.F with
   e:=λu c K=>a.e u c (Ws m u K d)
   o:=λu c K=>a.e u c (Vs m u K d)}
 | .cmp d=>{Sm.F with
   e:=λu c K=>a.e u c (Ss m u K d)
   t:=λu c K=>a.e u c (Rs m u K d)}
 | .DW=>{Sm.F with e:=λu c K=>a.e u c (dr m u K)}
 | .cons=>{Sm.F with l:=λu c K=>a.e u c (Uz m u K)}
 | .zip=>{Sm.F with e:=λu c K=>a.e u c (dt m u K)}
 | .eZ y x τ=>{Sm.F with b:=λu c K=>a.o u c (Dt m u K y x τ)}
 | .met id=>{Sm.F with e:=λu c K=>a.e u c (js P n m u K id)}
 | .lm f=>{Sm.F with e:=λu c K=>a.e u c (mj m u K f)}
 | .qU=>{Sm.F with
   e:=λu c K=>a.e u c (Kt m u K)
   o:=λu c K=>a.e u c (Ot m u K)}
 | .fL=>{Sm.F with e:=λu c K=>a.e u c (Nt m u K)}
 | .and=>{Sm.F with t:=λu c K=>a.t u c (cr m u K)}
 | .or=>{Sm.F with t:=λu c K=>a.t u c (kj m u K)}
 | .ex=>{Sm.F with b:=λu c K=>a.e u c (vj m u K)}
 | .set i=>{Sm.F with b:=λu c K=>a.e u c (Rt m u K i)}
 | .n6 g=>{Sm.F with b:=λu c K=>a.e u c (vt m u K g)}
 | .dV g=>{Sm.F with b:=λu c K=>a.l u c (xt m u K g)}
 | .fV g=>{Sm.F with b:=λu c K=>a.l u c (Bt m u K g)}
 | .EY i=>{Sm.F with b:=λu c K=>a.c u c (Et m u K i)}
 | .DY i τ=>{Sm.F with b:=λu c K=>a.c u c (ut m u c K i τ)}
 | .V4 y i=>{Sm.F with b:=λu c K=>a.e u c (Ft m u K y i)}
 | .eV y i τ=>{Sm.F with b:=λu c K=>a.o u c (yt m u K y i τ)}
 | .X3 y i j κ=>{Sm.F with b:=λu c K=>a.o u c (Ct m u K y i j κ)}
noncomputable def Vw(P:y8)(n:yg)(k:K3)(j m g:Sm):Sm:=match k with
 | .ite=>{Sm.F with e:=λu c K=>j.t u c (Es m g u K)}
 | .pr=>{Sm.F with p:=λu c K=>j.e u c (ij m g u K)}
 | .comp r q s=>{Sm.F with
   e:=λu c K=>m.e (G8 c.ρ u) c (Qs j g u c (Ms c K) r q s)
   o:=λu c K=>m.e (G8 c.ρ u) c (Qs j g u c (Ks c K) r q s)
   c:=λu c K=>m.e (G8 c.ρ u) c (Qs j g u c (Os c K) r q s)}
 | .lY r q s=>{Sm.F with o:=λu c K=>g.e (G8 c.ρ u) c λa c1=>SD c1 (G8 c.ρ u) a λvs=>vs.length<=1000000/\rJ (λc K=>K true c) (λc' K=>j.e (G8 c.ρ u) c' λa c1=>m.e (hold a (G8 c.ρ u)) c1 λb l=>rd a.int? λi=>rd b.dat? λd=>K (.a9 (.tuple [.int i,d])) l) (O5 s c.ρ) q r vs c1 λI l=>∃A,I=A.map KD/\K (.M9 true (pJ A)) ⟨c.ρ,l.t,l.b⟩}
 | .del=>{Sm.F with b:=λu c K=>j.e u c (Js m g u K)}
 | .cY false r q f=>{Sm.F with b:=λu c K=>dE u r q j m f c (IW (kB g u K) K)}
 | .cY true r q f=>{Sm.F with b:=λu c K=>V5 u c (sj j m g u K r q f)}
 | .OV i f=>{Sm.F with b:=λu c K=>j.l u c (uj m g u K i f)}
 | .CU f=>{Sm.F with b:=λu c K=>∃N,wh (j.t u) (m.b u) (IC.keep f) (IW (kB g u K) K) N c}
noncomputable def Uw(P:y8)(n:yg)(k:K4)(m a d e:Sm):Sm:=match k with
 | .W1=>{Sm.F with b:=λu c K=>m.e u c (gj a d e u K)}
 | .ifs=>{Sm.F with b:=λu c K=>m.t u c (nj a d e u K)}
noncomputable def Qo(P:y8)(n:yg)(k:K1)(_:M)(p:Sm):Sm:=Xw P n k p
noncomputable def Po(P:y8)(n:yg)(k:K2)(_ _:M)(p q:Sm):Sm:=Ww P n k p q
noncomputable def Oo(P:y8)(n:yg)(k:K3)(_ _ _:M)(p q r:Sm):Sm:=Vw P n k p q r
noncomputable def No(P:y8)(n:yg)(k:K4)(_ _ _ _:M)(p q r s:Sm):Sm:=Uw P n k p q r s
noncomputable def A9(P:y8)(n:yg)(m:M):Sm:=M.rec (Yw P n) (Qo P n) (Po P n) (Oo P n) (No P n) m
end
noncomputable def Gj:dg yg:=[65,72,79,86,93,100,107,114,121,128,133,138,143,150,157,164,171,178,185,192,199,206,213,220,227,234,241,248,255,262,267,274,281,288,295,302,309,316,321,328,335,342,349,
 370,377,384,391,398,405,412,419,426,433,440,447,454,461,468,475,482,489,496,503,510,517,524,531,538,545,552,559,566,600,605,610,615,622,627,634,639,646,653,658,663,670,675]
noncomputable def mP(i:yg):yg:=Gj.getD i 0
noncomputable def gw(o:Fd):Va:=match o.data with
 | .func fd=>fd
 |_=>default
noncomputable def Yx(K:Frag)(f:yg):Fd:=(K.lookup f).getD default
noncomputable def bF(i:yg)(x:Va):Va:={x with body:= .stmts (pg.body i),scope:=pg.sc i,globals:=fe,closure:=[],builtins:=builtinsNs}
noncomputable def Em(o:Fd)(i:yg):Fd:=⟨o.cls,o.dict,.func (bF i (gw o)),o.slots⟩
noncomputable def aq(K:Frag)(i:yg)(x:Va):wg:=codeIn K x.code x.qualname&&(((pg.ps i).all λp=>b6 ((pg.sc i).names.lookup p))&&(decide (pg.ps i).Nodup&&(decide ((À 0 (pg.sc i).names []).map (·.1)).Nodup&&(!(pg.sc i).isCoroutine&&(!(pg.sc i).isGenerator&&(decide ((pg.sc i).kind= .function)&&ċ K (.ref (mP i))))))))
noncomputable def Zr(K:Frag)(i:yg):wg:=isFn K (.ref (mP i))&&(af 30).all λj=> !decide (an j=pg.nm i)
noncomputable def Sh(v:yg->zg)(n:yg):dg zg:=(af n).map v
noncomputable def oz(K:Frag)(D:yg):dg (gg (gg zg)):=Ad K (.ref D) "__getattribute__"::Ad K (.ref D) "__getattr__"::Ad K (.ref D) "__setattr__"::(af 30).map λi=>Ad K (.ref D) (an i)
noncomputable def bt(K:Frag)(D:yg):wg:=hasDictIn K D&&(plainOver K D&&(makesIn K D&&ċ K (.ref D)))
noncomputable def mz:dg (gg (gg zg)):=some (some (.builtin "object.__getattribute__"))::some none::some (some (.builtin "object.__setattr__"))::List.replicate 30 (some none)
noncomputable def Yp:dg Str:=[S "len",S "sorted",S "list",S "tuple",S "zip",S "min",S "max",S "set",S "range",S "int",S "isinstance"]
noncomputable def Fj:dg zg:=[.ref 51,.str (S "arguments") 241,.int 0 706,.ref 580,.ref 593]
noncomputable def DD:dg (yg×Rf zg):=[(51,#[.str (S "num") 236,.str (S "bvnum") 237,.str (S "true") 238,.str (S "false") 239]),(580,#[.ref 574,.ref 575,.ref 576,.ref 577,.ref 578,.ref 579]),(593,#[.ref 581,.ref 582,.ref 583,.ref 584,.ref 585,.ref 586,.ref 587,.ref 588,.ref 589,.ref 590,.ref 591,.ref 592]),(574,#[.str (S "f") 987,.int 0 988,.int 3 989]),(575,#[.str (S "f") 990,.int 1 991,.int 4 992]),(576,#[.str (S "f") 993,.int 3 994,.int 5 995]),(577,#[.str (S "p") 996,.int 0 997,.int 6 998]),(578,#[.str (S "p") 999,.int 1 1000,.int 7 1001]),(579,#[.str (S "p") 1002,.int 3 1003,.int 8 1004]),(581,#[.int 0 1006,.int 1 1007]),(582,#[.int 1 1008,.int 2 1009]),(583,#[.int 0 1010,.int 2 1011]),(584,#[.int 3 1012,.int 4 1013]),(585,#[.int 0 1014,.int 3 1015]),(586,#[.int 3 1016,.int 5 1017]),(587,#[.int 2 1018,.int 5 1019]),(588,#[.int 6 1020,.int 7 1021]),(589,#[.int 7 1022,.int 8 1023]),(590,#[.int 6 1024,.int 9 1025]),(591,#[.int 7 1026,.int 9 1027]),(592,#[.int 8 1028,.int 9 1029])]
structure KF(K:Frag):Prop where
 a:(af 86).map (λi=>K.lookup (mP i))=(af 86).map λi=>some (Em (Yx K (mP i)) i)
 b:(af 86).map (λi (v:yg->zg)=>bindArgs (bF i (gw (Yx K (mP i)))) ⟨Sh v (pg.ps i).length,[]⟩)=(af 86).map λi v=>pure ((pg.ps i).zip (Sh v (pg.ps i).length))
 c:((af 86).all λi=>aq K i (gw (Yx K (mP i))))=true
 f:((af 72).all (Zr K)&&(bt K 352&&bt K 569))=true
 d:oz K 352++oz K 569=mz++mz
 e:(af 72).map (λi=>Ad K (.ref (if i<43 then 352 else 569)) (pg.nm i))=(af 72).map λi=>some (some (.ref (mP i)))
 g:(af 14).map (λi=>ó K fe (pg.nm (i+72)))=(af 14).map λi=>some (some (.ref (mP (i+72))))
 h:(Yp.map (ó K fe))=Yp.map λz'=>some none
 i:(af 5).map (λk=>ó K fe (pg.gd k).1)=Fj.map λv=>some (some v)
 j:[ó K fe (S "Congruence"),ó K fe (S "Bank")]=[some (some (.ref 352)),some (some (.ref 569))]
 t:DD.map (λp=>K.lookup p.1)=DD.map λp=>some (v7 p.2 0)
noncomputable def iI(e:Expr):wg:=swappedStores.match_5 (λx=>wg) e (λv pos=>true) λx=>false
theorem ff{P:Prop}(h:false=true):P:=absurd h cf
noncomputable def T3(f:BoolOp->dg Expr->re->wg)(e:Expr):wg:=by apply @Expr.casesOn (λz'=>wg) e;(case BoolOp=>exact f);all_goals (intros;exact false)
@[elab_as_elim] theorem y5{f:BoolOp->dg Expr->re->wg}{e:Expr}{Q:Expr->Prop}(h:T3 f e=true)(k:∀x a b,f x a b=true->Q (.BoolOp x a b)):Q e:=by revert h;apply @Expr.casesOn (λe=>T3 f e=true->Q e) e;(case BoolOp=>exact k);all_goals (intros;exact ff (by assumption))
noncomputable def MU(f:Expr->Operator->Expr->re->wg)(e:Expr):wg:=by apply @Expr.casesOn (λz'=>wg) e;(case BinOp=>exact f);all_goals (intros;exact false)
@[elab_as_elim] theorem lQ{f:Expr->Operator->Expr->re->wg}{e:Expr}{Q:Expr->Prop}(h:MU f e=true)(k:∀x b c a,f x b c a=true->Q (.BinOp x b c a)):Q e:=by revert h;apply @Expr.casesOn (λe=>MU f e=true->Q e) e;(case BinOp=>exact k);all_goals (intros;exact ff (by assumption))
noncomputable def R3(f:UnaryOp->Expr->re->wg)(e:Expr):wg:=by apply @Expr.casesOn (λz'=>wg) e;(case UnaryOp=>exact f);all_goals (intros;exact false)
@[elab_as_elim] theorem G0{f:UnaryOp->Expr->re->wg}{e:Expr}{Q:Expr->Prop}(h:R3 f e=true)(k:∀x a b,f x a b=true->Q (.UnaryOp x a b)):Q e:=by revert h;apply @Expr.casesOn (λe=>R3 f e=true->Q e) e;(case UnaryOp=>exact k);all_goals (intros;exact ff (by assumption))
noncomputable def LU(f:Expr->Expr->Expr->re->wg)(e:Expr):wg:=by apply @Expr.casesOn (λz'=>wg) e;(case IfExp=>exact f);all_goals (intros;exact false)
@[elab_as_elim] theorem NY{f:Expr->Expr->Expr->re->wg}{e:Expr}{Q:Expr->Prop}(h:LU f e=true)(k:∀x b c a,f x b c a=true->Q (.IfExp x b c a)):Q e:=by revert h;apply @Expr.casesOn (λe=>LU f e=true->Q e) e;(case IfExp=>exact k);all_goals (intros;exact ff (by assumption))
noncomputable def iS(f:dg (gg Expr)->dg Expr->re->wg)(e:Expr):wg:=by apply @Expr.casesOn (λz'=>wg) e;(case Dict=>exact f);all_goals (intros;exact false)
@[elab_as_elim] theorem SW{f:dg (gg Expr)->dg Expr->re->wg}{e:Expr}{Q:Expr->Prop}(h:iS f e=true)(k:∀x a b,f x a b=true->Q (.Dict x a b)):Q e:=by revert h;apply @Expr.casesOn (λe=>iS f e=true->Q e) e;(case Dict=>exact k);all_goals (intros;exact ff (by assumption))
noncomputable def C4(f:Expr->dg zc->lf->re->wg)(e:Expr):wg:=by apply @Expr.casesOn (λz'=>wg) e;(case ListComp=>exact f);all_goals (intros;exact false)
@[elab_as_elim] theorem v5{f:Expr->dg zc->lf->re->wg}{e:Expr}{Q:Expr->Prop}(h:C4 f e=true)(k:∀x b c a,f x b c a=true->Q (.ListComp x b c a)):Q e:=by revert h;apply @Expr.casesOn (λe=>C4 f e=true->Q e) e;(case ListComp=>exact k);all_goals (intros;exact ff (by assumption))
noncomputable def BZ(f:Expr->dg CmpOp->dg Expr->re->wg)(e:Expr):wg:=by apply @Expr.casesOn (λz'=>wg) e;(case Compare=>exact f);all_goals (intros;exact false)
@[elab_as_elim] theorem TW{f:Expr->dg CmpOp->dg Expr->re->wg}{e:Expr}{Q:Expr->Prop}(h:BZ f e=true)(k:∀x b c a,f x b c a=true->Q (.Compare x b c a)):Q e:=by revert h;apply @Expr.casesOn (λe=>BZ f e=true->Q e) e;(case Compare=>exact k);all_goals (intros;exact ff (by assumption))
noncomputable def WW(f:Expr->dg Expr->dg Keyword->re->wg)(e:Expr):wg:=by apply @Expr.casesOn (λz'=>wg) e;(case Call=>exact f);all_goals (intros;exact false)
@[elab_as_elim] theorem VW{f:Expr->dg Expr->dg Keyword->re->wg}{e:Expr}{Q:Expr->Prop}(h:WW f e=true)(k:∀x b c a,f x b c a=true->Q (.Call x b c a)):Q e:=by revert h;apply @Expr.casesOn (λe=>WW f e=true->Q e) e;(case Call=>exact k);all_goals (intros;exact ff (by assumption))
noncomputable def V6(f:Const->yg->re->wg)(e:Expr):wg:=by apply @Expr.casesOn (λz'=>wg) e;(case Constant=>exact f);all_goals (intros;exact false)
@[elab_as_elim] theorem S3{f:Const->yg->re->wg}{e:Expr}{Q:Expr->Prop}(h:V6 f e=true)(k:∀x a b,f x a b=true->Q (.Constant x a b)):Q e:=by revert h;apply @Expr.casesOn (λe=>V6 f e=true->Q e) e;(case Constant=>exact k);all_goals (intros;exact ff (by assumption))
noncomputable def i6(f:Expr->Str->re->wg)(e:Expr):wg:=by apply @Expr.casesOn (λz'=>wg) e;(case Attribute=>exact f);all_goals (intros;exact false)
@[elab_as_elim] theorem M6{f:Expr->Str->re->wg}{e:Expr}{Q:Expr->Prop}(h:i6 f e=true)(k:∀x a b,f x a b=true->Q (.Attribute x a b)):Q e:=by revert h;apply @Expr.casesOn (λe=>i6 f e=true->Q e) e;(case Attribute=>exact k);all_goals (intros;exact ff (by assumption))
noncomputable def a8(f:Expr->Expr->re->wg)(e:Expr):wg:=by apply @Expr.casesOn (λz'=>wg) e;(case Subscript=>exact f);all_goals (intros;exact false)
@[elab_as_elim] theorem B8{f:Expr->Expr->re->wg}{e:Expr}{Q:Expr->Prop}(h:a8 f e=true)(k:∀x a b,f x a b=true->Q (.Subscript x a b)):Q e:=by revert h;apply @Expr.casesOn (λe=>a8 f e=true->Q e) e;(case Subscript=>exact k);all_goals (intros;exact ff (by assumption))
noncomputable def U6(f:Str->re->wg)(e:Expr):wg:=by apply @Expr.casesOn (λz'=>wg) e;(case Name=>exact f);all_goals (intros;exact false)
@[elab_as_elim] theorem g6{f:Str->re->wg}{e:Expr}{Q:Expr->Prop}(h:U6 f e=true)(k:∀x a,f x a=true->Q (.Name x a)):Q e:=by revert h;apply @Expr.casesOn (λe=>U6 f e=true->Q e) e;(case Name=>exact k);all_goals (intros;exact ff (by assumption))
noncomputable def hS(f:dg Expr->re->wg)(e:Expr):wg:=by apply @Expr.casesOn (λz'=>wg) e;(case List=>exact f);all_goals (intros;exact false)
@[elab_as_elim] theorem RW{f:dg Expr->re->wg}{e:Expr}{Q:Expr->Prop}(h:hS f e=true)(k:∀x a,f x a=true->Q (.List x a)):Q e:=by revert h;apply @Expr.casesOn (λe=>hS f e=true->Q e) e;(case List=>exact k);all_goals (intros;exact ff (by assumption))
noncomputable def d4(f:dg Expr->yg->re->wg)(e:Expr):wg:=by apply @Expr.casesOn (λz'=>wg) e;(case Tuple=>exact f);all_goals (intros;exact false)
@[elab_as_elim] theorem I7{f:dg Expr->yg->re->wg}{e:Expr}{Q:Expr->Prop}(h:d4 f e=true)(k:∀x a b,f x a b=true->Q (.Tuple x a b)):Q e:=by revert h;apply @Expr.casesOn (λe=>d4 f e=true->Q e) e;(case Tuple=>exact k);all_goals (intros;exact ff (by assumption))
noncomputable def O1(f:Expr->Expr->dg zc->lf->re->wg)(e:Expr):wg:=by apply @Expr.casesOn (λz'=>wg) e;(case DictComp=>exact f);all_goals (intros;exact false)
@[elab_as_elim] theorem tX{f:Expr->Expr->dg zc->lf->re->wg}{e:Expr}{Q:Expr->Prop}(h:O1 f e=true)(k:∀x c d b a,f x c d b a=true->Q (.DictComp x c d b a)):Q e:=by revert h;apply @Expr.casesOn (λe=>O1 f e=true->Q e) e;(case DictComp=>exact k);all_goals (intros;exact ff (by assumption))
noncomputable def KU(f:gg Expr->gg Expr->gg Expr->re->wg)(e:Expr):wg:=by apply @Expr.casesOn (λz'=>wg) e;(case Slice=>exact f);all_goals (intros;exact false)
@[elab_as_elim] theorem kQ{f:gg Expr->gg Expr->gg Expr->re->wg}{e:Expr}{Q:Expr->Prop}(h:KU f e=true)(k:∀x b c a,f x b c a=true->Q (.Slice x b c a)):Q e:=by revert h;apply @Expr.casesOn (λe=>KU f e=true->Q e) e;(case Slice=>exact k);all_goals (intros;exact ff (by assumption))
noncomputable def kZ(f:gg Expr->re->wg)(e:Xf):wg:=by apply @Stmt.casesOn (λz'=>wg) e;(case Return=>exact f);all_goals (intros;exact false)
@[elab_as_elim] theorem zZ{f:gg Expr->re->wg}{e:Xf}{Q:Xf->Prop}(h:kZ f e=true)(k:∀x a,f x a=true->Q (.Return x a)):Q e:=by revert h;apply @Stmt.casesOn (λe=>kZ f e=true->Q e) e;(case Return=>exact k);all_goals (intros;exact ff (by assumption))
noncomputable def lZ(f:dg Expr->re->wg)(e:Xf):wg:=by apply @Stmt.casesOn (λz'=>wg) e;(case Delete=>exact f);all_goals (intros;exact false)
@[elab_as_elim] theorem FU{f:dg Expr->re->wg}{e:Xf}{Q:Xf->Prop}(h:lZ f e=true)(k:∀x a,f x a=true->Q (.Delete x a)):Q e:=by revert h;apply @Stmt.casesOn (λe=>lZ f e=true->Q e) e;(case Delete=>exact k);all_goals (intros;exact ff (by assumption))
noncomputable def sX(f:dg Expr->Expr->re->wg)(e:Xf):wg:=by apply @Stmt.casesOn (λz'=>wg) e;(case Assign=>exact f);all_goals (intros;exact false)
@[elab_as_elim] theorem GU{f:dg Expr->Expr->re->wg}{e:Xf}{Q:Xf->Prop}(h:sX f e=true)(k:∀x a b,f x a b=true->Q (.Assign x a b)):Q e:=by revert h;apply @Stmt.casesOn (λe=>sX f e=true->Q e) e;(case Assign=>exact k);all_goals (intros;exact ff (by assumption))
noncomputable def yP(f:Expr->Expr->dg Xf->dg Xf->re->wg)(e:Xf):wg:=by apply @Stmt.casesOn (λz'=>wg) e;(case For=>exact f);all_goals (intros;exact false)
@[elab_as_elim] theorem fS{f:Expr->Expr->dg Xf->dg Xf->re->wg}{e:Xf}{Q:Xf->Prop}(h:yP f e=true)(k:∀x c d b a,f x c d b a=true->Q (.For x c d b a)):Q e:=by revert h;apply @Stmt.casesOn (λe=>yP f e=true->Q e) e;(case For=>exact k);all_goals (intros;exact ff (by assumption))
noncomputable def rX(f:Expr->dg Xf->dg Xf->re->wg)(e:Xf):wg:=by apply @Stmt.casesOn (λz'=>wg) e;(case While=>exact f);all_goals (intros;exact false)
@[elab_as_elim] theorem gQ{f:Expr->dg Xf->dg Xf->re->wg}{e:Xf}{Q:Xf->Prop}(h:rX f e=true)(k:∀x b c a,f x b c a=true->Q (.While x b c a)):Q e:=by revert h;apply @Stmt.casesOn (λe=>rX f e=true->Q e) e;(case While=>exact k);all_goals (intros;exact ff (by assumption))
noncomputable def uC(f:Expr->dg Xf->dg Xf->re->wg)(e:Xf):wg:=by apply @Stmt.casesOn (λz'=>wg) e;(case If=>exact f);all_goals (intros;exact false)
@[elab_as_elim] theorem xP{f:Expr->dg Xf->dg Xf->re->wg}{e:Xf}{Q:Xf->Prop}(h:uC f e=true)(k:∀x b c a,f x b c a=true->Q (.If x b c a)):Q e:=by revert h;apply @Stmt.casesOn (λe=>uC f e=true->Q e) e;(case If=>exact k);all_goals (intros;exact ff (by assumption))
noncomputable def Ih(f:Expr->re->wg)(e:Xf):wg:=by apply @Stmt.casesOn (λz'=>wg) e;(case Expr=>exact f);all_goals (intros;exact false)
@[elab_as_elim] theorem zP{f:Expr->re->wg}{e:Xf}{Q:Xf->Prop}(h:Ih f e=true)(k:∀x a,f x a=true->Q (.Expr x a)):Q e:=by revert h;apply @Stmt.casesOn (λe=>Ih f e=true->Q e) e;(case Expr=>exact k);all_goals (intros;exact ff (by assumption))
noncomputable def VS(e:Expr):wg:=Expr.casesOn (motive_1:=λz'=>wg) e (λa x b=>true) (λa x b=>true) (λa x b c=>true) (λa x b=>true) (λa x b c=>true) (λa x b c=>true) (λa x b=>true) (λa x b=>true) (λa x b c=>true) (λa x b c=>true) (λa x b c d=>true) (λa x b c=>true) (λa x=>true) (λa x=>true) (λa x=>true) (λa x b c=>true) (λa x b c=>true) (λa x b c=>true) (λa x=>true) (λa x b=>true) (λa x b=>true) (λa x b=>true) (λa x=>false) (λa x=>true) (λa x=>true) (λa x b=>true) (λa x b c=>true)
noncomputable def BO(e:Expr):wg:=Expr.casesOn (motive_1:=λz'=>wg) e (λa x b=>true) (λa x b=>true) (λa x b c=>true) (λa x b=>true) (λa x b c=>true) (λa x b c=>true) (λa x b=>true) (λa x b=>true) (λa x b c=>true) (λa x b c=>true) (λa x b c d=>true) (λa x b c=>true) (λa x=>true) (λa x=>true) (λa x=>true) (λa x b c=>true) (λa x b c=>false) (λa x b c=>true) (λa x=>true) (λa x b=>true) (λa x b=>true) (λa x b=>true) (λa x=>true) (λa x=>true) (λa x=>true) (λa x b=>true) (λa x b c=>true)
noncomputable def Zx(e:Expr):wg:=Expr.casesOn (motive_1:=λz'=>wg) e (λa x b=>true) (λa x b=>true) (λa x b c=>true) (λa x b=>true) (λa x b c=>true) (λa x b c=>true) (λa x b=>true) (λa x b=>true) (λa x b c=>true) (λa x b c=>true) (λa x b c d=>true) (λa x b c=>true) (λa x=>true) (λa x=>true) (λa x=>true) (λa x b c=>true) (λa x b c=>true) (λa x b c=>true) (λa x=>true) (λa x b=>true) (λa x b=>true) (λa x b=>true) (λa x=>true) (λa x=>true) (λa x=>true) (λa x b=>true) (λa x b c=>false)
noncomputable def vV(e:Expr):wg:=Expr.casesOn (motive_1:=λz'=>wg) e (λa x b=>true) (λa x b=>true) (λa x b c=>true) (λa x b=>true) (λa x b c=>true) (λa x b c=>true) (λa x b=>true) (λa x b=>false) (λa x b c=>true) (λa x b c=>true) (λa x b c d=>true) (λa x b c=>true) (λa x=>true) (λa x=>true) (λa x=>true) (λa x b c=>true) (λa x b c=>true) (λa x b c=>true) (λa x=>true) (λa x b=>true) (λa x b=>true) (λa x b=>true) (λa x=>true) (λa x=>true) (λa x=>true) (λa x b=>true) (λa x b c=>true)
noncomputable def W6(e:Expr):wg:=Expr.casesOn (motive_1:=λz'=>wg) e (λa x b=>true) (λa x b=>true) (λa x b c=>true) (λa x b=>true) (λa x b c=>true) (λa x b c=>true) (λa x b=>true) (λa x b=>true) (λa x b c=>false) (λa x b c=>false) (λa x b c d=>false) (λa x b c=>true) (λa x=>true) (λa x=>true) (λa x=>true) (λa x b c=>true) (λa x b c=>true) (λa x b c=>true) (λa x=>true) (λa x b=>true) (λa x b=>true) (λa x b=>true) (λa x=>true) (λa x=>true) (λa x=>true) (λa x b=>true) (λa x b c=>true)
noncomputable def uK(e:Expr):wg:=Expr.casesOn (motive_1:=λz'=>wg) e (λa x b=>true) (λa x b=>true) (λa x b c=>true) (λa x b=>true) (λa x b c=>true) (λa x b c=>true) (λa x b=>true) (λa x b=>true) (λa x b c=>true) (λa x b c=>true) (λa x b c d=>true) (λa x b c=>true) (λa x=>true) (λa x=>true) (λa x=>true) (λa x b c=>true) (λa x b c=>true) (λa x b c=>true) (λa x=>true) (λa x b=>true) (λa x b=>true) (λa x b=>true) (λa x=>true) (λa x=>true) (λa x=>true) (λa x b=>false) (λa x b c=>true)
theorem H4{o v:zg}{e:Expr}(h:Zx e=true):gb e false o v=Û [o,v] (Ă o v):=by revert h;apply @Expr.casesOn (λe=>Zx e=true->gb e false o v=Û [o,v] _) e;all_goals (intros;first|rfl|exact ff (by assumption))
theorem V7{es:dg Expr}{env:Ia}{e:Expr}(h:VS e=true):Ae (e::es) env=(false,Nc e env)::Ae es env:=(Expr.casesOn (motive_1:=λe=>VS e=true->Ae (e::es) _=(false,Nc e _)::Ae _ _) e (λx z' z' h=>Ug _) (λx z' z' h=>Ug _) (λx z' z' z' h=>Ug _) (λx z' z' h=>Ug _) (λx z' z' z' h=>Ug _) (λx z' z' z' h=>Ug _) (λx z' z' h=>Ug _) (λx z' z' h=>Ug _) (λx z' z' z' h=>Ug _) (λx z' z' z' h=>Ug _) (λx z' z' z' z' h=>Ug _) (λx z' z' z' h=>Ug _) (λx z' h=>Ug _) (λx z' h=>Ug _) (λx z' h=>Ug _) (λx z' z' z' h=>Ug _) (λx z' z' z' h=>Ug _) (λx z' z' z' h=>Ug _) (λx z' h=>Ug _) (λx z' z' h=>Ug _) (λx z' z' h=>Ug _) (λx z' z' h=>Ug _) (λx z' h=>ff h) (λx z' h=>Ug _) (λx z' h=>Ug _) (λx z' z' h=>Ug _) (λx z' z' z' h=>Ug _)) h
theorem n4{t:gg Expr}{l:yg}{env:Ia}{e:Expr}(h:W6 e=true):Ce e t l env=pure false:=by revert h;apply @Expr.casesOn (λe=>W6 e=true->Ce e t l _=pure _) e;all_goals (intros;first|rfl|exact ff (by assumption))
theorem mT{o:CmpOp}{e:Expr}(h:vV e=true):Ub o e=false:=by revert h;apply @Expr.casesOn (λe=>vV e=true->Ub _ e=false) e;all_goals (intros;first|rfl|exact ff (by assumption))
theorem YY{env:Ia}{x:zg}{e:Expr}(h:vV e=true):Tb e env x=pure x:=by revert h;apply @Expr.casesOn (λe=>vV e=true->Tb e _ x=pure x) e;all_goals (intros;first|rfl|exact ff (by assumption))
theorem tK{t:dg Expr}{k:yg}{p:re}{env:Ia}{e:Expr}(h:uK e=true):xd [.Tuple t k p] e env=pure none:=(Expr.casesOn (motive_1:=λe=>uK e=true->xd [.Tuple _ k p] e _=pure _) e (λx z' z' h=>Ug _) (λx z' z' h=>Ug _) (λx z' z' z' h=>Ug _) (λx z' z' h=>Ug _) (λx z' z' z' h=>Ug _) (λx z' z' z' h=>Ug _) (λx z' z' h=>Ug _) (λx z' z' h=>Ug _) (λx z' z' z' h=>Ug _) (λx z' z' z' h=>Ug _) (λx z' z' z' z' z'=>Ug (pure _)) (λx z' z' z' h=>Ug _) (λx z' h=>Ug _) (λx z' h=>Ug _) (λx z' h=>Ug _) (λx z' z' z' h=>Ug _) (λx z' z' z' h=>Ug _) (λx z' z' z' h=>Ug _) (λx z' h=>Ug _) (λx z' z' h=>Ug _) (λx z' z' h=>Ug _) (λx z' z' h=>Ug _) (λx z' h=>Ug _) (λx z' h=>Ug _) (λx z' h=>Ug _) (λx z' z' h=>ff h) (λx z' z' z' h=>Ug _)) h
theorem j0{x:Str}{env:Ia}{w:Ra zg}{e:Expr}(h:BO e=true):Rd e x env w=w:=by revert h;apply @Expr.casesOn (λe=>BO e=true->Rd e x _ w=w) e;all_goals (intros;first|rfl|exact ff (by assumption))
theorem US{e:Expr}(h:VS e=true):iI e=false:=by revert h;apply @Expr.casesOn (λe=>VS e=true->iI e=false) e;all_goals (intros;first|rfl|exact ff (by assumption))
noncomputable def Nv(env:Ia)(l:yg)(e:Expr):gg Str:=swappedStores.match_8 (λx=>gg Str) e (λid pos=>if(env.kindOf id==some .local&&pos.line==l)=true then some id else none) λx=>none
@[elab_as_elim] theorem RG{env:Ia}{l:yg}{e:Expr}{Q:Expr->Prop}(h:(Nv env l e).isSome=true)(k:∀id pos,(if(env.kindOf id==some .local&&pos.line==l)=true then some id else none).isSome=true->Q (.Name id pos)):Q e:=(Expr.casesOn (motive_1:=λe=>(Nv _ l e).isSome=true->Q e) e (λx z' z' (h:false=true)=>ff h) (λx z' z' (h:false=true)=>ff h) (λx z' z' z' (h:false=true)=>ff h) (λx z' z' (h:false=true)=>ff h) (λx z' z' z' (h:false=true)=>ff h) (λx z' z' z' (h:false=true)=>ff h) (λx z' z' (h:false=true)=>ff h) (λx z' z' (h:false=true)=>ff h) (λx z' z' z' (h:false=true)=>ff h) (λx z' z' z' (h:false=true)=>ff h) (λx z' z' z' z' (h:false=true)=>ff h) (λx z' z' z' (h:false=true)=>ff h) (λx z' h=>ff h) (λx z' h=>ff h) (λx z' h=>ff h) (λx z' z' z' (h:false=true)=>ff h) (λx z' z' z' (h:false=true)=>ff h) (λx z' z' z' (h:false=true)=>ff h) (λx z' h=>ff h) (λx z' z' (h:false=true)=>ff h) (λx z' z' (h:false=true)=>ff h) (λx z' z' (h:false=true)=>ff h) (λx z' h=>ff h) (λx a h=>k _ _ h) (λx z' h=>ff h) (λx z' z' (h:false=true)=>ff h) (λx z' z' z' (h:false=true)=>ff h)) h
structure Ck where
 e:lf->Expr->wg
 l:lf->dg Expr->wg
 t:lf->Expr->wg
 o:lf->Expr->wg
 c:lf->Expr->wg
 p:lf->dg (gg Expr)->dg Expr->wg
 b:lf->dg Xf->wg
 z:wg
noncomputable def Ck.F:Ck:=⟨λs e=>false,λs e=>false,λs e=>false,λs e=>false,λs e=>false,λs k e=>false,λs e=>false,false⟩
noncomputable def Ck.E(f:lf->Expr->wg):Ck:={Ck.F with e:=f}
noncomputable def Ck.O(f:lf->Expr->wg):Ck:={Ck.F with o:=f}
noncomputable def Ck.T(f:lf->Expr->wg):Ck:={Ck.F with t:=f}
noncomputable def Ck.B(f:lf->dg Xf->wg):Ck:={Ck.F with b:=f}
noncomputable def O2.op:O2->Operator
 | .add=> .Add
 | .sub=> .Sub
 | .mul=> .Mult
 | .mod=> .Mod
 | .fdiv=> .FloorDiv
noncomputable def C2.op:C2->CmpOp
 | .eq=> .Eq
 | .ne=> .NotEq
 | .lt=> .Lt
 | .le=> .LtE
 | .gt=> .Gt
 | .ge=> .GtE
 | .isin=> .In
 | .notin=> .NotIn
 | .isv=> .Is
 | .isnot=> .IsNot
noncomputable def BF.nm:BF->Str
 | .len=>S "len"
 | .sorted=>S "sorted"
 | .list=>S "list"
 | .tuple=>S "tuple"
 | .range=>S "range"
 | .min=>S "min"
 | .max=>S "max"
 | .int=>S "int"
noncomputable def LM.nm:LM->Str
 | .append=>S "append"
 | .extend=>S "extend"
 | .pop=>S "pop"
 | .get=>S "get"
noncomputable def iy(k:gg jb):wg:=decide (k=some .globalImplicit)
noncomputable def iw(c:Const)(d:vg):wg:=match d with
 | .none=>decide (c= .none)
 | .bool b=>decide (c= .bool b)
 | .int i=>decide (c= .int i)
 | .str s=>decide (c= .str s)&&Ud s
 |_=>false
noncomputable def bT(o i:lf):lf:={i with names:=i.names.map λ(n,k)=>if(k== .free&&o.kind== .function&&o.names.lookup n==some .cell) then(n,.cell) else(n,k)}
noncomputable def TH(o i:lf):wg:=decide (i.kind= .function)&&i.names.all λy=>decide (y.2≠ .cell)&&(decide (y.2≠ .local)||decide (i.names.lookup y.1=some .local))&&(decide (y.2≠ .free)||decide (o.names.lookup y.1=some .cell))
noncomputable def AN(m:Ck)(s:lf):dg Expr->wg
 |[]=>m.z
 |[e]=> !m.z&&m.t s e
 |_=>false
noncomputable def SG(s:lf)(vs:dg Str)(i:yg)(e:Expr):wg:=U6 (λx p=>decide (x=vn vs i)&&XZ (s.names.lookup x)&&decide (x≠S "__debug__")&&decide (x≠S "__classdict__")) e
noncomputable def iL(s:lf)(vs:dg Str)(i:yg)(e:Expr):wg:=U6 (λx p=>decide (x=vn vs i)&&b6 (s.names.lookup x)) e
noncomputable def wS(s:lf)(vs:dg Str)(b:dg yg)(a:dg Expr):wg:=match b,a with
 |[],[]=>true
 |i::b,t::a=>iL s vs i t&&wS s vs b a
 |_,_=>false
noncomputable def bw(s:lf)(n:yg)(t:Expr):wg:=U6 (λx p=>decide (s.names.lookup x=some .local)&&p.line==n) t
noncomputable def Ow(s:lf)(t es:dg Expr):wg:=(t.length==2||t.length==3)&&es.length==t.length&&es.all VS&&(t.all (bw s ((t.head?.map (·.pos.line)).getD 0)))&& !es.all (foldedForSure 8)&& !es.all (constantsAlone 8)
noncomputable def OG(s:lf)(t es:dg Expr):wg:= !(t.all (bw s ((t.head?.map (·.pos.line)).getD 0)))&&es.all VS
noncomputable def gl(s:lf)(x:Str)(f:Expr)(es:dg Expr):wg:=U6 (λy p=>decide (y=x)&&iy (s.names.lookup x)&&decide (x≠S "__debug__")&&es.all VS) f
noncomputable def mt(x:Str)(f:Expr)(es:dg Expr)(pos:re)(k:Expr->wg):wg:=i6 (λo y a=>decide (y=x)&&BO o&&es.all VS&&a.endLine==pos.line&&č es.length 30&&k o) f
noncomputable def nP(k:Expr->dg Expr->re->wg):Expr->wg:=WW λx es a pos=>a.isEmpty&&k x es pos
noncomputable def hd(w:Xf->wg)(k:dg Xf->wg)(a:dg Xf):wg:=match a with
 |s::a=>w s&&k a
 |[]=>false
noncomputable def IX(k:Expr->wg):dg Expr->wg
 |[t]=>k t
 |_=>false
noncomputable def rY(k:Expr->Expr->re->wg):Xf->wg:=sX λa e pos=>IX (λt=>k t e pos) a
noncomputable def cL(s:lf)(vs:dg Str)(o:wg)(a:dg yg)(t:Expr):wg:=match o with
 |true=>(match a with
  |[i]=>iL s vs i t
  |_=>false)
 |false=>d4 (λb k p=>wS s vs a b) t
noncomputable def zy(vs:dg Str)(c:dg yg)(a:wg)(i body:Ck)(s:lf):Xf->wg:=yP λt iter b o p=>cL s vs a c t&&vV iter&&o.isEmpty&&i.e s iter&&body.b s b
noncomputable def bE(vs:dg Str)(s:lf)(is:dg yg)(one:wg)(it:Ck)(fv:dg yg)(gs:dg zc)(sc:lf)(k:lf->dg Expr->wg):wg:=match gs with
 |[⟨t,iter,fs,d⟩]=>decide (d=0)&&cL (bT s sc) vs one is t&&TH s sc&&(is.all λi=>decide (sc.names.lookup (vn vs i)=some .local))&&vV iter&&it.e s iter&&k (bT s sc) fs&&fv.all λi=> !is.contains i&&decide ((bT s sc).names.lookup (vn vs i)≠some .local)
 |_=>false
noncomputable def JX(vs:dg Str)(s:lf)(d:dg yg)(o:wg)(e a i:Ck)(f:dg yg):Expr->wg:=C4 λc g b p=>bE vs s d o a f g b λr fs=>e.e r c&&AN i r fs
noncomputable def oK(vs:dg Str)(s:lf)(d:dg yg)(o:wg)(k v i:Ck)(f:dg yg):Expr->wg:=O1 λa b g c p=>bE vs s d o i f g c λr fs=>k.e r a&&v.e r b&&fs.isEmpty
noncomputable def GD(s:lf)(x:Str)(p:re):Expr->wg:=C4 λel gs sc q=>(s.names.lookup x==some .local)&&p.line==q.line&& !(sc.names.any λ(n,k)=>n==x&&(k== .local||k== .cell))
noncomputable def QE(c:C2)(m v:Ck)(s:lf):Expr->wg:=BZ λl a b p=>match a,b with
 |[o],[r]=>decide (o=c.op)&&vV r&&m.e s l&&v.e s r
 |_,_=>false
noncomputable def NH(up:wg)(m v:Ck)(s:lf):Expr->wg:=a8 λo i p=>KU (λa b c q=>match up with
 |true=>a.isNone&&c.isNone&&b.any (v.e s)&&m.e s o
 |false=>a.isNone&&b.isNone&&c.any (v.e s)&&m.e s o) i
noncomputable def fq(O:BoolOp)(m v:Ck)(s:lf):Expr->wg:=T3 λo es p=>match es with
 |[a,b]=>decide (o=O)&&m.t s a&&v.t s b
 |a::b::c::r=>decide (o=O)&&m.t s a&&v.t s (.BoolOp O (b::c::r) p)
 |_=>false
noncomputable def Nr(m:Ck)(s:lf):Expr->wg:=iS λk es p=>k.all (·.isSome)&&(k.length==es.length)&&č 0 k.length&&dc k.length 15&&m.p s k es
noncomputable def d0:lf->Expr->wg:=λs=>iS λk es p=>k.isEmpty&&es.isEmpty
noncomputable def Nh(k:dg Expr->dg Expr->wg)(t e:Expr):wg:=d4 (λa n p=>d4 (λes m q=>k a es) e) t
noncomputable def VT(vs:dg Str)(s:lf)(y i:yg)(t:Expr):wg:=i6 (λo x p=>SG s vs y o&&decide (x=an i)&&decide (i<30)) t
noncomputable def WF(s:lf)(x:Str):wg:=decide (s.names.lookup x=some .cell)
noncomputable def FJ(a:O2)(m v:Ck)(s:lf):Expr->wg:=MU λl o r p=>decide (o=a.op)&&m.e s l&&v.e s r
noncomputable def Mp:Tg->Str
 | .house=>S "Congruence"
 |_=>S "Bank"
noncomputable def Xr(vs:dg Str)(k:K0):Ck:=match k with
 | .var i=> .E λs=>SG s vs i
 | .con d=> .E λs=>V6 λc k p=>iw c d
 | .JI k=> .E λs=>U6 λx p=>decide (x=(pg.gd k).1)&&iy (s.names.lookup x)&&decide (x≠S "__debug__")&&decide (k<5)
 | .nil=>{Ck.F with
   l:=λs es=>es.isEmpty
   p:=λs f es=>f.isEmpty&&es.isEmpty
   b:=λs a=>a.isEmpty
   z:=true}
 | .dI=> .O d0
 | .dL=> .O d0
 | .dT=> .O d0
 | .fZ=> .B λs=>hd (kZ λe p=>e.isNone) λa=>true
 | .bad=> .B λs a=>true
noncomputable def Wr(vs:dg Str)(k:K1)(m:Ck):Ck:=match k with
 | .I6 i=> .E λs=>i6 λo x p=>decide (x=an i)&&decide (i<30)&&BO o&&m.e s o
 | .neg=> .E λs=>R3 λo x p=>decide (o= .USub)&&m.e s x
 | .one=> .E λs=>T3 λo es p=>IX (m.e s) es
 | .tup=> .E λs=>d4 λes k p=>m.l s es
 | .lst=>{Ck.F with
   e:=λs=>hS λes p=>m.l s es
   o:=λs=>hS λes p=>m.l s es}
 | .blt f=> .E λs=>nP λx es p=>gl s f.nm x es&&m.l s es
 | .VF=> .E λs=>nP λx es p=>match es with
   |[a,y]=>gl s (S "isinstance") x [a,y]&&gl s (S "list") y []&&m.e s a
   |_=>false
 | .fP=> .E λs=>nP λx es p=>IX (λa=>gl s (S "sorted") x [a]&&m.e s a) es
 | .LH=> .E λs=>nP λx es p=>IX (λy=>gl s (S "sorted") x [y]&&nP (λx es p=>IX (λa=>gl s (S "set") x [a]&&m.e s a) es) y) es
 | .new τ id=> .E λs=>nP λx es p=>gl s (Mp τ) x es&&m.l s es
 | .fn id=> .E λs=>nP λx es p=>decide (72<=id)&&decide (id<86)&&gl s (pg.nm id) x es&&m.l s es
 | .own τ=> .E m.o
 | .dS=> .O (Nr m)
 | .dN=> .O (Nr m)
 | .fz=>{Ck.F with e:=m.e,o:=m.o}
 | .val=> .T λs e=>(U6 (λx p=>true) e||WW (λx y z p=>true) e)&&m.e s e
 | .not=> .T λs=>R3 λo x p=>decide (o= .Not)&&m.t s x
 | .ret=> .B λs=>hd (kZ λe p=>e.any (m.e s)) λb=>true
 | .rel i=> .B m.b
noncomputable def Vr(vs:dg Str)(k:K2)(d m:Ck):Ck:=match k with
 | .sub=> .E λs=>a8 λo i p=>Zx i&&d.e s o&&m.e s i
 | .bin w=>{Ck.F with e:=FJ w d m,o:=FJ w d m}
 | .cmp w=>{Ck.F with e:=QE w d m,t:=QE w d m}
 | .DW=> .E λs=>T3 λo es p=>match es with
   |e1::v::rest=>decide (o= .And)&&d.e s e1&&m.e s (.BoolOp .And (v::rest) p)
   |_=>false
 | .cons=>{Ck.F with l:=λs es=>match es with
   |e::es=>VS e&&d.e s e&&m.l s es
   |_=>false}
 | .zip=> .E λs=>nP λx es p=>IX (λy=>gl s (S "list") x [y]&&nP (λx es p=>match es with
   |[a,b]=>gl s (S "zip") x [a,b]&&(d.e s a&&m.e s b)
   |_=>false) y) es
 | .eZ y x τ=> .B λs=>hd (rY λt e p=>a8 (λo i q=>SG s vs y o&&V6 (λc k p=>iw c (.str x)) i) t&&d.o s e) (m.b s)
 | .met id=> .E λs=>nP λx es pos=>mt (pg.nm id) x es pos λe=>d.e s e&&m.l s es
 | .lm f=> .E λs=>nP λx es pos=>mt f.nm x es pos λe=>d.e s e&&m.l s es
 | .qU=>{Ck.F with e:=NH true d m,o:=NH true d m}
 | .fL=> .E (NH false d m)
 | .and=> .T (fq .And d m)
 | .or=> .T (fq .Or d m)
 | .ex=> .B λs=>hd (Ih λe p=>W6 e&&d.e s e) (m.b s)
 | .set i=> .B λs=>hd (rY λt e p=>iL s vs i t&&(W6 e||WF s (vn vs i))&&d.e s e) (m.b s)
 | .n6 g=> .B λs=>hd (rY λt e p=>W6 e&&uK e&&cL s vs false g t&&d.e s e) (m.b s)
 | .dV g=> .B λs=>hd (rY λt e p=>Nh (λu es=>wS s vs g u&&Ow s u es&&(g.map (vn vs)).eraseDups.length==g.length&&d.l s es) t e) (m.b s)
 | .fV g=> .B λs=>hd (rY λt e p=>Nh (λu es=>wS s vs g u&&OG s u es&&d.l s es) t e) (m.b s)
 | .EY i=> .B λs=>hd (rY λt e p=>U6 (λx q=>decide (x=vn vs i)&&GD s x q e) t&&d.c s e) (m.b s)
 | .DY i τ=> .B λs=>hd (rY λt e p=>U6 (λx q=>decide (x=vn vs i)&&GD s x q e) t&&d.c s e) (m.b s)
 | .V4 y i=> .B λs=>hd (rY λt e p=>VT vs s y i t&&d.e s e) (m.b s)
 | .eV y i τ=> .B λs=>hd (rY λt e p=>VT vs s y i t&&d.o s e) (m.b s)
 | .X3 y i j κ=> .B λs=>hd (rY λt e p=>a8 (λo x q=>VT vs s y i o&&SG s vs j x) t&&W6 e&&d.o s e) (m.b s)
noncomputable def Ur(vs:dg Str)(k:K3)(f m d:Ck):Ck:=match k with
 | .ite=> .E λs=>LU λx a b p=>f.t s x&&m.e s a&&d.e s b
 | .pr=>{Ck.F with p:=λs h es=>match h,es with
   |some x::h,e::es=>f.e s x&&m.e s e&&d.p s h es
   |_,_=>false}
 | .comp u n v=>{Ck.F with
   e:=λs=>JX vs s u n f m d v
   o:=λs=>JX vs s u n f m d v
   c:=λs=>JX vs s u n f m d v}
 | .lY u n v=> .O λs=>oK vs s u n f m d v
 | .del=> .B λs=>hd (lZ λr p=>IX (a8 λo i q=>f.e s o&&m.e s i) r) (d.b s)
 | .cY z u n g=> .B λs=>hd (zy vs u n f m s) (d.b s)
 | .OV i g=> .B λs=>hd (yP λt iter j l p=>l.isEmpty&&iL s vs i t&&d4 (λes k p=>f.l s es) iter&&m.b s j) (d.b s)
 | .CU g=> .B λs=>hd (rX λx j l p=>l.isEmpty&&f.t s x&&m.b s j) (d.b s)
noncomputable def Tr(vs:dg Str)(k:K4)(c d m f:Ck):Ck:=match k with
 | .W1=> .B λs=>hd (rY λt e p=>a8 (λo i q=>d.e s o&&m.e s i) t&&W6 e&&c.e s e) (f.b s)
 | .ifs=> .B λs=>hd (uC λx a b p=>c.t s x&&d.b s a&&m.b s b) (f.b s)
noncomputable def A7(vs:dg Str)(m:M):Ck:=M.rec (Xr vs) (λk z' p=>Wr vs k p) (λk z' z' p q=>Vr vs k p q) (λk z' z' z' p q r=>Ur vs k p q r) (λk z' z' z' z' p q r s=>Tr vs k p q r s) m
section
variable{P:y8}{vs:dg Str}{c c':IC}{u:Mo}{τ:Tg}{o:d9}{a b r v:AV}{i j k:yg}{ρ:dg (yg×AV)}{σ:Tg->gg d9}
theorem l9{a b:wg}(h:(a&&b)=true):a=true/\b=true:=(Sg a b).mp h
theorem o9{e:Type}{x:gg e}{Q:e->Prop}(h:rd x Q):∃a,x=some a/\Q a:=by
 cases x with
 |none=>exact h.elim
 |some a=>exact⟨a,rfl,h⟩
theorem z9{b:wg}{Q:Prop}(h:ck b Q):b=true/\Q:=by
 cases b with
 |false=>exact h.elim
 |true=>exact⟨rfl,h⟩
theorem oY{b:wg}{Q R:Prop}(h:br b Q R):(b=true/\Q)\/(b=false/\R):=by
 cases b with
 |false=>exact .inr ⟨rfl,h⟩
 |true=>exact .inl ⟨rfl,h⟩
theorem L9{e:Type}{x:gg e}{Q:e->Prop}{R:Prop}(h:ph x Q R):(∃a,x=some a/\Q a)\/(x=none/\R):=by
 cases x with
 |none=>exact .inr ⟨rfl,h⟩
 |some a=>exact .inl ⟨a,rfl,h⟩
theorem D8{e:Type}{x:e}{Q:Prop}(h:none=some x):Q:=(by nomatch h)
theorem S6{a:AV}{i:vg}(h:AV.dat? a=some i):a= .a9 i:=(AV.casesOn (motive:=λz=>AV.dat? z=some i->z= .a9 i) a (λx h=>eg _ (ig h)) (λx h=>D8 h) (λx h=>D8 h) (λx z' z' h=>D8 h) (λx h=>D8 h) (λx h=>D8 h)) h
theorem o6{a:AV}{i:Tg}(h:AV.obj? a=some i):a= .g9 i:=(AV.casesOn (motive:=λz=>AV.obj? z=some i->z= .g9 i) a (λx h=>D8 h) (λx h=>eg _ (ig h)) (λx h=>D8 h) (λx z' z' h=>D8 h) (λx h=>D8 h) (λx h=>D8 h)) h
theorem cO{a:AV}{i:kg}(h:AV.rng? a=some i):a= .range i:=(AV.casesOn (motive:=λz=>AV.rng? z=some i->z= .range i) a (λx h=>D8 h) (λx h=>D8 h) (λx h=>eg _ (ig h)) (λx z' z' h=>D8 h) (λx h=>D8 h) (λx h=>D8 h)) h
theorem oZ{d:vg}{i:kg}(h:nV d=some i):d= .int i:=(PyData.casesOn (motive_1:=λz=>nV z=some i->z= .int i) d (λh=>D8 h) (λx h=>D8 h) (λx h=>eg _ (ig h)) (λx h=>D8 h) (λx h=>D8 h) (λx h=>D8 h) (λx h=>D8 h)) h
theorem KS{d:vg}{i:Str}(h:iK d=some i):d= .str i:=(PyData.casesOn (motive_1:=λz=>iK z=some i->z= .str i) d (λh=>D8 h) (λx h=>D8 h) (λx h=>D8 h) (λx h=>eg _ (ig h)) (λx h=>D8 h) (λx h=>D8 h) (λx h=>D8 h)) h
theorem kO{d:vg}{i:wg}(h:mO d=some i):d= .bool i:=(PyData.casesOn (motive_1:=λz=>mO z=some i->z= .bool i) d (λh=>D8 h) (λx h=>eg _ (ig h)) (λx h=>D8 h) (λx h=>D8 h) (λx h=>D8 h) (λx h=>D8 h) (λx h=>D8 h)) h
theorem JS{d:vg}{i:dg vg}(h:hK d=some i):d= .tuple i:=(PyData.casesOn (motive_1:=λz=>hK z=some i->z= .tuple i) d (λh=>D8 h) (λx h=>D8 h) (λx h=>D8 h) (λx h=>D8 h) (λx h=>D8 h) (λx h=>eg _ (ig h)) (λx h=>D8 h)) h
theorem lK{d:vg}{i:dg vg}(h:yG d=some i):d= .list i:=(PyData.casesOn (motive_1:=λz=>yG z=some i->z= .list i) d (λh=>D8 h) (λx h=>D8 h) (λx h=>D8 h) (λx h=>D8 h) (λx h=>eg _ (ig h)) (λx h=>D8 h) (λx h=>D8 h)) h
theorem zh{o:d9}{i:wg×dg AV}(h:d9.ls? o=some i):o= .list i.1 i.2:=(d9.casesOn (motive:=λz=>d9.ls? z=some i->z= .list _ _) o (λx z' h=>eg (λp=>d9.list p.1 p.2) (ig h)) (λx z' h=>D8 h) (λx z' h=>D8 h) (λx h=>D8 h) (λx h=>D8 h) (λx z' h=>D8 h)) h
theorem W0{o:d9}{i:wg×(kg->gg AV)}(h:d9.dI? o=some i):o= .p9 i.1 i.2:=(d9.casesOn (motive:=λz=>d9.dI? z=some i->z= .p9 _ _) o (λx z' h=>D8 h) (λx z' h=>eg (λp=>d9.p9 p.1 p.2) (ig h)) (λx z' h=>D8 h) (λx h=>D8 h) (λx h=>D8 h) (λx z' h=>D8 h)) h
theorem y3{o:d9}{i:wg×dg (kg×AV)}(h:d9.dL? o=some i):o= .M9 i.1 i.2:=(d9.casesOn (motive:=λz=>d9.dL? z=some i->z= .M9 _ _) o (λx z' h=>D8 h) (λx z' h=>D8 h) (λx z' h=>eg (λp=>d9.M9 p.1 p.2) (ig h)) (λx h=>D8 h) (λx h=>D8 h) (λx z' h=>D8 h)) h
theorem NR{o:d9}{i:dg KI->gg AV}(h:d9.dT? o=some i):o= .V9 i:=(d9.casesOn (motive:=λz=>d9.dT? z=some i->z= .V9 i) o (λx z' h=>D8 h) (λx z' h=>D8 h) (λx z' h=>D8 h) (λx h=>eg _ (ig h)) (λx h=>D8 h) (λx z' h=>D8 h)) h
theorem pM{o:d9}{i:Str->gg AV}(h:d9.dS? o=some i):o= .w8 i:=(d9.casesOn (motive:=λz=>d9.dS? z=some i->z= .w8 i) o (λx z' h=>D8 h) (λx z' h=>D8 h) (λx z' h=>D8 h) (λx h=>D8 h) (λx h=>eg _ (ig h)) (λx z' h=>D8 h)) h
theorem pR{o:d9}{i:yg×dg (yg×AV)}(h:d9.in? o=some i):o= .inst i.1 i.2:=(d9.casesOn (motive:=λz=>d9.in? z=some i->z= .inst _ _) o (λx z' h=>D8 h) (λx z' h=>D8 h) (λx z' h=>D8 h) (λx h=>D8 h) (λx h=>D8 h) (λx z' h=>eg (λp=>d9.inst p.1 p.2) (ig h))) h
section
variable{d:vg}
theorem vK(h:isNone d=true):d= .none:=by
 cases d with
 |none=>rfl
 |_=>cases h
end
theorem eU{e:Type}{f:vg->gg e}{g:e->vg}(l:∀d x,f d=some x->d=g x){x:e}(h:a.dat?.bind f=some x):a= .a9 (g x):=
 (Option.bind_eq_some_iff.mp h).elim λd z=>(S6 z.1).trans (eg _ (l d x z.2))
theorem s8{i:kg}(h:a.int?=some i):a= .a9 (.int i):=eU (λz' z'=>oZ) h
theorem UU{i:Str}(h:a.str?=some i):a= .a9 (.str i):=eU (λz' z'=>KS) h
theorem vZ{i:wg}(h:a.bool?=some i):a= .a9 (.bool i):=eU (λz' z'=>kO) h
theorem j6{i:dg vg}(h:a.tup?=some i):a= .a9 (.tuple i):=eU (λz' z'=>JS) h
theorem G3{i:dg vg}(h:a.lst?=some i):a= .a9 (.list i):=eU (λz' z'=>lK) h
theorem CZ{Q:kg->kg->Prop}(h:two a b Q):∃i j,a= .a9 (.int i)/\b= .a9 (.int j)/\Q i j:=
 (o9 h).elim λi h=>(o9 h.2).elim λj q=>⟨i,j,s8 h.1,s8 q.1,q.2⟩
theorem uZ{as:dg AV}{Q:dg vg->Prop}(h:aU as Q):∃ds,as=ds.map .a9/\Q ds:=by
 induction as generalizing Q with
 |nil=>exact⟨[],rfl,h⟩
 |cons a _ i=>exact(o9 h).elim λd h=>(i h.2).elim λds q=>⟨d::ds,List.cons_eq_cons.mpr ⟨S6 h.1,q.1⟩,q.2⟩
structure v4(vs:dg Str):Prop where
 nd:vs.Nodup
 sm:∀s∈vs,∀k,s≠⟨#[1114112+k]⟩
theorem JU(V:v4 vs)(e:vn vs i=vn vs j):i=j:=by
 unfold vn at e;cases f:vs[i]? with
 |none=>cases h:vs[j]? with
  |none=>
   haveI e:=f▸e;haveI e:=h▸e;haveI e:=eg (λs=>s.cps[0]?) e;exact Qe (ig e)
  |some s=>rw [f,h] at e;exact absurd e.symm (V.sm s (qe h) i)
 |some s=>cases h:vs[j]? with
  |none=>rw [f,h] at e;exact absurd e (V.sm s (qe f) j)
  |some t=>
   haveI e:=f▸e;have e:=h▸e;refine zE (List.getElem?_eq_some_iff.mp f) λl f=> ?_;refine zE (List.getElem?_eq_some_iff.mp h) λm h=> ?_;exact(List.getElem_inj V.nd).mp (f.trans (Eq.trans e h.symm))
theorem O0(V:v4 vs):(yY vs ρ).lookup (vn vs i)=ρ.lookup i:=by
 induction ρ with
 |nil=>rfl
 |cons p r f=>
  refine rL xf (rL xf (rL f ?_));by_cases q:i=p.1
  ·refine rL q ?_;rw [jf,jf]
  ·exact rL (gf q) (rL (gf λe=>q (JU V e)) rfl)
theorem CO(V:v4 vs):W9 (yY vs ρ) (vn vs i) a=yY vs (W9 ρ i a):=by
 unfold yY;induction ρ with
 |nil=>rfl
 |cons p r f=>
  refine rL Cf ?_;unfold W9;by_cases q:p.1=i
  ·refine rL (xg q) (rL (xg (eg _ q)) ?_);rfl
  ·refine rL (og q) (rL (og λe=>q (JU V e)) (rL f ?_));rfl
theorem ZS{x:Str}(h:(yY vs ρ).lookup x=some v):∃p∈ρ,x=vn vs p.1/\p.2=v:=by
 unfold yY at h;induction ρ with
 |nil=>cases h
 |cons p r i=>
  rw [Cf,xf] at h;split at h
  ·rename_i e;exact⟨p,.head _,eq_of_beq e,ig h⟩
  ·exact(i h).imp λq z=>⟨.tail _ z.1,z.2⟩
theorem MZ{p:AV->wg}{U:Tg->Prop}(h:(ρ.all λq=>p q.2)=true)(hp:∀v,p v=true->v.keeps U){x:Str}(e:(yY vs ρ).lookup x=some v):v.keeps U:=
 (ZS e).elim λq z=>z.2.2▸hp _ (List.all_eq_true.mp h q z.1)
theorem MK{f:dg yg}{p:yg×AV}(h:p∈O5 f ρ):p.1∈f/\ρ.lookup p.1=some p.2:=by
 refine O8 (List.mem_filterMap.mp h) λi m e=>(O8 (Option.map_eq_some_iff.mp e) λa e q=> ?_);exact q▸⟨m,e⟩
theorem R2(V:v4 vs){f:dg yg}{x:Str}(h:(yY vs (O5 f ρ)).lookup x=some v):(yY vs ρ).lookup x=some v/\∃i∈f,x=vn vs i:=by
 refine e6 (ZS h) λp m e q=> ?_;obtain⟨z,y⟩:=MK m;exact⟨by rw [e,O0 V,y,q],p.1,z,e⟩
theorem QU(h:τ.ti=none):τ.T9=false:=by
 unfold Tg.ti at h;cases q:τ.T9 with
 |false=>rfl
 |true=>have h:=q▸h;cases h
theorem PY{k:yg}(h:τ.ti=some k):τ= .Z8 k:=by
 unfold Tg.ti at h;cases q:τ.T9 with
 |false=>have h:=q▸h;cases h
 |true=>haveI h:=q▸h;exact(Tg.EH q).trans (eg _ (ig h))
variable{t:dg (yg×d9)}{B B':Tg->gg d9}
theorem W8(h:τ.ti=none):L4 t B τ=B τ:=by unfold L4;rw [h]
theorem o4(h:τ.ti=some k):L4 t B τ=t.lookup k:=by unfold L4;rw [h]
theorem g7(h:τ.ti=none):L4 t (up B τ o)=up (L4 t B) τ o:=funext λf=>by
 by_cases e:f=τ
 ·refine rL e ?_;refine rL u7 ?_;rw [W8 h,u7]
 ·refine rL (v8 e) ?_;cases q:f.ti with
  |none=>rw [W8 q,W8 q,v8 e]
  |some k=>rw [o4 q,o4 q]
theorem MO:L4 (W9 t k o) B=up (L4 t B) (.Z8 k) o:=funext λf=>by
 by_cases e:f= .Z8 k
 ·refine rL e (rL u7 ?_);exact nZ
 ·refine rL (v8 e) ?_;cases q:f.ti with
  |none=>rw [W8 q,W8 q]
  |some j=>refine rL (o4 q) (rL (o4 q) ?_);exact F6 λz=>e (z▸PY q)
theorem OZ:xh Tg.T9 (L4 t B)=L4 [] B:=funext λτ=>by
 cases q:τ.ti with
 |none=>rw [W8 q,lW (QU q),W8 q]
 |some k=>refine rL (PY q) ?_;rfl
theorem ZY:qh Tg.T9 (L4 t B) (L4 [] B')=L4 t B':=funext λτ=>by
 cases q:τ.ti with
 |none=>rw [P2 (QU q),W8 q,W8 q]
 |some k=>refine rL (PY q) ?_;rfl
theorem qG{K:IC->Prop}(h:put c τ o K):∃c',c'.σ=up c.σ τ o/\c'.ρ=c.ρ/\K c':=by
 unfold put at h;cases q:τ.ti with
 |none=>haveI h:=q▸h;exact h.elim λb h=>⟨⟨c.ρ,c.t,b⟩,(eg _ h.1.symm).trans (g7 q),rfl,h.2⟩
 |some k=>rw [q] at h;exact⟨⟨c.ρ,W9 _ k o,c.b⟩,PY q▸MO,rfl,h⟩
theorem G4{p:Tg->wg}{U:Tg->Prop}(hp:∀t,p t=true->U t)(h:QB p a=true):a.keeps U:=by
 cases a with
 |g9 t=>exact hp t h
 |_=>trivial
theorem W5{b:wg}(h:(!b)=true):b=false:=(Od b).mp h
theorem P5{t:Tg}(h:hb τ t=true):τ.T9=false/\t.T9=false/\t≠τ/\aY t=some τ:=
 haveI f:=l9 h;haveI g:=l9 f.2;haveI e:=l9 g.2
 ⟨W5 f.1,W5 g.1,Nb (W5 e.1),qg e.2⟩
theorem e5{τ:Tg}(h:hk τ a=true):a.keeps λt=>hb τ t=true:=G4 (λz' h=>h) h
theorem U7{τ:Tg}(h:nt τ a=true):a.keeps (·≠τ):=G4 (λz' h=>Nb (W5 h)) h
theorem EQ(h:LF a=true):a.keeps λτ=>τ.T9=false:=G4 (λz' h=>W5 h) h
theorem fN{m:Md}(h:gN m a=true):a.keeps λt=>m.u t=true\/t.T9=true:=G4 (λz' h=>(Jf _ _).mp h) h
theorem uW{g:Type}{l:dg g}{f:g->vg}{U:Tg->Prop}:∀y∈l.map λx=>AV.a9 (f x),y.keeps U:=λy m=>(List.mem_map.mp m).elim λd e=>e.2▸(trivial)
theorem vW{ds:dg vg}{U:Tg->Prop}:∀y∈ds.map AV.a9,y.keeps U:=uW
theorem nW(h:C6 τ o)(g:Q6 o=false)(hd:d5 τ=false):uU P τ o:=
 ⟨h,λD z' e=>(by have g:=e▸g;cases g),λκ f e=>(by have hd:=e▸hd;cases hd)⟩
theorem Inv.up{σ:Tg->gg d9}(h:Inv P σ)(f:uU P τ o):Inv P (up σ τ o):=λg z' e=>(g3 e).elim (λz=>z.1▸z.2▸f) λz=>h _ _ z.2
theorem Inv.wf(h:Inv P σ):Wf Tg.T9 σ where
 Z8:=λτ o q e=>d9.t9 (λt y=>absurd ((P5 y).1.symm.trans q) cf) (h _ o e).hold
 old:=λτ o e=>d9.t9 (λt y=>(P5 y).2.1) (h _ o e).hold
theorem P0(e:L4 [] B τ=some o):τ.T9=false:=by
 cases q:τ.ti with
 |none=>exact QU q
 |some k=>haveI e:=o4 q▸e;exact(by nomatch e)
theorem hW(h:Inv P (L4 t B)):Inv P (L4 [] B):=λτ o e=>h _ o (by
 cases q:τ.ti with
 |none=>rw [W8 q] at e⊢;exact e
 |some k=>haveI e:=o4 q▸e;exact(by nomatch e))
theorem dX(h:Inv P (L4 t B))(h':Inv P (L4 [] B')):Inv P (L4 t B'):=λτ o e=>by
 cases q:τ.ti with
 |none=>rw [W8 q] at e;exact h' _ o (rL (W8 q) e)
 |some k=>rw [o4 q] at e;exact h _ o (rL (o4 q) e)
theorem K9{t:Tg}(h:um u t):um (hold a u) t:=by
 cases a with
 |g9 _=>exact h.imp id (.tail _)
 |_=>exact h
theorem x9:a.keeps (um (hold a u)):=by
 cases a with
 |g9 _=>exact .inr (.head _)
 |_=>trivial
theorem i4{t:Tg}(h:um u t):um (G8 ρ u) t:=by
 induction ρ with
 |nil=>exact h
 |cons p r i=>exact K9 i
theorem HV:∀p∈ρ,p.2.keeps (um (G8 ρ u)):=by
 induction ρ with
 |nil=>exactλp m=>(by nomatch m)
 |cons p r i=>exactλq m=>(List.mem_cons.mp m).elim (λe=>e▸x9) λm=>AV.t9 (λz'=>K9) (i q m)
theorem R0{as:dg AV}:(∀t,um u t->um (as.foldr hold u) t)/\∀a∈as,a.keeps (um (as.foldr hold u)):=by
 induction as with
 |nil=>exact⟨λz' h=>h,λa m=>(by nomatch m)⟩
 |cons a _ i=>exact⟨λt h=>K9 (i.1 t h),λq m=>(List.mem_cons.mp m).elim (λe=>e▸x9) λm=>AV.t9 (λz'=>K9) (i.2 q m)⟩
theorem XY(h:nu u τ=true):¬um u τ:=λq=>by
 exact zA (l9 h) λf e=>(q.elim (λq=>by have f:=q▸f;exact(by nomatch f)) λq=>by haveI e:=List.contains_iff_mem.mpr q▸e;exact(by nomatch e))
theorem yT{t:Tg}(h:Md.sU.u t=true):t.T1=true:=by
 cases t with
 |ls k _=>cases k<;>cases h
 |_=>first|rfl|cases h
theorem QX{t:Tg}:Md.all.u t=true\/t.T9=true:=by
 cases h:t.T9 with
 |true=>exact .inr rfl
 |false=>exact .inl (eg (!·) h)
theorem XO{e:Md}(h:sF u e=true){t:Tg}(q:um u t):e.u t=true\/t.T9=true:=by
 refine zA (l9 h) λf w=>(q.elim (λq=> ?_) λq=>(Jf _ _).mp (List.all_eq_true.mp w t q));obtain⟨m,l⟩:=u;cases m with
 |all=>cases e with
  |all=>exact QX
  |_=>cases f
 |st=>cases e with
  |all=>exact QX
  |st=>exact .inl q
  |_=>cases f
 |s2=>cases e with
  |all=>exact QX
  |st=>exact .inl (by show(t.T1||t.uN)=true;rw [show t.T1=true from q];rfl)
  |s2=>exact .inl q
  |_=>cases f
 |sU=>
  haveI z:=yT q;cases e with
  |all=>exact QX
  |st=>exact .inl (by show(t.T1||t.uN)=true;rw [z];rfl)
  |s2=>exact .inl z
  |sU=>exact .inl q
  |top=>cases f
 |top=>cases q
variable{W:Wd}{n:yg}{F:Fm}{X:Cx}{U:Tg->Prop}{d e:vg}{G:Gh}{h:Be}
theorem PZ{Q:dg AV->Prop}(h:uI c a Q):∃vs,Ls c.σ a vs/\Q vs:=(L9 h).elim
 (λh=>h.elim λτ h=>(o9 h.2).elim λo q=>(o9 q.2).elim λp z=>⟨p.2,.inr ⟨τ,p.1,o6 h.1,q.1.trans (eg _ (zh z.1))⟩,z.2⟩)
 λh=>(o9 h.2).elim λds q=>⟨_,.inl ⟨ds,G3 q.1,rfl⟩,q.2⟩
theorem G5{Q:dg vg->Prop}(h:kL c a Q):∃ds,Ls c.σ a (ds.map .a9)/\Q ds:=(L9 h).elim
 (λh=>h.elim λτ h=>(o9 h.2).elim λo q=>(o9 q.2).elim λp z=>z.2.elim λds w=>⟨ds,.inr ⟨τ,p.1,o6 h.1,w.1▸q.1.trans (eg _ (zh z.1))⟩,w.2⟩)
 λh=>(o9 h.2).elim λds q=>⟨ds,.inl ⟨ds,G3 q.1,rfl⟩,q.2⟩
theorem SO{Q:dg kg->Prop}(h:cu c a Q):∃ns,Ls c.σ a ((zs ns).map .a9)/\Q ns:=(G5 h).elim λds h=>h.2.elim λns q=>⟨ns,q.1▸h.1,q.2⟩
theorem RN{Q:AV->Prop}(h:fld c a i Q):∃τ D as v,a= .g9 τ/\c.σ τ=some (.inst D as)/\as.lookup i=some v/\Q v:=
 (o9 h).elim λτ h=>(o9 h.2).elim λo q=>(o9 q.2).elim λp z=>(o9 z.2).elim λv w=>⟨τ,p.1,p.2,v,o6 h.1,q.1.trans (eg _ (pR z.1)),w.1,w.2⟩
theorem SF{k:kg}{ds:dg vg}{d:vg}(h:r7 k ds=some d):r7 k (ds.map AV.a9)=some (.a9 d):=by
 unfold r7 at h⊢;refine rL (Wg) ?_;refine rL (Wg) ?_;rw [ng];split at h
 ·rename_i z;refine rL (xg z) (rL h ?_);rfl
 ·rename_i z;refine rL (og z) ?_;split at h
  ·rename_i y;refine rL (xg y) (rL h ?_);rfl
  ·exact(by nomatch h)
theorem RH{k:kg}{n:yg}(h:0<=k)(hn:k.toNat<n):seqIndex? k n=some k.toNat:=by
 unfold seqIndex?;exact(og (Int.not_lt.mpr h))▸xg (by rw [Sg];exact⟨Dg h,Dg ((đ h).mp hn)⟩)
inductive Ui(X:Cx)(a b:AV)(Q:AV->Prop):Prop
 |mk (v:AV) (O:∀F U oe ie,Zx ie=true->X5 F U X (Zc oe ie) a b v X) (q:Q v)
theorem QL{Q:AV->Prop}(h:Mh c a b Q):Ui (c.cx vs) a b Q:=(L9 h).elim
 (λh=>h.elim λk h=>s8 h.1▸(L9 h.2).elim
  (λh=>h.elim λτ h=>o6 h.1▸(o9 h.2).elim λo q=>(L9 q.2).elim
   (λh=>h.elim λp h=>(o9 h.2).elim λv z=>⟨v,λF U z' z' hs=>bA (.inr ⟨τ,p.1,rfl,q.1.trans (eg _ (zh h.1))⟩) z.1 z.2.1 λa k t=>H4 hs,z.2.2⟩)
   λh=>(L9 h.2).elim (λh=>h.elim λp h=>(o9 h.2).elim λv z=>⟨v,λF U z' z' hs=>yO q.1 ((eg _ (W0 h.1)).trans rfl) z.1 λa k t=>H4 hs,z.2⟩)
    λh=>(o9 h.2).elim λp h=>(o9 h.2).elim λv z=>⟨v,λF U z' z' hs=>yO q.1 ((eg _ (y3 h.1)).trans rfl) z.1 λa k t=>H4 hs,z.2⟩)
  λh=>(L9 h.2).elim
   (λh=>h.elim λds h=>G3 h.1▸(o9 h.2).elim λd z=>⟨.a9 d,λF U z' z' hs=>bA (.inl ⟨ds,rfl,rfl⟩) (SF z.1) (bg (Bg (ng _)) z.2.1) λa k t=>H4 hs,z.2.2⟩)
   λh=>(o9 h.2).elim λds h=>j6 h.1▸(o9 (z9 h.2).2).elim λd z=>
    haveI q:=l9 (z9 h.2).1;haveI g:=qg q.1
    ⟨.a9 d,λF U z' z' hs=>uO (RH g (Og (List.getElem?_eq_some_iff.mp z.1).1 (Bg (ng _).symm))) (rL (Wg) (rL z.1 rfl)) ⟨Hc (by decide) g,qg q.2⟩ λa k t=>H4 hs,z.2⟩)
 λh=>(o9 h.2).elim λs h=>UU h.1▸(o9 h.2).elim λτ h=>o6 h.1▸(o9 h.2).elim λo q=>(o9 q.2).elim λf h=>(o9 h.2).elim λv z=>⟨v,λF U z' z' hs=>FG (q.1.trans (eg _ (pM h.1))) z.1 λa k t=>H4 hs,z.2⟩
inductive RD X f(a b)(Q:vg->Prop):Prop
 |mk d (O:∀F U,X5 F U X f a b (.a9 d) X) (q:Q d)
theorem kS{f:zg->zg->Ra zg}{g:kg->kg->vg}{R:kg->kg->Prop}{Q:vg->Prop}(h:two a b λi j=>R i j/\Q (g i j))(O:∀F U i j,R i j->X5 F U X f (.a9 (.int i)) (.a9 (.int j)) (.a9 (g i j)) X):RD X f a b Q:=
 M8 (CZ h) λi j h=>⟨g i j,λF U=>h.1▸h.2.1▸O F U i j h.2.2.1,h.2.2.2⟩
theorem yC{Q:kg->kg->Prop}(h:two a b Q):two a b λi j=>True/\Q i j:=by
 refine u8 (CZ h) λi j u v q=> ?_;subst u;subst v;exact⟨trivial,q⟩
theorem GJ{Q:vg->Prop}(h:tx c a b Q):RD (c.cx vs) (ib .Add) a b Q:=(L9 h).elim
 (λh=>h.elim λi h=>(o9 h.2).elim λj q=>⟨_,λF U=>s8 h.1▸s8 q.1▸fA,q.2⟩)
 λh=>(L9 h.2).elim (λh=>h.elim λds h=>(o9 h.2).elim λes q=>⟨_,λF U=>j6 h.1▸j6 q.1▸yQ q.2.1.1 q.2.1.2 q.2.2.1,q.2.2.2⟩)
  λh=>(G5 h.2).elim λds h=>(G5 h.2).elim λes q=>⟨_,λF U=>lT h.1 q.1 q.2.1,q.2.2⟩
theorem WE{o:O2}{Q:vg->Prop}(h:Xp o c a b Q):RD (c.cx vs) (ib o.op) a b Q:=by
 cases o with
 |add=>exact GJ h
 |sub=>exact kS (yC h) λF U i j z'=>SB
 |mul=>exact kS h λF U i j q=>XB q
 |mod=>exact kS h λF U i j q=>YB q
 |fdiv=>exact kS h λF U i j q=>eA q.1 q.2
inductive po X f(a b)(Q:wg->Prop):Prop
 |mk t (O:∀F U,X5 F U X f a b (.a9 (.bool t)) X) (q:Q t)
theorem VN:gZ d e=je d e:=by
 unfold gZ;cases h:nV d with
 |none=>rfl
 |some i=>
  cases q:nV e with
  |none=>rfl
  |some j=>
   exact rL (oZ h) (rL (oZ q) rfl)
theorem PI{Q:vg->Prop}(h:dv c a Q):∃d,Dv c.σ a d/\Q d:=(L9 h).elim (λh=>h.elim λd h=>⟨d,.inl (S6 h.1),h.2⟩) λh=>(G5 h.2).elim λds q=>⟨_,.inr ⟨ds,rfl,q.1⟩,q.2⟩
theorem UN{Q:wg->Prop}(h:WD c a b Q):∃d e,Dv c.σ a d/\Dv c.σ b e/\lay d=true/\lay e=true/\Q (je d e):=
 (PI h).elim λd h=>(PI h.2).elim λe q=>haveI z:=l9 (z9 q.2).1;⟨d,e,h.1,q.1,z.1,z.2,VN▸(z9 q.2).2⟩
theorem lS{f:zg->zg->Ra zg}{g:kg->kg->wg}{Q:wg->Prop}(h:two a b λi j=>Q (g i j))(O:∀F U i j,X5 F U X f (.a9 (.int i)) (.a9 (.int j)) (.a9 (.bool (g i j))) X):po X f a b Q:=
 M8 (CZ h) λi j h=>⟨g i j,λF U=>h.1▸h.2.1▸O F U i j,h.2.2⟩
theorem SR.YS(S:SR W σ G h)(e:σ τ=some o)(a:o.ad (G.μ τ) (G.μ τ)):(G.μ τ==ĉ)=false:=by
 cases w:o.wr with
 |true=>exact S.nT e (.inl w) a
 |false=>exact(S.V5 _ o _ e w a).elim λob z=>S.nT e (.inr (S.pX _ _ _ z)) a
theorem yN{Q:wg->Prop}(h:yr c a b Q):∃t,(∀F U,X5 F U (c.cx vs) (we .In) a b (.a9 (.bool t)) (c.cx vs))/\(∀F U,X5 F U (c.cx vs) (we .NotIn) a b (.a9 (.bool (!t))) (c.cx vs))/\Q t:=(L9 h).elim
 (λh=>h.elim λτ h=>o6 h.1▸(o9 h.2).elim λo q=>(L9 q.2).elim
  (λh=>h.elim λp h=>(o9 h.2).elim λe z=>S6 z.1▸z.2.elim λds w=>have y:=l9 (z9 w.2).1;have l:= .inr ⟨τ,p.1,rfl,w.1▸q.1.trans (eg _ (zh h.1))⟩;⟨_,λF U=>dA y.1 y.2 l,λF U=>QS y.1 y.2 l,(z9 w.2).2⟩)
  λh=>(L9 h.2).elim
   (λh=>h.elim λp h=>(o9 h.2).elim λk z=>s8 z.1▸⟨_,λF U=>rI q.1 ((eg _ (W0 h.1)).trans rfl) λG g S=>S.YS q.1 (W0 h.1▸rfl),λF U=>uV q.1 ((eg _ (W0 h.1)).trans rfl) λG g S=>S.YS q.1 (W0 h.1▸rfl),z.2⟩)
   λh=>(o9 h.2).elim λp h=>(o9 h.2).elim λk z=>s8 z.1▸⟨_,λF U=>rI q.1 ((eg _ (y3 h.1)).trans rfl) λG g S=>S.YS q.1 (y3 h.1▸rfl),λF U=>uV q.1 ((eg _ (y3 h.1)).trans rfl) λG g S=>S.YS q.1 (y3 h.1▸rfl),z.2⟩)
 λh=>(o9 h.2).elim λe h=>S6 h.1▸(L9 h.2).elim
  (λh=>h.elim λds h=>G3 h.1▸have y:=l9 (z9 h.2).1;⟨_,λF U=>dA y.1 y.2 (.inl ⟨ds,rfl,rfl⟩),λF U=>QS y.1 y.2 (.inl ⟨ds,rfl,rfl⟩),(z9 h.2).2⟩)
  λh=>(o9 h.2).elim λds h=>j6 h.1▸have y:=l9 (z9 h.2).1;⟨_,λF U=>wO y.1 y.2,λF U=>sV y.1 y.2,(z9 h.2).2⟩
theorem tN{Q:wg->Prop}(h:vr a b Q):∃d,a= .a9 d/\b= .a9 .none/\Q (isNone d):=
 (o9 h).elim λe h=>(o9 (z9 h.2).2).elim λd q=>⟨d,S6 q.1,(S6 h.1).trans (eg _ (vK (z9 h.2).1)),q.2⟩
theorem uM{o:C2}{Q:wg->Prop}(h:Pr o c a b Q):po (c.cx vs) (we o.op) a b Q:=by
 cases o with
 |eq=>exact(UN h).elim λd z=>z.elim λe z=>⟨_,λF U=>Hv z.2.2.1 z.2.2.2.1 z.1 z.2.1,z.2.2.2.2⟩
 |ne=>exact(UN (Q:=λt=>Q _) h).elim λd z=>z.elim λe z=>⟨_,λF U=>zv z.2.2.1 z.2.2.2.1 z.1 z.2.1,z.2.2.2.2⟩
 |lt=>exact lS h λF U i j=>Av
 |le=>exact lS h λF U i j=>Bv
 |gt=>exact lS h λF U i j=>Fv
 |ge=>exact lS h λF U i j=>Gv
 |isin=>obtain⟨t,g,m,q⟩:=yN h;exact⟨_,g,q⟩
 |notin=>obtain⟨t,g,m,q⟩:=yN (Q:=λt=>Q _) h;exact⟨_,m,q⟩
 |isv=>refine e6 (tN h) λd u v q=> ?_;subst u;subst v;exact⟨_,λF U=>Cv,q⟩
 |isnot=>refine e6 (tN (Q:=λt=>Q _) h) λd u v q=> ?_;subst u;subst v;exact⟨_,λF U=>sK,q⟩
end
section
variable{P:y8}{n i j k:yg}{nm:dg Str}{c c':IC}{u:Mo}{τ:Tg}{o o':d9}{a b r v:AV}{as vs:dg AV}{F:Fm}{X:Cx}{U:Tg->Prop}{d e:vg}{h:Be}{σ:Tg->gg d9}
theorem aZ{Q:AV->Prop}(h:a1 vs Q):∃a,vs=[a]/\Q a:=by
 cases vs with
 |nil=>exact h.elim
 |cons a as=>cases as with
  |nil=>exact⟨a,rfl,h⟩
  |cons b _=>exact h.elim
theorem TM{Q:AV->AV->Prop}(h:a2 vs Q):∃a b,vs=[a,b]/\Q a b:=by
 cases vs with
 |nil=>exact h.elim
 |cons a as=>cases as with
  |nil=>exact h.elim
  |cons b bs=>cases bs with
   |nil=>exact⟨a,b,rfl,h⟩
   |cons d _=>exact h.elim
theorem sD{Q:AV->Prop}{R:AV->AV->Prop}(h:io vs Q R):(∃a,vs=[a]/\Q a)\/∃a b,vs=[a,b]/\R a b:=by
 cases vs with
 |nil=>exact h.elim
 |cons a as=>cases as with
  |nil=>exact .inl ⟨a,rfl,h⟩
  |cons b bs=>cases bs with
   |nil=>exact .inr ⟨a,b,rfl,h⟩
   |cons d _=>exact h.elim
noncomputable def BF.val:BF->zg
 | .len=> .builtin "len"
 | .sorted=> .builtin "sorted"
 | .list=> .type "list"
 | .tuple=> .type "tuple"
 | .range=> .type "range"
 | .min=> .builtin "min"
 | .max=> .builtin "max"
 | .int=> .type "int"
inductive R1(nm:dg Str)(c:IC)(f:zg)(vs:dg AV)(Q:AV->Prop):Prop
 |mk (v:AV) (O:∀F U,X4 F U (c.cx nm) (λxs=>call f xs []) vs v (c.cx nm)) (q:Q v)
theorem Hh{ds:dg vg}{n:yg}(h:ds.length<=n):(ds.map AV.a9).length<=n:=bg (Bg (ng _)) h
theorem DJ{Q:AV->Prop}(h:px c a Q):R1 nm c (.builtin "len") [a] Q:=(L9 h).elim
 (λh=>h.elim λds h=>⟨_,λF U=>G3 h.1▸ng _▸qI (.inl ⟨ds,rfl,rfl⟩) (Hh h.2.1),h.2.2⟩)
 λh=>(PZ h.2).elim λvs q=>⟨_,λF U=>qI q.1 q.2.1,q.2.2⟩
theorem EM{Q:AV->Prop}(h:XI c a Q):R1 nm c (.type "list") [a] Q:=(L9 h).elim
 (λh=>h.elim λk h=>⟨_,λF U=>cO h.1▸NX h.2.1.1 h.2.1.2,h.2.2⟩)
 λh=>(L9 h.2).elim
  (λh=>h.elim λτ h=>(o9 h.2).elim λo q=>(L9 q.2).elim
   (λw=>w.elim λp w=>haveI z:=z9 w.2;⟨_,λF U=>o6 h.1▸tV (q.1.trans ((eg _ (y3 w.1)).trans (z.1▸rfl))) z.2.1,z.2.2⟩)
   λw=>(o9 w.2).elim λp w=>w.2.elim λds z=>⟨_,λF U=>rO (.inr ⟨τ,p.1,o6 h.1,z.1▸q.1.trans (eg _ (zh w.1))⟩) z.2.1,z.2.2⟩)
  λh=>(o9 h.2).elim λds h=>⟨_,λF U=>rO (.inl ⟨ds,G3 h.1,rfl⟩) h.2.1,h.2.2⟩
theorem AJ{Q:AV->Prop}(h:ix c a Q):R1 nm c (.type "tuple") [a] Q:=(L9 h).elim
 (λh=>h.elim λds h=>⟨.a9 _,λF U=>by refine rL (j6 h.1) ?_;exact FY,h.2⟩)
 λh=>(G5 h.2).elim λds q=>⟨_,λF U=>pK q.1 q.2.1,q.2.2⟩
theorem BJ{f:BF}{Q:AV->Prop}(h:lx f c vs Q):R1 nm c f.val vs Q:=by
 cases f with
 |len=>refine O8 (aZ h) λa u h=> ?_;subst u;exact DJ h
 |sorted=>refine O8 (aZ h) λa u h=> ?_;subst u;refine e6 (SO h) λns l z q=> ?_;exact⟨_,λF U=>qO l z,q⟩
 |list=>refine O8 (aZ h) λa u h=> ?_;subst u;exact EM h
 |tuple=>refine O8 (aZ h) λa u h=> ?_;subst u;exact AJ h
 |range=>refine O8 (aZ h) λa w h=> ?_;subst w;refine O8 (o9 h) λi e q=> ?_;exact⟨_,λF U=>s8 e▸rK,q⟩
 |min=>refine Z5 (TM h) λa b w h=> ?_;subst w;refine u8 (CZ h) λi j u v q=> ?_;subst u;subst v;exact⟨_,λF U=>ZB,q⟩
 |max=>refine Z5 (TM h) λa b u h=> ?_;subst u;refine u8 (CZ h) λi j u v q=> ?_;subst u;subst v;exact⟨_,λF U=>aA,q⟩
 |int=>refine O8 (aZ h) λa u h=> ?_;subst u;refine O8 (o9 h) λi e q=> ?_;exact⟨.a9 _,λF U=>by refine rL (s8 e) ?_;exact cA,q⟩
inductive RU(P:y8)(nm:dg Str)(c:IC)(R:Cx->Prop)(K:IC->Prop):Prop
 |mk (c':IC) (E:R (c'.cx nm)) (i:Inv P c'.σ) (r:c'.ρ=c.ρ) (k:K c')
theorem e7{K:IC->Prop}{R:Cx->Prop}(h:put c τ o K)(I:Inv P c.σ)(f:uU P τ o)(E:R ⟨(c.cx nm).ρ,up (c.cx nm).σ τ o⟩):RU P nm c R K:=
 (qG h).elim λc' q=>⟨c',(show(c'.cx _)=_ by unfold IC.cx;rw [q.1,q.2.1])▸E,q.1▸I.up f,q.2.1,q.2.2⟩
theorem g5(f:uU P τ o)(h:C6 τ o')(w:∀D as,o'= .inst D as->∃as',o= .inst D as')(hd:d5 τ=false\/∀m,o'= .p9 true m->∃f,o= .p9 true f/\∀j v,m j=some v->f j=some v):uU P τ o':=
 ⟨h,λD z' e=>(w D _ e).elim λas' e=>f.cls D _ e,λκ m e p=>hd.elim (λhd=>by have hd:=e▸hd;cases hd) λhd=>(hd _ p).elim λg z=>λj v q=>f.C7 _ g e z.1 j v (z.2 j v q)⟩
section
variable{K':Type}[ef K']{f:K'->gg AV}{x:K'}{U:Tg->Prop}
theorem M7(h:∀k v,f k=some v->v.keeps U)(m:a.keeps U):∀k v,f9 f x a k=some v->v.keeps U:=λk v e=>by
 unfold f9 at e;split at e
 ·exact ig e▸m
 ·exact h k v e
theorem eY:∀k v,H9 f x k=some v->f k=some v:=λk v e=>by
 unfold H9 at e;split at e
 ·exact(by nomatch e)
 ·exact e
end
theorem JK{d:vg}{Q:KI->Prop}(h:iz d Q):∃k,d=KI.a9 k/\Q k:=(L9 h).elim (λh=>h.elim λi h=>⟨.int i,oZ h.1,h.2⟩)
 λh=>(L9 h.2).elim (λh=>h.elim λi h=>⟨.str i,KS h.1,h.2⟩) λh=>(o9 h.2).elim λds h=>h.2.elim λl q=>⟨.tup l,(JS h.1).trans (eg _ q.1),q.2⟩
theorem MF{ds:dg vg}{Q:dg KI->Prop}(h:Zu ds Q):∃m,ds=m.map KI.a9/\Q m:=by
 induction ds generalizing Q with
 |nil=>exact⟨[],rfl,h⟩
 |cons d _ i=>exact(JK h).elim λk h=>(i h.2).elim λm q=>⟨k::m,List.cons_eq_cons.mpr ⟨h.1,q.1⟩,q.2⟩
theorem cW{Q:dg KI->Prop}(h:key a Q):∃k,a= .a9 (.tuple (k.map KI.a9))/\Q k:=(o9 h).elim λds h=>(MF h.2).elim λk q=>⟨k,q.1▸j6 h.1,q.2⟩
theorem O6{Q:Tg->d9->Prop}(h:pO c a Q):∃τ o,a= .g9 τ/\c.σ τ=some o/\Q τ o:=(o9 h).elim λτ h=>(o9 h.2).elim λo q=>⟨τ,o,o6 h.1,q⟩
theorem gW{Q:Tg->wg->dg AV->Prop}(h:RK c a Q):∃τ w vs,a= .g9 τ/\c.σ τ=some (.list w vs)/\Q τ w vs:=M8 (O6 h) λτ o h=>(o9 h.2.2).elim λp q=>⟨τ,p.1,p.2,h.1,h.2.1.trans (eg _ (zh q.1)),q.2⟩
section
variable{K:IC->Prop}{f:kg->gg AV}{g:Str->gg AV}{t:dg KI->gg AV}{l:dg (kg×AV)}{k:kg}{s:Str}{ks:dg KI}
theorem MC(I:Inv P c.σ)(m:hk τ a=true)(hd:d5 τ=false)(e:c.σ τ=some (.p9 true f))(h:j7 k=true/\put c τ (.p9 true (f9 f k a)) K):RU P nm c (λX=>∀F U,pL F U (c.cx nm) Sb (.g9 τ) (.a9 (.int k)) a X) K:=
 e7 h.2 I (g5 (I _ _ e) (M7 (I _ _ e).hold (e5 m)) (λz' z' e=>(by nomatch e)) (.inl hd)) λF U=>JG e h.1
theorem LC(I:Inv P c.σ)(m:hk τ a=true)(hd:d5 τ=false)(e:c.σ τ=some (.M9 true l))(h:l.length<=1000000/\put c τ (.M9 true (X6 l k a)) K):RU P nm c (λX=>∀F U,pL F U (c.cx nm) Sb (.g9 τ) (.a9 (.int k)) a X) K:=
 e7 h.2 I (g5 (I _ _ e) (UZ (I _ _ e).hold (e5 m)) (λz' z' e=>(by nomatch e)) (.inl hd)) λF U=>HG e h.1
theorem KC(I:Inv P c.σ)(m:hk τ a=true)(hd:d5 τ=false)(e:c.σ τ=some (.w8 g))(hs:s∈SK)(h:put c τ (.w8 (f9 g s a)) K):RU P nm c (λX=>∀F U,pL F U (c.cx nm) Sb (.g9 τ) (.a9 (.str s)) a X) K:=
 e7 h I (g5 (I _ _ e) (M7 (I _ _ e).hold (e5 m)) (λz' z' e=>(by nomatch e)) (.inl hd)) λF U=>EG e hs
theorem JC(I:Inv P c.σ)(m:hk τ a=true)(hd:d5 τ=false)(e:c.σ τ=some (.V9 t))(h:ks∈TK/\put c τ (.V9 (f9 t ks a)) K):RU P nm c (λX=>∀F U,pL F U (c.cx nm) Sb (.g9 τ) (.a9 (.tuple (ks.map KI.a9))) a X) K:=
 e7 h.2 I (g5 (I _ _ e) (M7 (I _ _ e).hold (e5 m)) (λz' z' e=>(by nomatch e)) (.inl hd)) λF U=>BG e h.1
theorem SC(I:Inv P c.σ)(e:c.σ τ=some (.p9 true f))(h:(f k).isSome=true/\put c τ (.p9 true (H9 f k)) K):RU P nm c (λX=>∀F U,YD F U (c.cx nm) Ý (.g9 τ) (.a9 (.int k)) X) K:=
 e7 h.2 I (g5 (I _ _ e) (λk v q=>(I _ _ e).hold k v (eY k v q)) (λz' z' e=>(by nomatch e)) (.inr λm e=>⟨_,rfl,λj v q=>eY j v (by cases e;exact q)⟩)) λF U=>KG e h.1
theorem QC(I:Inv P c.σ)(e:c.σ τ=some (.V9 t))(h:(t ks).isSome=true/\put c τ (.V9 (H9 t ks)) K):RU P nm c (λX=>∀F U,YD F U (c.cx nm) Ý (.g9 τ) (.a9 (.tuple (ks.map KI.a9))) X) K:=
 e7 h.2 I (g5 (I _ _ e) (λk v q=>(I _ _ e).hold k v (eY k v q)) (λz' z' e=>(by nomatch e)) (.inr λf e=>(by nomatch e))) λF U=>DG e h.1
end
theorem YR{σ:Tg->gg d9}{w:wg}{p:Type}{m:wg->p->d9}{x:p}(q:σ τ=some o)(h:o=m w x)(hw:w=true):σ τ=some (m true x):=hw▸h▸q
theorem OH{K:IC->Prop}(h:Nq c b r a K)(I:Inv P c.σ):RU P nm c (λX=>∀F U,pL F U (c.cx nm) Sb b r a X) K:=
 M8 (O6 h) λτ o h=>h.1▸haveI z:=z9 h.2.2;haveI y:=l9 z.1;haveI m:=W5 y.2;(L9 z.2).elim
  (λw=>w.elim λp w=>(o9 w.2).elim λk x=>s8 x.1▸MC I y.1 m (YR h.2.1 (W0 w.1) (z9 x.2).1) (z9 x.2).2)
  λw=>(L9 w.2).elim (λw=>w.elim λp w=>(o9 w.2).elim λk x=>s8 x.1▸LC I y.1 m (YR h.2.1 (y3 w.1) (z9 x.2).1) (z9 x.2).2)
  λw=>(L9 w.2).elim (λw=>w.elim λp w=>(o9 w.2).elim λk x=>UU x.1▸KC I y.1 m (pM w.1▸h.2.1) (qg (z9 x.2).1) (z9 x.2).2)
  λw=>(o9 w.2).elim λp w=>(cW w.2).elim λk x=>x.1▸JC I y.1 m (NR w.1▸h.2.1) x.2
theorem SH{K:IC->Prop}(h:Oq c b r K)(I:Inv P c.σ):RU P nm c (λX=>∀F U,YD F U (c.cx nm) Ý b r X) K:=
 M8 (O6 h) λτ o h=>h.1▸(L9 h.2.2).elim
  (λw=>w.elim λp w=>(o9 w.2).elim λk x=>s8 x.1▸SC I (YR h.2.1 (W0 w.1) (z9 x.2).1) (z9 x.2).2)
  λw=>(o9 w.2).elim λp w=>(cW w.2).elim λk x=>x.1▸QC I (NR w.1▸h.2.1) x.2
variable{c1:IC}{ws:dg AV}{Y:Cx}{G:Gh}{name:Str}
theorem LO{id:wb}{w:wg}{l:dg (kg×AV)}{x:Cx}(e:x.σ τ=some (.M9 w l))(f:Slot "dict" name id)(h:typeOf (.builtin id)=pure (.type "method_descriptor")):Mt F x (.g9 τ) name (.builtin id):=λG s y z' Q S r q=>by
 obtain rfl:y= .ref _:=r;exact O8 (S.sr.g9 _ _ e) λkvs hd z'=>(Ü hd.mapOf.typeIs é f h (λa z=>by cases z;exact let⟨o,_,_,ho,hc,_⟩:=hd;⟨o,ho,hc.2.1⟩) q)
inductive RM P nm(f:LM)(c1 c:IC) a vs(K:KE):Prop
 |mk id v c' (M:∀F,Mt F (c1.cx nm) a f.nm (.builtin id)) (O:∀F U,X4 F U (c.cx nm) (λxs=>call (.builtin id) xs []) (a::vs) v (c'.cx nm)) (i:Inv P c'.σ) (r:c'.ρ=c.ρ) (k:K v c')
theorem RU.rm{f:LM}{K:KE}{id:wb}{v:AV}(M:∀F,Mt F (c1.cx nm) a f.nm (.builtin id))(h:RU P nm c (λX=>∀F U,X4 F U (c.cx nm) (λxs=>call (.builtin id) xs []) (a::vs) v X) (K v)):RM P nm f c1 c a vs K:=
 h.casesOn λc' E i r k=>⟨id,v,c',M,E,i,r,k⟩
theorem JT{w g:wg}{l:dg AV}(f:uU P τ (.list w l))(h:∀y∈ws,y.keeps λt=>hb τ t=true):uU P τ (.list g ws):=⟨h,(λz' z' e=>(by nomatch e)),(λz' z' z' e=>(by nomatch e))⟩
theorem CQ{K:KE}{l:dg AV}(I:Inv P c.σ)(M:∀F,Mt F (c1.cx nm) (.g9 τ) (S "append") (.builtin "list.append"))(e:c.σ τ=some (.list true l))(f:hk τ v=true)(h:l.length<=1000000/\put c τ (.list true (l++[v])) (K (.a9 .none))):RM P nm .append c1 c (.g9 τ) [v] K:=
 RU.rm M (e7 h.2 I (JT (I _ _ e) λy m=>(List.mem_append.mp m).elim ((I _ _ e).hold y) λm=>List.mem_singleton.mp m▸e5 f) λF U=>AO e h.1)
theorem BQ{K:KE}{l:dg AV}{ds:dg vg}(I:Inv P c.σ)(M:∀F,Mt F (c1.cx nm) (.g9 τ) (S "extend") (.builtin "list.extend"))(e:c.σ τ=some (.list true l))(hl:Ls c.σ v (ds.map .a9))(h:l.length+ds.length<=1000000/\put c τ (.list true (l++ds.map .a9)) (K (.a9 .none))):RM P nm .extend c1 c (.g9 τ) [v] K:=
 RU.rm M (e7 h.2 I (JT (I _ _ e) λy m=>(List.mem_append.mp m).elim ((I _ _ e).hold y) (vW y)) λF U=>xO e hl (bg (Bg (eg _ (ng _))) h.1))
theorem pF{K:KE}{l:dg AV}(I:Inv P c.σ)(M:∀F,Mt F (c1.cx nm) (.g9 τ) (S "pop") (.builtin "list.pop"))(e:c.σ τ=some (.list true (l++[v])))(h:l.length<=1000000/\put c τ (.list true l) (K v)):RM P nm .pop c1 c (.g9 τ) [] K:=
 RU.rm M (e7 h.2 I (JT (I _ _ e) λy m=>(I _ _ e).hold y (Kg _ m)) λF U=>VB e h.1)
theorem tT{f:LM}{K:KE}{g:gg AV}{d:AV}(I:Inv P c.σ)(M:∀F,Mt F (c1.cx nm) a f.nm (.builtin "dict.get"))(h:ph g (λv=>K v c) (K d c))(O:∀F U,X4 F U (c.cx nm) (λxs=>call (.builtin "dict.get") xs []) (a::vs) (g.getD d) (c.cx nm)):RM P nm f c1 c a vs K:=
 (L9 h).elim (λh=>h.elim λv h=>⟨_,v,c,M,by haveI O:=h.1▸O;exact O,I,rfl,h.2⟩) λh=>⟨_,d,c,M,by haveI O:=h.1▸O;exact O,I,rfl,h.2⟩
theorem MX{τ f:Tg}(h:AV.g9 τ= .g9 f):τ=f:=ig (eg AV.obj? h)
theorem YZ{Q:Tg->dg AV->Prop}{R:Prop}(h:nR c1 c a Q)(k:∀τ w v l,a= .g9 τ->c1.σ τ=some (.list w v)->c.σ τ=some (.list true l)->Q τ l->R):R:=
 D6 (gW h) λτ w z' h=>M8 (gW h.2.2) λf g q=>q.elim λl q=>
  haveI z:=z9 q.2.2
  k _ w _ l h.1 h.2.1 (MX (h.1.symm.trans q.1)▸z.1▸q.2.1) (MX (h.1.symm.trans q.1)▸z.2)
theorem GK{K:KE}(h:du .get c1 c a vs K)(I:Inv P c.σ):RM P nm .get c1 c a vs K:=
 M8 (O6 h) λτ A h=>M8 (O6 h.2.2) λs o q=>h.1▸have e:=(MX (h.1.symm.trans q.1)).symm▸q.2.1;(L9 q.2.2).elim
  (λw=>w.elim λg w=>(o9 w.2).elim λf x=>have M:=λF=>JO (NR w.1▸h.2.1) Bd rfl;have l:=NR x.1▸e
   (sD x.2).elim (λq=>q.elim λr q=>(cW q.2).elim λm z=>q.1▸z.1▸tT I M z.2 λF U=>CG l) λq=>M8 q λr d q=>(cW q.2).elim λm z=>q.1▸z.1▸tT I M z.2 λF U=>qK l)
  λw=>(o9 w.2).elim λp w=>(o9 w.2).elim λt x=>haveI y:=z9 x.2;M8 (TM y.2) λr d z=>(o9 z.2).elim λk q=>z.1▸s8 q.1▸tT I (λF=>LO (y3 w.1▸h.2.1) Bd rfl) q.2 λF U=>IG (YR e (y3 x.1) y.1) rfl rfl λz' z'=> .rfl
theorem oF{f:LM}{K:KE}(h:du f c1 c a vs K)(I:Inv P c.σ):RM P nm f c1 c a vs K:=by
 cases f with
 |append=>exact(aZ h).elim λv h=>h.1▸YZ h.2 λτ w z' l z e g q=>z▸CQ I (λF=>VX (.inr ⟨τ,w,rfl,e⟩) ä rfl) g (z9 q).1 (z9 q).2
 |extend=>exact(aZ h).elim λv h=>h.1▸YZ h.2 λτ w z' l z e g q=>(G5 q).elim λds q=>z▸BQ I (λF=>VX (.inr ⟨τ,w,rfl,e⟩) ã rfl) g q.1 q.2
 |pop=>exact List.isEmpty_iff.mp (z9 h).1▸YZ (z9 h).2 λτ w z' l z e g q=>M8 q λx v q=>z▸pF I (λF=>VX (.inr ⟨τ,w,rfl,e⟩) ý rfl) (q.1▸g) q.2
 |get=>exact GK h I
theorem qN{Q:dg AV->Prop}(h:SD c u a Q):∃vs,(∀F,bC F (c.cx nm) a vs)/\(∀v∈vs,v.keeps (um u))/\Q vs:=(L9 h).elim
 (λh=>h.elim λτ h=>(o9 h.2).elim λo q=>(L9 q.2).elim
  (λw=>w.elim λp w=>have z:=z9 w.2;⟨p.2,λF=>o6 h.1▸mR (.inr ⟨τ,rfl,q.1.trans (eg _ ((zh w.1).trans (eg (λb=>d9.list b _) (W5 z.1))))⟩),z.2.1,z.2.2⟩)
  λw=>(o9 w.2).elim λp w=>have z:=z9 w.2;⟨_,λF=>o6 h.1▸QK (q.1.trans (eg _ ((y3 w.1).trans (eg (λb=>d9.M9 b _) (W5 z.1))))),uW,z.2⟩)
 λh=>(L9 h.2).elim (λh=>h.elim λk h=>⟨_,λF=>cO h.1▸sN h.2.1.1 h.2.1.2,uW,h.2.2⟩)
 λh=>(L9 h.2).elim (λh=>h.elim λds h=>⟨_,λF=>G3 h.1▸mR (.inl ⟨ds,rfl,rfl⟩),vW,h.2⟩)
 λh=>(o9 h.2).elim λds h=>⟨_,λF=>j6 h.1▸UF ML,vW,h.2⟩
structure FD where
 A:vc
 env:Ia
 fa:dg yg
 k:env.scope.kind= .function
noncomputable abbrev FD.f(D:FD)(P:y8)(n:yg):Fm:=⟨P.W,D.A,D.env,D.fa,n⟩
inductive RF P nm n u f as(c:IC)(K:KE):Prop
 |mk a c' (O:∀D:FD,X4 (D.f P n) (um u) (c.cx nm) (λxs=>call f xs []) as a (c'.cx nm)) (i:Inv P c'.σ) (r:c'.ρ=c.ρ) (k:K a c')
theorem X4.weak{f:dg zg->Ra zg}{g:Tg->Prop}(h:∀τ,g τ->U τ)(O:X4 F U X f as a Y):X4 F g X f as a Y:=λG s z' S r=>Jg (O G s _ S r) (λv z' z=>z.casesOn λG' e l r q=>⟨G',e.weak h,l,r,q⟩) λz' z' z=>z
theorem NN{K:KE}{id:yg}(h:Ox P n id u as c K)(I:Inv P c.σ):RF P nm n u (.ref (P.fv id)) as c K:=by
 obtain⟨m,a,b',E,h⟩:=h;refine zA (z9 h) λq h=> ?_;haveI l:=l9 q;haveI f:=l9 l.1;refine zA (E (hW I)) λE g=>(⟨a,⟨c.ρ,c.t,b'⟩,λD=> ?_,(dX I g),rfl,h⟩);haveI O:=pI (F:=D.f P n) (c:=c.cx nm) (OZ▸E) ⟨I.wf,g.wf,λτ o e=>P0 e,λx v e=>MZ f.2 (λv h=>fN h) e⟩ (EQ l.2);rw [show qh _ (c.cx _).σ _=L4 _ _ from ZY] at O;exact O.weak λτ h=>XO f.1 h
theorem cR(I:Inv P c.σ)(hρ:(c.ρ.all λp=>nt τ p.2)=true)(H:C6 τ o)(hs:∀h,aY τ=some h->∀g,c.σ h=some g->g.keeps (·≠τ)):dP (c.cx nm) o τ where
 w:=d9.t9 (λt h=>(P5 h).2.2.1) H
 s:=λf z' n e=>by
  by_cases q:aY τ=some f
  ·exact hs _ q _ e
  ·exact d9.t9 (λt h z=>q (z▸(P5 h).2.2.2)) (I _ _ e).hold
 r:=λx v e=>MZ hρ (λz' h=>U7 h) e
inductive RS P nm(c:IC) τ o(K:IC->Prop):Prop
 |mk c' (L:(c.ρ.all λp=>nt τ p.2)=true->dP (c.cx nm) o τ) (e:c'.cx nm=⟨(c.cx nm).ρ,up (c.cx nm).σ τ o⟩) (i:Inv P c'.σ) (r:c'.ρ=c.ρ) (k:K c')
theorem dO{K:IC->Prop}(h:put c τ o K)(I:Inv P c.σ)(f:uU P τ o)(L:(c.ρ.all λp=>nt τ p.2)=true->dP (c.cx nm) o τ):RS P nm c τ o K:=
 (e7 (R:=λX=>X=_) h I f rfl).casesOn λc' E i r k=>⟨c',L,E,i,r,k⟩
theorem TP{K:IC->Prop}(h:Sw c τ K o)(I:Inv P c.σ):RS P nm c τ o K:=by
 refine zA h λH h=>(zA (z9 h) λq h=> ?_);haveI q:=l9 q;have f:uU P _ o:=nW H (W5 q.1) (W5 q.2);exact(L9 h).elim (λh=>h.elim λt h=>dO h.2.2 I f λhρ=>cR I hρ H λg e l z=>h.2.1 _ (ig (h.1.symm.trans e)▸z)) λh=>dO h.2 I f λhρ=>cR I hρ H λg e=>(by nomatch h.1.symm.trans e)
variable{x:Str}{m m1 m2 m3:M}{s:lf}
inductive RX{α:Type}(P:y8)(nm:dg Str)(c:IC)(R:α->Cx->Prop)(K:α->IC->Prop):Prop
 |mk (a:α) (c':IC) (E:R a (c'.cx nm)) (i:Inv P c'.σ) (r:c'.ρ=c.ρ) (k:K a c')
inductive RB P nm(R:Fl->Cx->Prop)(K:KB):Prop
 |mk a c' (E:R a (c'.cx nm)) (i:Inv P c'.σ) (k:K a c')
inductive CX(F:Fm)(U:Tg->Prop)(c:Cx)(ws:dg AV)(X:Cx):Expr->Prop
 |mk (elt x iter:Expr) (ifs:dg Expr) (sc:lf) (pos:re) (c1:Cx) (E:pU F U c (PV F.W elt x iter ifs sc pos) ws c1 X.σ) (r:c1.ρ=X.ρ):CX F U c ws X (.ListComp elt [⟨x,iter,ifs,0⟩] sc pos)
section
variable(P n nm)
def wo(f:Mo->IC->KE->Prop)(g:lf->Expr->wg):Prop:=∀u c K,f u c K->Inv P c.σ->RX P nm c (λa X=>∀(D:FD) ex,g D.env.scope ex=true->Ev (D.f P n) (um u) (c.cx nm) ex a X) K
def vo(f:Mo->IC->KL->Prop)(g:lf->dg Expr->wg):Prop:=∀u c K,f u c K->Inv P c.σ->RX P nm c (λa X=>∀(D:FD) ex,g D.env.scope ex=true->cS (D.f P n) (um u) (c.cx nm) ex a X) K
def ro(f:Mo->IC->KT->Prop)(g:lf->Expr->wg):Prop:=∀u c K,f u c K->Inv P c.σ->RX P nm c (λa X=>∀(D:FD) ex,g D.env.scope ex=true->It (D.f P n) (um u) (c.cx nm) ex a X) K
def uo(f:Mo->IC->KO->Prop)(g:lf->Expr->wg):Prop:=∀u c K,f u c K->Inv P c.σ->RX P nm c (λa X=>∀(D:FD) ex,g D.env.scope ex=true->vY (D.f P n) (um u) (c.cx nm) ex a X) K
def xo(f:Mo->IC->KL->Prop)(g:lf->Expr->wg):Prop:=∀u c K,f u c K->Inv P c.σ->RX P nm c (λa X=>∀(D:FD) ex,g D.env.scope ex=true->CX (D.f P n) (um (G8 c.ρ u)) (c.cx nm) a X ex) K
def so(f:Mo->IC->KP->Prop)(g:lf->dg (gg Expr)->dg Expr->wg):Prop:=∀u c K,f u c K->Inv P c.σ->RX P nm c (λa X=>∀(D:FD) ks es pos,g D.env.scope ks es=true->wD (D.f P n) (um u) (c.cx nm) ks es pos a X) K
def yo(f:Mo->IC->KB->Prop)(g:lf->dg Xf->wg):Prop:=∀u c K,f u c K->Inv P c.σ->RB P nm (λa X=>∀(D:FD),D.env.func.isSome=true->∀s,g D.env.scope s=true->Xs (D.f P n) (um u) (c.cx nm) s a X) K
def qo(f:Mo->IC->KT->Prop)(g:wg):Prop:=∀u c K,f u c K->Inv P c.σ->g=true->K true c
structure OK m:Prop where
 e:wo P n nm (A9 P n m).e (A7 nm m).e
 l:vo P n nm (A9 P n m).l (A7 nm m).l
 t:ro P n nm (A9 P n m).t (A7 nm m).t
 o:uo P n nm (A9 P n m).o (A7 nm m).o
 c:xo P n nm (A9 P n m).c (A7 nm m).c
 p:so P n nm (A9 P n m).p (A7 nm m).p
 b:yo P n nm (A9 P n m).b (A7 nm m).b
 z:qo P (A9 P n m).t (A7 nm m).z
end
theorem m4:wo P n nm Sm.F.e Ck.F.e:=λu c K h=>h.elim
theorem t7:vo P n nm Sm.F.l Ck.F.l:=λu c K h=>h.elim
theorem F7:ro P n nm Sm.F.t Ck.F.t:=λu c K h=>h.elim
theorem Y7:uo P n nm Sm.F.o Ck.F.o:=λu c K h=>h.elim
theorem q7:xo P n nm Sm.F.c Ck.F.c:=λu c K h=>h.elim
theorem s7:so P n nm Sm.F.p Ck.F.p:=λu c K h=>h.elim
theorem F5:yo P n nm Sm.F.b Ck.F.b:=λu c K h=>h.elim
theorem E7:qo P Sm.F.t Ck.F.z:=λu c K h=>h.elim
theorem CJ{x y:Str}(h:decide (x≠y)=true):(x==y)=false:=gf (qg h)
@[elab_as_elim] theorem TX{e:Expr}{Q:Expr->Prop}(h:SG s nm i e=true)(k:∀p,XZ (s.names.lookup (vn nm i))=true->(vn nm i==("__debug__"))=false->(vn nm i==("__classdict__"))=false->Q (.Name (vn nm i) p)):Q e:=
 g6 h λx p h=>
  haveI g:=l9 h;haveI f:=l9 g.1;haveI l:=l9 f.1;haveI e:=qg l.1
  e▸k p (e▸l.2) (e▸CJ f.2) (e▸CJ g.2)
@[elab_as_elim] theorem A6{k:Expr->dg Expr->re->wg}{e:Expr}{Q:Expr->Prop}(h:nP k e=true)(j:∀x es pos,k x es pos=true->Q (.Call x es [] pos)):Q e:=
 VW h λx z' z' z' h=>List.isEmpty_iff.mp (l9 h).1▸j x _ _ (l9 h).2
@[elab_as_elim] theorem u3{f:Expr}{es:dg Expr}{Q:Expr->Prop}(h:gl s x f es=true)(k:∀p,s.names.lookup x=some .globalImplicit->(x==("__debug__"))=false->es.all VS=true->Q (.Name x p)):Q f:=
 g6 h λy p h=>
  haveI l:=l9 h;haveI g:=l9 l.1;haveI q:=l9 g.1
  qg q.1▸k p (qg q.2) (CJ g.2) l.2
theorem S8{es:dg Expr}(h:es.all VS=true){pos:re}{env:Ia}:(Dc pos (Ae es env)).any (·.1)=false:=by
 induction es with
 |nil=>rfl
 |cons e _ i=>refine rL (V7 (l9 h).1) ?_;exact i (l9 h).2
@[elab_as_elim] theorem tI{f:Expr}{es:dg Expr}{pos:re}{k:Expr->wg}{Q:Expr->Prop}(h:mt x f es pos k=true)(j:∀o a,BO o=true->es.all VS=true->(a.endLine==pos.line)=true->es.length+0<30->k o=true->Q (.Attribute o x a)):Q f:=
 M6 h λo y a h=>
  haveI q:=l9 h;haveI p:=l9 q.1;haveI t:=l9 p.1;haveI g:=l9 t.1;haveI l:=l9 g.1
  qg l.1▸j o _ l.2 g.2 t.2 (vf p.2) q.2
@[elab_as_elim] theorem D3{k:Expr->wg}{es:dg Expr}{Q:dg Expr->Prop}(h:IX k es=true)(j:∀e,k e=true->Q [e]):Q es:=by
 cases es with
 |nil=>exact ff h
 |cons e es=>cases es with
  |nil=>exact j e h
  |cons _ _=>exact ff h
theorem VC(V:v4 nm):OK P n nm (.var i):=
 ⟨λu c K h I=>(o9 h).elim λa h=>⟨a,c,λD z' g=>TX g λp l f q=>gM ((O0 V).trans h.1) l f q,I,rfl,h.2⟩,t7,F7,Y7,q7,s7,F5,E7⟩
theorem qE{c:Const}{d:vg}(h:iw c d=true){k:yg}{p:re}:Ev F U X (.Constant c k p) (.a9 d) X:=by
 cases d with
 |none=>refine rL (qg h) ?_;exact wE
 |bool b=>refine rL (qg h) ?_;exact FE
 |int i=>refine rL (qg h) ?_;exact Oy
 |str x=>haveI q:=h;refine rL (qg (l9 q).1) ?_;exact Ly (l9 q).2
 |_=>exact ff h
theorem xB:OK P n nm (.con d):=⟨λu c K h I=>⟨_,c,λD z' f=>S3 f λk n p q=>qE q,I,rfl,h⟩,t7,F7,Y7,q7,s7,F5,E7⟩
theorem vB:OK P n nm (.JI k):=⟨λu c K h I=>⟨_,c,λD z' t=>g6 t λx p q=>
  haveI g:=l9 q;haveI f:=l9 g.1;haveI l:=l9 f.1
  (P.gd k (qg g.2)).elim λv z=>BE ((qg l.1)▸z.1) (qg l.2) z.2 (CJ f.2),I,rfl,h⟩,t7,F7,Y7,q7,s7,F5,E7⟩
theorem CB(A:OK P n nm m):OK P n nm (.I6 m i):=⟨λu c K h I=>(A.e u c _ h I).casesOn λa c1 E1 f r k=>D6 (RN k) λτ C z' q=>q.elim λv q=>
  haveI z:=P.cls C (((f _ _ q.2.1).cls C _ rfl).imp (·.1) (·.1))
  ⟨v,c1,λD z' y=>M6 y λo x p w=>
   haveI w1:=l9 w;haveI t:=l9 w1.1;haveI g:=l9 t.1;haveI l:=qg g.2
   qg g.1▸IE (q.1▸E1 D o w1.2) (LG q.2.1 z.1 (z.2 i l) l q.2.2.1) λenv=>j0 t.2,f,r,q.2.2.2⟩,t7,F7,Y7,q7,s7,F5,E7⟩
theorem YC(B:OK P n nm m1)(A:OK P n nm m2):OK P n nm (.sub m1 m2):=⟨λu c K h I=>(B.e u c _ h I).casesOn λa z' E1 t l C=>(A.e _ _ _ C t).casesOn λb g E z r k=>(QL k).casesOn λv O q=>
  ⟨v,g,λD z' y=>B8 y λo i p w=>haveI w1:=l9 w;haveI f:=l9 w1.1;Ky (E1 D o f.2) (E D i w1.2) (λz'=>K9) x9 (O _ _ _ _ f.1),z,r.trans l,q⟩,t7,F7,Y7,q7,s7,F5,E7⟩
@[elab_as_elim] theorem GM{q:O2}{k g:Ck}{e:Expr}{Q:Expr->Prop}(h:FJ q k g s e=true)(j:∀l r p,k.e s l=true->g.e s r=true->Q (.BinOp l q.op r p)):Q e:=
 lQ h λl o r p w=>haveI w1:=l9 w;haveI f:=l9 w1.1;qg f.1▸j l r p f.2 w1.2
theorem vN{o:O2}(h:o.DI=true):o= .add:=by cases o<;>first|rfl|cases h
theorem AB{o:O2}(G:OK P n nm m1)(C:OK P n nm m2):OK P n nm (.bin o m1 m2):=⟨λu c K h I=>(G.e u c _ h I).casesOn λa z' E1 i t H=>(C.e _ _ _ H i).casesOn λb f E B g k=>(WE k).casesOn λd O q=>
  ⟨.a9 d,f,λD z' A=>GM (A) λl r p w1 w=>Vy (E1 D l w1) (E D r w) (λz'=>K9) x9 (O _ _),B,g.trans t,q⟩,t7,F7,
 λu c K h I=>(G.e u c _ h I).casesOn λa z' E1 i t H=>(C.e _ _ _ H i).casesOn λb f E B g k=>(PZ (z9 k).2).elim λvs z=>(PZ z.2).elim λJ y=>
  ⟨_,f,λD e A=>GM (show FJ _ (A7 _ _) (A7 _ _) _ _=true from A) λl r p w1 w=>vN (z9 k).1▸(Fy (E1 D l w1) (E D r w) (λz'=>K9) x9 z.1 y.1 y.2.1).own,B,g.trans t,y.2.2⟩,q7,s7,F5,E7⟩
@[elab_as_elim] theorem yM{y:C2}{z k:Ck}{e:Expr}{Q:Expr->Prop}(h:QE y z k s e=true)(j:∀l r p,Ub y.op r=false->z.e s l=true->k.e s r=true->Q (.Compare l [y.op] [r] p)):Q e:=TW h λl f g p h=>by
 cases f with
 |nil=>exact ff h
 |cons o f=>cases f with
  |cons _ _=>exact ff h
  |nil=>cases g with
   |nil=>exact ff h
   |cons r g=>cases g with
    |cons _ _=>exact ff h
    |nil=>
     haveI t:=l9 h;haveI q:=l9 t.1;haveI w:=l9 q.1;exact qg w.1▸j l r p (mT w.2) q.2 t.2
theorem yB{o:C2}(G:OK P n nm m1)(C:OK P n nm m2):OK P n nm (.cmp o m1 m2):=⟨
 λu c K h I=>(G.e u c _ h I).casesOn λa z' E1 i w H=>(C.e _ _ _ H i).casesOn λb f E B g k=>(uM k).casesOn λt O q=>
  ⟨_,f,λD z' A=>yM A λl r p w1 z y=>Ry (E1 D l z) (E D r y) (λz'=>K9) x9 (O _ _) w1,B,g.trans w,q⟩,t7,
 λu c K h I=>(G.e u c _ h I).casesOn λa z' E1 i w H=>(C.e _ _ _ H i).casesOn λb f E B g k=>(uM k).casesOn λt O q=>
  ⟨t,f,λD z' A=>yM A λl r p w1 z y=>ny (E1 D l z) (E D r y) (λz'=>K9) x9 (O _ _) w1,B,g.trans w,q⟩,Y7,q7,s7,F5,λu c K h I q=>(by nomatch q)⟩
theorem pB(l:OK P n nm m):OK P n nm (.neg m):=⟨λu c K h I=>(l.e u c _ h I).casesOn λa c1 E1 f r k=>(o9 k).elim λi q=>
  ⟨_,c1,λD z' g=>G0 g λo x p w=>haveI w1:=l9 w;qg w1.1▸iJ (s8 q.1▸E1 D x w1.2) WB,f,r,q.2⟩,t7,F7,Y7,q7,s7,F5,E7⟩
theorem iB(f:OK P n nm m):OK P n nm (.one m):=⟨λu c K h I=>(f.e u c _ h I).casesOn λa c1 E1 i r k=>
  ⟨a,c1,λD z' g=>y5 g λo z' p w=>D3 w λe w=>Ny (E1 D e w),i,r,k⟩,t7,F7,Y7,q7,s7,F5,E7⟩
theorem zT{t:wg}{Q R:Prop}(h:t=true)(x:Q):if t=true then Q else R:=(xg h).mpr x
theorem AT{t:wg}{Q R:Prop}(h:t=false)(x:R):if t=true then Q else R:=(og (Bool.eq_false_iff.mp h)).mpr x
theorem sB(C:OK P n nm m1)(B:OK P n nm m2)(A:OK P n nm m3):OK P n nm (.ite m1 m2 m3):=⟨λu c K h I=>(C.t u c _ h I).casesOn λt z' E1 z y G=>(oY G).elim
  (λq=>(B.e u _ _ q.2 z).casesOn λa g E i r k=>⟨a,g,λD z' l=>NY l λx b o p w=>have w1:=l9 w;have f:=l9 w1.1;Py (E1 D x f.1) (zT q.1 (E D b f.2)),i,r.trans y,k⟩)
  λq=>(A.e u _ _ q.2 z).casesOn λa g E i r k=>⟨a,g,λD z' l=>NY l λx b o p w=>have w1:=l9 w;have f:=l9 w1.1;Py (E1 D x f.1) (AT q.1 (E D o w1.2)),i,r.trans y,k⟩,t7,F7,Y7,q7,s7,F5,E7⟩
@[elab_as_elim] theorem aQ{q k:Expr->wg}{o:BoolOp}{p:re}{Q:dg Expr->Prop}{es:dg Expr}(h:(match es with|e1::e::rest=>decide (o= .And)&&q e1&&k (.BoolOp .And (e::rest) p)|_=>false)=true)(j:∀e1 e r,o= .And->q e1=true->k (.BoolOp .And (e::r) p)=true->Q (e1::e::r)):Q es:=by
 cases es with
 |nil=>exact ff h
 |cons _ es=>cases es with
  |nil=>exact ff h
  |cons e r=>haveI l:=l9 h;haveI g:=l9 l.1;exact j _ _ r (qg g.1) g.2 l.2
theorem kG(H:OK P n nm m1)(C:OK P n nm m2):OK P n nm (.DW m1 m2):=⟨λu c K h I=>(H.e u c _ h I).casesOn λa c1 E1 i l J=>(o9 J).elim λt q=>(oY q.2).elim
  (λz=>(C.e u _ _ z.2 i).casesOn λb y E B A k=>⟨b,y,λD z' g=>y5 g λo z' p w=>aQ (Q:=λes=>Ev _ _ _ (.BoolOp o es p) b _) w λe1 z' r f x G=>f▸OI (vZ q.1▸E1 D _ x) yX trivial (zT z.1 (E D _ G)),B,A.trans l,k⟩)
  λz=>⟨a,c1,λD z' g=>y5 g λo z' p w=>aQ (Q:=λes=>Ev _ _ _ (.BoolOp o es p) a _) w λe1 z' r f x z'=>f▸OI (vZ q.1▸E1 D _ x) yX trivial (AT z.1 ⟨vZ q.1,rfl⟩),i,l,z.2⟩,t7,F7,Y7,q7,s7,F5,E7⟩
variable{W:Wd}
theorem BV{l:dg AV}(h:dc l.length 100=true){k:yg}(f:100<=k):l.length<=k:=bg (vf h) f
theorem mB:OK P n nm .nil:=⟨m4,λu c K h I=>⟨[],c,λD z' f=>List.isEmpty_iff.mp f▸bX,I,rfl,h⟩,λu c K h I=>⟨true,c,λD z' f=>ff f,I,rfl,h⟩,Y7,q7,
 λu c K h I=>⟨[],c,λD z' z' z' f=>List.isEmpty_iff.mp (l9 f).1▸List.isEmpty_iff.mp (l9 f).2▸OB,I,rfl,h⟩,λu c K h I=>⟨.next,c,λD z' z' f=>List.isEmpty_iff.mp f▸lC,I,h⟩,λu c K h I z'=>h⟩
theorem hG(y:OK P n nm m1)(p:OK P n nm m2):OK P n nm (.cons m1 m2):=⟨m4,λu c K h I=>(y.e u c _ h I).casesOn λa z' E1 i r k=>(p.l _ _ _ k i).casesOn λas A E q z B=>⟨a::as,A,λD l g=>by
  cases l with
  |nil=>exact ff g
  |cons e _=>haveI w1:=l9 g;haveI w:=l9 w1.1;exact q4 (E1 D e w.2) (E D _ w1.2) (λz'=>K9) x9 λenv=>V7 w.1,q,z.trans r,B⟩,F7,Y7,q7,s7,F5,E7⟩
theorem Zw(y:OK P n nm m1)(q:OK P n nm m2)(z:OK P n nm m3):OK P n nm (.pr m1 m2 m3):=⟨m4,t7,F7,Y7,q7,λu c K h I=>(y.e u c _ h I).casesOn λa z' E1 H t L=>(q.e _ _ _ L H).casesOn λb J E i C N=>(z.p _ _ _ N i).casesOn λO A E3 B r G=>⟨(a,b)::O,A,λD k es z' g=>by
  cases k with
  |nil=>exact ff g
  |cons x k=>cases x with
   |none=>exact ff g
   |some x=>cases es with
    |nil=>exact ff g
    |cons e _=>haveI w1:=l9 g;haveI w:=l9 w1.1;exact zG (E1 D x w.1) (E D e w.2) (E3 D _ _ _ w1.2) (λz' h=>h) (λz'=>K9) (λz' h=>K9 (K9 h)) (AV.t9 (λz' h=>⟨h,K9 h⟩) x9) x9,B,(r.trans C).trans t,G⟩,F5,E7⟩
theorem XC(f:OK P n nm m):OK P n nm (.tup m):=⟨λu c K h I=>(f.l u c _ h I).casesOn λas c1 E1 i r l=>(uZ (z9 l).2).elim λds q=>⟨_,c1,λD z' g=>I7 g λes k p w=>kJ (q.1▸E1 D _ w) (q.1▸BV (z9 l).1 (by decide)),i,r,q.2⟩,t7,F7,Y7,q7,s7,F5,E7⟩
theorem rB(g:OK P n nm m):OK P n nm (.lst m):=⟨λu c K h I=>(g.l u c _ h I).casesOn λas c1 E1 i r k=>(uZ (z9 k).2).elim λds q=>⟨_,c1,λD z' f=>RW f λes p w=>yE (q.1▸E1 D _ w) (q.1▸BV (z9 k).1 (by decide)),i,r,q.2⟩,t7,F7,
 λu c K h I=>(g.l u c _ h I).casesOn λas c1 E1 i r k=>⟨_,c1,λD z' f=>RW f λes p w=>(nE (E1 D _ w) (BV (z9 k).1 (by decide))).own,i,r,(z9 k).2⟩,q7,s7,F5,E7⟩
theorem ox(f:BF):f.nm∈[S "len",S "sorted",S "list",S "tuple",S "zip",S "min",S "max",S "set",S "range",S "int",S "isinstance"]/\oa f.nm=some f.val/\f.nm≠S "__name__":=by
 cases f<;>decide+kernel
theorem Qi(f:BF):Kp W f.val:=by
 cases f<;>first|exact r6|exact sZ
theorem zB{f:BF}(t:OK P n nm m):OK P n nm (.blt f m):=⟨λu c K h I=>(t.l u c _ h I).casesOn λas c1 E1 i r k=>(BJ k).casesOn λv O q=>⟨v,c1,λD z' z=>A6 z λx z' z' w=>haveI w1:=l9 w;u3 w1.1 λp l g y=>
  haveI B:=ox f
  N3 (k7 (P.no _ B.1) B.2.1 B.2.2 l g) (Qi f) (E1 D _ w1.2) (O _ _) λenv=>S8 y,i,r,q⟩,t7,F7,Y7,q7,s7,F5,E7⟩
theorem uE{y:Str}{p:re}{t:wb}(N:ZD F X y p (.type t)):Ev F U X (.Name y p) (.typ t) X:=λG s S=>N G s S _ λs' e q=> .here (e▸S) rfl q
theorem ur:oa (S "isinstance")=some (.builtin "isinstance")/\S "isinstance"≠S "__name__"/\S "isinstance"∈[S "len",S "sorted",S "list",S "tuple",S "zip",S "min",S "max",S "set",S "range",S "int",S "isinstance"]:=by decide+kernel
theorem QH:oa (S "set")=some (.type "set")/\S "set"≠S "__name__"/\S "set"∈[S "len",S "sorted",S "list",S "tuple",S "zip",S "min",S "max",S "set",S "range",S "int",S "isinstance"]:=by decide+kernel
@[elab_as_elim] theorem MS{k:Expr->Expr->wg}{Q:dg Expr->Prop}{es:dg Expr}(h:(match es with|[a,y]=>k a y|_=>false)=true)(j:∀a y,k a y=true->Q [a,y]):Q es:=by
 cases es with
 |nil=>exact ff h
 |cons a es=>cases es with
  |nil=>exact ff h
  |cons y es=>cases es with
   |nil=>exact j a y h
   |cons _ _=>exact ff h
theorem tB(A:OK P n nm m):OK P n nm (.VF m):=⟨λu c K h I=>(A.e u c _ h I).casesOn λa c1 E1 i r k=>(PZ k).elim λvs l=>⟨_,c1,λD z' G=>A6 G λx z' z' w=>MS (Q:=λes=>Ev _ _ _ (.Call x es [] _) _ _) w λe y w=>haveI w1:=l9 w;have g:=l9 w1.1;u3 g.1 λp t q C=>by
  haveI B:=ox .list;haveI f:=l9 C;refine u3 g.2 (λH E z z' z'=> ?_) (l9 f.2).1;exact N3 (k7 (P.no _ ur.2.2) ur.1 ur.2.1 t q) r6 (q4 (E1 D e w1.2) (q4 (uE (k7 (P.no _ B.1) B.2.1 B.2.2 E z)) bX (λz' h=>h) trivial λenv=>rfl) (λz'=>K9) x9 λenv=>V7 f.1) (vO l.1) λenv=>S8 (es:=[e,.Name _ _]) ((Sg _ _).mpr ⟨f.1,rfl⟩),i,r,l.2⟩,t7,F7,Y7,q7,s7,F5,E7⟩
theorem gv{id:yg}(z:OK P n nm m):OK P n nm (.fn id m):=⟨λu c K h I=>(z.l u c _ h I).casesOn λas z' E1 i r k=>(NN k i).casesOn λa C O y B G=>⟨a,C,λD z' E=>A6 E λx z' z' w=>
  haveI w1:=l9 w;haveI g:=l9 w1.1;haveI f:=l9 g.1;haveI l:=qg f.2
  u3 g.2 λp t q A=>N3 (FO (P.gl _ (qg f.1) l) t q) (uT (P.kp _ l)) (E1 D _ w1.2) (O D) λenv=>S8 A,y,B.trans r,G⟩,t7,F7,Y7,q7,s7,F5,E7⟩
theorem YG{id:yg}(h:XG τ id=true):(τ= .house/\id<43)\/(τ= .bank/\43<=id/\id<72):=((Jf _ _).mp h).imp (λh=>⟨qg (l9 h).1,qg (l9 h).2⟩) λh=>⟨qg (l9 h).1,qg (l9 (l9 h).2).1,qg (l9 (l9 h).2).2⟩
theorem XF(h:Q6 o=true):∃D as,o= .inst D as:=(Option.isSome_iff_exists.mp h).elim λp q=>⟨p.1,p.2,pR q⟩
theorem VG{id:yg}(I:Inv P c.σ)(e:c.σ τ=some o)(h:Q6 o=true)(q:XG τ id=true):id<72/\∀D:FD,Mt (D.f P n) (c.cx nm) (.g9 τ) (pg.nm id) (.ref (P.fv id)):=by
 refine M8 (XF h) λC z' u=> ?_;subst u;haveI f:=(I _ _ e).cls C _ rfl;have g:=P.cls C (f.imp (·.1) (·.1));rcases YG q with⟨rfl,l⟩|⟨rfl,l1,l2⟩
 ·haveI z:=f.resolve_right λz=>(by nomatch z.2);have l2:id<72:=Og l (by decide);exact⟨l2,λD=>sR e g.1 (z.1▸P.fc _ l) (P.fn _ l2).1 (P.fn _ l2).2⟩
 ·have z:=f.resolve_left λz=>(by nomatch z.2);exact⟨l2,λD=>sR e g.1 (z.1▸P.fb _ l1 l2) (P.fn _ l2).1 (P.fn _ l2).2⟩
theorem qB{id:yg}(B:OK P n nm m1)(g:OK P n nm m2):OK P n nm (.met m1 id m2):=⟨λu c K h I=>(B.e u c _ h I).casesOn λa z' E1 i A N=>(g.l _ _ _ N i).casesOn λas z' E t J Q=>(O6 Q).elim λτ q=>q.elim λo q=>
  haveI z:=z9 q.2.2;haveI M:=VG i q.2.1 (l9 z.1).1 (l9 z.1).2
  (NN z.2 t).casesOn λb C O G r k=>⟨b,C,λD z' L=>A6 L λx z' z' w=>tI w λo z' p l H y f=>hM (E1 D o (l9 f).1) (q.1▸M.2 D) (uT (P.kp _ (Æ M.1 (by decide)))) (λz'=>K9) x9 (E D _ (l9 f).2) (O D) (λenv=>S8 l) (λenv=>j0 p) H y,G,(r.trans J).trans A,k⟩,t7,F7,Y7,q7,s7,F5,E7⟩
theorem bv{f:LM}(z:OK P n nm m1)(l:OK P n nm m2):OK P n nm (.lm m1 f m2):=⟨λu c K h I=>(z.e u c _ h I).casesOn λa z' E1 J y L=>(l.l _ _ _ L J).casesOn λas z' E i G N=>(oF N i).casesOn λid b A M O B r k=>
  ⟨b,A,λD z' H=>A6 H λx z' z' w=>tI w λo z' q p C t g=>hM (E1 D o (l9 g).1) (M _) r6 (λz'=>K9) x9 (E D _ (l9 g).2) (O _ _) (λenv=>S8 p) (λenv=>j0 q) C t,B,(r.trans G).trans y,k⟩,t7,F7,Y7,q7,s7,F5,E7⟩
theorem gB(q:OK P n nm m):OK P n nm (.own τ m):=⟨λu c K h I=>(q.o u c _ h I).casesOn λo z' E1 i r k=>
  haveI z:=z9 k;haveI y:=l9 z.1
  (TP z.2 i).casesOn λf L e l p w=>⟨_,f,λD t g=>e.symm▸My (E1 D _ g) (XY y.1) (L y.2),l,p.trans r,w⟩,t7,F7,Y7,q7,s7,F5,E7⟩
@[elab_as_elim] theorem VP{up:wg}{k z:Ck}{e:Expr}{Q:Expr->Prop}(h:NH up k z s e=true)(j:∀o x p q,k.e s o=true->z.e s x=true->Q (.Subscript o (match up with|true=> .Slice none (some x) none q|false=> .Slice none none (some x) q) p)):Q e:=
 B8 h λo i p w=>by
  refine kQ w λa b d q w=> ?_;cases up with
  |true=>
   have w1:=l9 w;have l:=l9 w1.1;have y:=l9 l.1;cases b with
   |none=>exact ff l.2
   |some b=>cases a with
    |some _=>exact ff y.1
    |none=>cases d with
     |some _=>exact ff y.2
     |none=>exact j o b p q w1.2 l.2
  |false=>
   have w1:=l9 w;have l:=l9 w1.1;have y:=l9 l.1;cases d with
   |none=>exact ff l.2
   |some d=>cases a with
    |some _=>exact ff y.1
    |none=>cases b with
     |some _=>exact ff y.2
     |none=>exact j o d p q w1.2 l.2
theorem WP{g f p:gg kg}{ds es:dg vg}(h:C3 g f p ds=some es):C3 g f p (ds.map AV.a9)=some (es.map .a9):=by
 unfold C3 at h⊢;split at h
 ·rename_i z;refine rL (xg z) ?_;cases f with
  |none=>cases h
  |some b=>
   haveI h:(if 0<=b then some _ else if b= -1 then some _ else none)=some es:=h;show(if 0<=b then some _ else if b= -1 then some _ else none)=some _;rw [ng,<-Jb,<-Jb];split at h
   ·rename_i y;refine rL (xg y) ?_;exact eg (λl=>l.map (List.map AV.a9)) h
   ·rename_i y;refine rL (og y) ?_;split at h
    ·rename_i w;refine rL (xg w) ?_;exact eg (λl=>l.map (List.map AV.a9)) h
    ·exact(by nomatch h)
 ·rename_i z;refine rL (og z) ?_;split at h
  ·rename_i y;rw [xg y,<-ig h,Xd]
  ·exact(by nomatch h)
theorem kF{c:IC}{Q:dg vg->Prop}(h:Zq c a Q):∃ds,(∀F,qq F (c.cx nm) a (ds.map .a9))/\Q ds:=(L9 h).elim
 (λz=>z.elim λp z=>z.2.elim λns w=>⟨zs _,λF G s v S r=>by
  haveI e:a= .raw (SJ ns):=by
   cases a with
   |raw _=>exact eg _ ((ig z.1).trans w.1)
   |_=>exact(s9 z.1 rfl).elim
  obtain⟨y,o,e,p,e1,items,n,l,f⟩:=(e▸r);exact⟨y,items,e,⟨o,S.sr.y9 _ _ (.inl p),e1,n,l⟩,(KX f).R6⟩,w.2⟩)
 λh=>(G5 h.2).imp λds z=>⟨λF=>z.1.rd,z.2⟩
theorem bB(B:OK P n nm m1)(A:OK P n nm m2):OK P n nm (.qU m1 m2):=⟨
 λu c K h I=>(B.e u c _ h I).casesOn λa z' E1 i r C=>(A.e _ _ _ C i).casesOn λb f E t y G=>(o9 G).elim λk q=>(kF q.2).elim λds l=>(o9 l.2).elim λes z=>
  ⟨_,f,λD e g=>VP (show NH true (A7 _ _) (A7 _ _) _ _=true from g) λo x p z' w1 w=>(pW (E1 D o w1) (aM (s8 q.1▸E D x w)) (λz'=>K9) x9 (l.1 _) (WP z.1) (Hh z.2.1) ⟨λa b=>[b,a],λa b=>rfl⟩).a9,t,y.trans r,z.2.2⟩,t7,F7,
 λu c K h I=>(B.e u c _ h I).casesOn λa z' E1 i r C=>(A.e _ _ _ C i).casesOn λb f E t y G=>(o9 G).elim λk q=>(PZ q.2).elim λds l=>(o9 l.2).elim λes z=>
  ⟨_,f,λD e g=>VP (show NH true (A7 _ _) (A7 _ _) _ _=true from g) λo x p z' w1 w=>(pW (E1 D o w1) (aM (s8 q.1▸E D x w)) (λz'=>K9) x9 l.1.rd z.1 z.2.1 ⟨λa b=>[b,a],λa b=>rfl⟩).own,t,y.trans r,z.2.2⟩,q7,s7,F5,E7⟩
theorem cB(B:OK P n nm m1)(A:OK P n nm m2):OK P n nm (.fL m1 m2):=⟨
 λu c K h I=>(B.e u c _ h I).casesOn λa z' E1 i r C=>(A.e _ _ _ C i).casesOn λb f E t y G=>(o9 G).elim λk q=>(G5 q.2).elim λds l=>(o9 l.2).elim λes z=>
  ⟨_,f,λD e g=>VP (show NH false (A7 _ _) (A7 _ _) _ _=true from g) λo x p z' w1 w=>(pW (E1 D o w1) (HE (s8 q.1▸E D x w)) (λz'=>K9) x9 l.1.rd (WP z.1) (Hh z.2.1) ⟨λa b=>[a,b],λa b=>rfl⟩).a9,t,y.trans r,z.2.2⟩,t7,F7,Y7,q7,s7,F5,E7⟩
@[elab_as_elim] theorem qM{e:Expr}{Q:Expr->Prop}(h:d0 s e=true)(j:∀p,Q (.Dict [] [] p)):Q e:=SW h λk z' p w=>List.isEmpty_iff.mp (l9 w).1▸List.isEmpty_iff.mp (l9 w).2▸j p
theorem sv:OK P n nm .dI:=⟨m4,t7,F7,λu c K h I=>⟨_,c,λD e f=>qM (show d0 D.env.scope _=true from f) λp=>oM,I,rfl,h⟩,q7,s7,F5,E7⟩
theorem qv:OK P n nm .dL:=⟨m4,t7,F7,λu c K h I=>⟨_,c,λD e f=>qM (show d0 D.env.scope _=true from f) λp=>nM,I,rfl,h⟩,q7,s7,F5,E7⟩
theorem kv:OK P n nm .dT:=⟨m4,t7,F7,λu c K h I=>⟨_,c,λD e f=>qM (show d0 D.env.scope _=true from f) λp=>mM,I,rfl,h⟩,q7,s7,F5,E7⟩
theorem rG{f:dg (AV×AV)}{Q:dg (Str×AV)->Prop}(h:fT f Q):∃l,f=l.map (λp=>(.a9 (.str p.1),p.2))/\Q l:=by
 induction f generalizing Q with
 |nil=>exact⟨[],rfl,h⟩
 |cons p _ i=>exact(o9 h).elim λk h=>(i h.2).elim λl q=>⟨(k,p.2)::l,List.cons_eq_cons.mpr ⟨nb (UU h.1) rfl,q.1⟩,q.2⟩
theorem sG{f:dg (AV×AV)}{Q:dg (kg×AV)->Prop}(h:gT f Q):∃l,f=l.map (λp=>(.a9 (.int p.1),p.2))/\Q l:=by
 induction f generalizing Q with
 |nil=>exact⟨[],rfl,h⟩
 |cons p _ i=>exact(o9 h).elim λk h=>(i h.2).elim λl q=>⟨(k,p.2)::l,List.cons_eq_cons.mpr ⟨nb (s8 h.1) rfl,q.1⟩,q.2⟩
theorem rV{K:Type}[ef K]{R:K->Prop}{l:dg (K×AV)}{f:K->gg AV}(g:∀t,(f t).isSome=true->R t)(h:∀p∈l,R p.1)(t:K)(q:(b7 f l t).isSome=true):R t:=by
 induction l generalizing f with
 |nil=>exact g t q
 |cons p l i=>exact i (a5 g (h p (.head _))) (λp m=>h p (.tail _ m)) q
@[elab_as_elim] theorem RI{q:Ck}{e:Expr}{Q:Expr->Prop}(h:Nr q s e=true)(j:∀k es p,k.all (·.isSome)=true->k.length=es.length->k≠[]->k.length<=15->q.p s k es=true->Q (.Dict k es p)):Q e:=
 SW h λk z' p w=>
  haveI w1:=l9 w;haveI g:=l9 w1.1;haveI f:=l9 g.1;haveI l:=l9 f.1
  j _ _ p l.1 (beq_iff_eq.mp l.2) (λe=>by haveI f:=e▸f;exact ff f.2) (vf g.2) w1.2
theorem nv(A:OK P n nm m):OK P n nm (.dS m):=⟨m4,t7,F7,λu c K h I=>(A.p u c _ h I).casesOn λC c1 E1 i r B=>(rG B).elim λl q=>haveI z:=z9 q.2
  ⟨_,c1,λD z' g=>RI (g) λk z' p f y w t x=>Yy (q.1▸E1 D _ _ p x) (rV (λz' q=>(by nomatch q)) λp m=>qg (List.all_eq_true.mp (l9 z.1).2 p m)) f y w t,i,r,z.2⟩,q7,s7,F5,E7⟩
theorem pv(A:OK P n nm m):OK P n nm (.dN m):=⟨m4,t7,F7,λu c K h I=>(A.p u c _ h I).casesOn λC c1 E1 i r B=>(sG B).elim λl q=>haveI z:=z9 q.2
  ⟨_,c1,λD z' g=>RI (g) λk z' p f y w t x=>Zy (q.1▸E1 D _ _ p x) (rV (λz' q=>(by nomatch q)) λp m=>List.all_eq_true.mp z.2.1 p m) f y w t,i,r,z.2.2⟩,q7,s7,F5,E7⟩
theorem oW(f:uU P τ o)(h:C6 τ o')(c:∀D as,o'≠ .inst D as)(d:∀w f,o'≠ .p9 w f):uU P τ o':=⟨h,λD z' e=>absurd e (c D _),λκ g z' e=>absurd e (d _ g)⟩
inductive RZ(P:y8)(nm:dg Str)(u:Mo)(c:IC)(K:Mo->IC->(IC->(IC->Prop)->Prop)->Prop):Prop
 |mk (τ:Tg) (o o':d9) (c1:IC) (e:c.σ τ=some o) (z:Fz o o') (e1:c1.cx nm=⟨(c.cx nm).ρ,up (c.cx nm).σ τ o'⟩) (i:Inv P c1.σ) (r:c1.ρ=c.ρ) (k:K (u.1,τ::u.2) c1 λc2 k=>c2.σ τ=some o'/\put c2 τ o k)
theorem HT{K:Mo->IC->(IC->(IC->Prop)->Prop)->Prop}(h:V5 u c K)(I:Inv P c.σ):RZ P nm u c K:=by
 obtain⟨τ,o,o',e,z,h⟩:=h;haveI f:=I _ o e;exact(e7 (R:=λX=>X=_) h I (oW f ((z.k _).mp f.hold) (λD z'=>(z.cls D _).1) λw g=>(z.C7 w g).1) rfl).casesOn λc1 E i r k=>⟨τ,o,o',c1,e,z,E,i,r,k⟩
theorem uX{t:Tg}(h:um u t\/t=τ):um (u.1,τ::u.2) t:=h.elim (λh=>h.imp id (.tail _)) λh=>h▸ .inr (.head _)
theorem vY.weak{l:Tg->Prop}{e:Expr}(h:∀τ,l τ->U τ)(E:vY F U X e o Y):vY F l X e o Y:=λG s S=>Jg (E G s S) (λv z' z=>z.casesOn λt g S q x v p w a f y A B=>⟨t,g.weak h,S,q,x,v,p,w,a,f,y,A,B⟩) λz' z' z=>z
theorem ev(C:OK P n nm m):OK P n nm (.fz m):=⟨λu c K h I=>(HT h I).casesOn λτ o z' z' e z e1 l A J=>(C.e _ _ _ J l).casesOn λa z' E i B H=>
  have f:=i _ _ H.1
  (e7 H.2 i (oW f ((z.k _).mpr f.hold) (λD z'=>(z.cls D _).2) λw g=>(z.C7 w g).2) rfl).casesOn λt y p r k=>
  ⟨a,t,λD G q=>y.symm▸Qy z e (Do.weak (λz'=>uX) (e1▸E D _ q)) H.1,p,(r.trans B).trans A,k⟩,t7,F7,
 λu c K h I=>(HT h I).casesOn λτ o z' z' e z e1 l A J=>(C.o _ _ _ J l).casesOn λa z' E i B H=>
  have f:=i _ _ H.1
  (e7 H.2 i (oW f ((z.k _).mpr f.hold) (λD z'=>(z.cls D _).2) λw g=>(z.C7 w g).2) rfl).casesOn λt y p r k=>
  ⟨a,t,λD G q=>y.symm▸DE z e (vY.weak (λz'=>uX) (e1▸E D _ q)) H.1,p,(r.trans B).trans A,k⟩,q7,s7,F5,E7⟩
theorem wH{e:Expr}(h:(U6 (λx p=>true) e||WW (λx y z p=>true) e)=true){env:Ia}{w:Ra zg}:isTrue e env w=(do let v<-w;Wa e.pos;Xa [v] (truthy v)):=
 ((Jf _ _).mp h).elim (λh=>g6 h λx p z'=>rfl) λh=>VW h λx y z p z'=>rfl
theorem WC(g:OK P n nm m):OK P n nm (.val m):=⟨m4,t7,λu c K h I=>(g.e u c _ h I).casesOn λa c1 E1 i r k=>(o9 k).elim λb q=>⟨b,c1,λD e f=>ly (vZ q.1▸E1 D _ (l9 f).2) yX λenv w=>wH (l9 f).1,i,r,q.2⟩,Y7,q7,s7,F5,λu c K h I q=>(by nomatch q)⟩
theorem lB(g:OK P n nm m):OK P n nm (.not m):=⟨m4,t7,λu c K h I=>(g.t u c _ h I).casesOn λb c1 E1 i r k=>⟨_,c1,λD z' f=>G0 f λo x p w=>qg (l9 w).1▸my (E1 D x (l9 w).2),i,r,k⟩,Y7,q7,s7,F5,λu c K h I q=>(by nomatch q)⟩
theorem fD{O:BoolOp}{t:wg}{e:Expr}(E:It F U X e t Y):At F U X O [e] t Y:=by
 cases O with
 |And=>exact SM E (by cases t<;>first|exact zT rfl rD|exact AT rfl ⟨rfl,rfl⟩)
 |Or=>exact oD E (by cases t<;>first|exact AT rfl Fx|exact zT rfl ⟨rfl,rfl⟩)
def Co(k2:Ck)(s:lf)(O:BoolOp)(r:dg Expr):Prop:=∀{F U X t Y},(∀e,k2.t s e=true->It F U X e t Y)->At F U X O r t Y
@[elab_as_elim] theorem VR{O:BoolOp}{k q:Ck}{e:Expr}{Q:Expr->Prop}(h:fq O k q s e=true)(j:∀a r p,k.t s a=true->Co q s O r->Q (.BoolOp O (a::r) p)):Q e:=
 y5 h λo es p w=>by
  cases es with
  |nil=>exact ff w
  |cons a r=>cases r with
   |nil=>exact ff w
   |cons b r=>
    have g:∀{x},(decide (o=O)&&k.t s a&&x)=true->(x=true->Co _ s O (b::r))->Q _:=λw z=>haveI w1:=l9 w;haveI l:=l9 w1.1;qg l.1▸j a _ p l.2 (z w1.2);cases r with
    |nil=>exact g w λw {_ _ _ _ _} E=>fD (E b w)
    |cons c r=>exact g w λw {_ _ _ _ _} E=>E _ w
theorem DB(C:OK P n nm m1)(A:OK P n nm m2):OK P n nm (.and m1 m2):=⟨m4,t7,λu c K h I=>(C.t u c _ h I).casesOn λt c1 E1 i r k=>(oY k).elim
  (λq=>(A.t u _ _ q.2 i).casesOn λl w E y z G=>⟨l,w,λD z' g=>VR (g) λe f p x B=>iW (SM (E1 D e x) (zT q.1 (B (E D)))),y,z.trans r,G⟩)
  λq=>⟨false,c1,λD z' g=>VR (g) λe f p x z'=>iW (SM (E1 D e x) (AT q.1 ⟨rfl,rfl⟩)),i,r,q.2⟩,Y7,q7,s7,F5,λu c K h I q=>(by nomatch q)⟩
theorem av(C:OK P n nm m1)(A:OK P n nm m2):OK P n nm (.or m1 m2):=⟨m4,t7,λu c K h I=>(C.t u c _ h I).casesOn λt c1 E1 i r k=>(oY k).elim
  (λq=>⟨true,c1,λD z' g=>VR (g) λe f p x z'=>iW (oD (E1 D e x) (zT q.1 ⟨rfl,rfl⟩)),i,r,q.2⟩)
  λq=>(A.t u _ _ q.2 i).casesOn λl w E y z G=>⟨l,w,λD z' g=>VR (g) λe f p x B=>iW (oD (E1 D e x) (AT q.1 (B (E D)))),y,z.trans r,G⟩,Y7,q7,s7,F5,λu c K h I q=>(by nomatch q)⟩
variable{mk:M}{is:dg yg}{ρ:dg (yg×AV)}
@[elab_as_elim] theorem F3{e:Expr}{Q:Expr->Prop}(h:iL s nm i e=true)(k:∀p,b6 (s.names.lookup (vn nm i))=true->Q (.Name (vn nm i) p)):Q e:=
 g6 h λx p h=>qg (l9 h).1▸k p (qg (l9 h).1▸(l9 h).2)
theorem k4(V:v4 nm):(c.set i a).cx nm=⟨W9 (c.cx nm).ρ (vn nm i) a,(c.cx nm).σ⟩:=by
 exact rL (CO V) rfl
theorem ZP(V:v4 nm){z:Str}(h:z≠vn nm i):((c.set i a).cx nm).ρ.lookup z=(c.cx nm).ρ.lookup z:=by
 refine rL (k4 V) ?_;exact F6 h
theorem BS(V:v4 nm):((c.set i a).cx nm).ρ=W9 (c.cx nm).ρ (vn nm i) a:=eg _ (k4 V)
theorem HZ{t:Expr}{f:dg Expr}{g:dg yg}(h:wS s nm g (t::f)=true):∃i j,g=i::j/\iL s nm i t=true/\wS s nm j f=true:=by
 cases g with
 |nil=>exact ff h
 |cons i j=>exact⟨i,j,rfl,(l9 h).1,(l9 h).2⟩
def HF(D:FD)(nm:dg Str)(is:dg yg):Prop:=D.env.func.isSome=true\/∀i∈is,D.env.scope.names.lookup (vn nm i)=some .local
inductive RT P n nm is vs(c:IC)(K:IC->Prop):Prop
 |mk c' (A:∀D,HF D nm is->∀t,wS D.env.scope nm is t=true->AD (D.f P n) (c.cx nm) t vs (c'.cx nm)) (B:∀D,HF D nm is->∀t,wS D.env.scope nm is t=true->∀σ,AD (D.f P n) ⟨(c.cx nm).ρ,σ⟩ t vs ⟨(c'.cx nm).ρ,σ⟩) (N:∀D,HF D nm is->(∀i∈is,b6 (D.env.scope.names.lookup (vn nm i))=true)->Sx (D.f P n) (c.cx nm) (is.map (vn nm)) vs (c'.cx nm)) (i:Inv P c'.σ) (l:is.length=vs.length) (e:c'.σ=c.σ/\∀z,(∀i∈is,z≠vn nm i)->(c'.cx nm).ρ.lookup z=(c.cx nm).ρ.lookup z) (k:K c')
theorem AX(V:v4 nm){K:IC->Prop}(h:qQ is vs c K)(I:Inv P c.σ):RT P n nm is vs c K:=by
 induction is generalizing vs c with
 |nil=>cases vs with
  |nil=>exact⟨c,λD z' p w=>(by
    cases p with
    |nil=>exact ZR
    |cons _ _=>exact ff w),λD z' p w z'=>(by
    cases p with
    |nil=>exact ZR
    |cons _ _=>exact ff w),λD z' z'=>LJ,I,rfl,⟨rfl,λz' z'=>rfl⟩,h⟩
  |cons _ _=>exact h.elim
 |cons i _ C=>cases vs with
  |nil=>exact h.elim
  |cons v _=>
   exact(C h I).casesOn λc' A B N E l e k=>⟨c',λD y p w=>(by
    cases p with
    |nil=>exact ff w
    |cons t p=>
     have w1:=l9 w;exact F3 w1.1 λq x=>gU (wZ x (y.imp id λh=>h i (.head _))) ((k4 V)▸A D (y.imp id λh j m=>h j (.tail _ m)) _ w1.2) λenv=>rfl),λD y p w z'=>(by
    cases p with
    |nil=>exact ff w
    |cons t p=>
     haveI w1:=l9 w;exact F3 w1.1 λq x=>gU (wZ x (y.imp id λh=>h i (.head _))) (BS V▸B D (y.imp id λh j m=>h j (.tail _ m)) _ w1.2 _) λenv=>rfl),λD y w=>JM (w i (.head _)) (y.imp id λh=>h i (.head _)) ((k4 V)▸N D (y.imp id λh j m=>h j (.tail _ m)) λj m=>w j (.tail _ m)),E,eg _ l,⟨e.1,λz q=>(e.2 z λj m=>q j (.tail _ m)).trans (ZP V (q i (.head _)))⟩,k⟩
theorem A5{f:dg Expr}{env:Ia}(h:wS s nm is f=true):(Fc f env).length=is.length/\(Fc f env).findIdx? (·.1)=none/\∀i∈is,b6 (s.names.lookup (vn nm i))=true:=by
 induction f generalizing is with
 |nil=>cases is with
  |nil=>exact⟨rfl,rfl,λz' m=>(by nomatch m)⟩
  |cons _ _=>exact ff h
 |cons t f l=>
  refine u8 (HZ h) λi A v y g=> ?_;subst v;refine eP (l g) λq z w=> ?_;refine F3 y λp x=>⟨eg _ q,?_,λj m=>(List.mem_cons.mp m).elim (λe=>e▸x) (w j)⟩;refine rL (List.findIdx?_cons) (rL z ?_);rfl
inductive Ti P n nm one is v(c:IC)(K:IC->Prop):Prop
 |mk c' (A:∀D,HF D nm is->∀t,cL D.env.scope nm one is t=true->As (D.f P n) (c.cx nm) t v (c'.cx nm)) (B:∀D,HF D nm is->∀t,cL D.env.scope nm one is t=true->∀σ,As (D.f P n) ⟨(c.cx nm).ρ,σ⟩ t v ⟨(c'.cx nm).ρ,σ⟩) (i:Inv P c'.σ) (e:c'.σ=c.σ/\∀z,(∀i∈is,z≠vn nm i)->(c'.cx nm).ρ.lookup z=(c.cx nm).ρ.lookup z) (k:K c')
theorem TU(V:v4 nm){o:wg}{K:IC->Prop}(h:U5 o y v c K)(I:Inv P c.σ):Ti P n nm o y v c K:=by
 cases o with
 |true=>
  cases y with
  |nil=>exact h.elim
  |cons i y=>cases y with
   |cons _ _=>exact h.elim
   |nil=>exact⟨c.set i v,λD f t w=>F3 (w) λp x=>(k4 V)▸wZ x (f.imp id λh=>h i (.head _)),λD f t w z'=>F3 (w) λp x=>(BS V)▸wZ x (f.imp id λh=>h i (.head _)),I,⟨rfl,λz q=>ZP V (q i (.head _))⟩,h⟩
 |false=>exact(o9 h).elim λds q=>(AX V q.2 I).casesOn λc' A B N H l e k=>⟨c',λD f t w=>j6 q.1▸I7 (w) λG k p w=>iU (A D f _ w) (λenv=>(A5 w).1.trans l) λenv=>(A5 w).2.1,λD f t w z'=>j6 q.1▸I7 (w) λG k p w=>iU (B D f _ w _) (λenv=>(A5 w).1.trans l) λenv=>(A5 w).2.1,H,e,k⟩
noncomputable def FD.xr(D:FD)(sc:lf)(h:sc.kind= .function)(L:yg):FD:=⟨D.A,compEnvC sc (yW sc D.env) L D.env,[L],h⟩
@[elab_as_elim] theorem zN{k1:Ck}{fs:dg Expr}{Q:dg Expr->Prop}(h:AN k1 s fs=true)(h0:k1.z=true->Q [])(h1:k1.z=false->∀e,k1.t s e=true->Q [e]):Q fs:=by
 cases fs with
 |nil=>exact h0 h
 |cons e fs=>cases fs with
  |nil=>exact h1 (W5 (l9 h).1) e (l9 h).2
  |cons _ _=>exact ff h
def tw(P:y8)(n:yg)(nm:dg Str)(u:Mo)(T:IC->KT->Prop)(g:lf->dg Expr->wg):Prop:=∀c (K:KT),T c K->Inv P c.σ->RX P nm c (λt X=>∀(D:FD) fs,g D.env.scope fs=true->Ts (D.f P n) (um u) (c.cx nm) fs t X) K
theorem Io(l:OK P n nm m):tw P n nm u ((A9 P n m).t u) (AN (A7 nm m)):=λc K h I=>by
 cases hz:(A7 _ m).z with
 |true=>exact⟨true,c,λD z' q=>zN q (λz'=>HP) λz=>absurd (hz.symm.trans z) (by decide),I,rfl,l.z u c K h I hz⟩
 |false=>exact(l.t u c K h I).casesOn λt c1 E i r k=>⟨t,c1,λD z' q=>zN q (λz=>absurd (hz.symm.trans z) (by decide)) λz' e w=>DH (E D e w),i,r,k⟩
theorem Iw:tw P n nm u (λc K=>K true c) λz' fs=>fs.isEmpty:=λc K h I=>⟨true,c,λD z' q=>List.isEmpty_iff.mp q▸HP,I,rfl,h⟩
def qw(P:y8)(n:yg)(nm:dg Str)(u:Mo)(E:IC->KE->Prop)(q:FD->Cm->Prop):Prop:=∀c (K:KE),E c K->Inv P c.σ->RX P nm c (λa X=>∀(D:FD) kd,q D kd->∀G s,ST (D.f P n) (c.cx nm) G s.heap->kd.cmp (RA (D.f P n) (um u) X G s (kd.R a)) s) K
inductive Xi(P:y8)(nm:dg Str)(R:dg AV->(Tg->gg d9)->Prop)(K:KL):Prop
 |mk (ws:dg AV) (c':IC) (E:R ws c'.σ) (i:Inv P c'.σ) (k:K ws c')
theorem PR{c1 c:IC}(r:c1.ρ=c.ρ):c1.cx nm=⟨(c.cx nm).ρ,c1.σ⟩:=by
 unfold IC.cx;exact rL r rfl
theorem OE(V:v4 nm){j:wg}{T:IC->KT->Prop}{E:IC->KE->Prop}{g:lf->dg Expr->wg}{q:FD->Cm->Prop}(m:qw P n nm u E q)(R:tw P n nm u T g){K:KL}(h:rJ T E ρ j is vs c K)(I:Inv P c.σ):
  Xi P nm (λH σ'=>∀D kd,q D kd->g D.env.scope kd.ifs=true->cL D.env.scope nm j is kd.x=true->HF D nm is->(∀z v,(yY nm ρ).lookup z=some v->∀i∈is,z≠vn nm i)->Cp (D.f P n) (um u) kd (yY nm ρ) σ' vs c.σ H) K:=by
 induction vs generalizing c K with
 |nil=>exact⟨[],c,λD z' z' z' z' z' z'=>⟨rfl,rfl⟩,I,h⟩
 |cons v _ J=>
  exact(TU V h I).casesOn λB z' Q o L k0=>(R _ _ k0 o).casesOn λt c1 E1 N r X=>by
   have tk:∀D,HF D _ _->∀t,cL _ _ _ _ t=true->(∀z v,(yY _ _).lookup z=some v->∀i∈is,z≠vn _ i)->Tk _ t v (yY _ ρ) (B.cx _).ρ:=λD O t w hd=>⟨Q D O t w,λz v e=>(L.2 z (hd z v e)).trans e⟩;have s:B.cx _=⟨(B.cx nm).ρ,c.σ⟩:=eg _ L.1;exact(oY X).elim
    (λy=>(m _ _ y.2 N).casesOn λa F S b Z U=>(o9 U).elim λd z=>(J z.2 b).casesOn λH G E3 C k=>⟨_,G,λD z' A x f l p=>⟨_,c1.σ,tk D l _ f p,.inr ⟨a,F.σ,H,PR r▸s▸y.1▸E1 D _ x,PR r▸PR (Z.trans r)▸S D _ A,S6 z.1▸trivial,eg (·::H) (S6 z.1).symm,E3 D _ A x f l p⟩⟩,C,k⟩)
    λy=>(J y.2 N).casesOn λH G E3 C k=>⟨H,G,λD z' A x f l p=>⟨_,c1.σ,tk D l _ f p,.inl ⟨PR r▸s▸y.1▸E1 D _ x,E3 D _ A x f l p⟩⟩,C,k⟩
theorem CS{D:FD}{s:lf}(h:TH D.env.scope s=true):cP (D.f P n) s:=
 haveI f:=l9 h;have q:=List.all_eq_true.mp f.2
 ⟨λy m=>qg (l9 (l9 (q y m)).1).1,qg f.1,λy m e=>qg (((Jf _ _).mp (l9 (l9 (q y m)).1).2).resolve_left λz=>qg z e),λy m e=>qg (((Jf _ _).mp (l9 (q y m)).2).resolve_left λz=>qg z e)⟩
structure GC(nm:dg Str)(s:lf)(is:dg yg)(one:wg)(k2:Ck)(fv:dg yg)(t iter:Expr)(sc:lf):Prop where
 x1:TH s sc=true
 x2:∀i∈is,sc.names.lookup (vn nm i)=some .local
 x3:vV iter=true
 x4:k2.e s iter=true
 x5:cL (bT s sc) nm one is t=true
 x7:∀i∈fv,i∉is/\(bT s sc).names.lookup (vn nm i)≠some .local
@[elab_as_elim] theorem tR{o:wg}{E:Ck}{D:dg yg}{f:dg zc}{h:lf}{k:lf->dg Expr->wg}{Q:dg zc->Prop}(w:bE nm s is o E D f h k=true)(J:∀t iter fs,GC nm s is o E D t iter h->k (bT s h) fs=true->Q [⟨t,iter,fs,0⟩]):Q f:=by
 cases f with
 |nil=>exact ff w
 |cons g f=>
  obtain⟨t,iter,fs,d⟩:=g;cases f with
  |cons _ _=>exact ff w
  |nil=>
   haveI w1:=l9 w;haveI A:=l9 w1.1;haveI p:=l9 A.1;haveI l:=l9 p.1;haveI y:=l9 l.1;haveI B:=l9 y.1;haveI C:=l9 B.1;exact(qg C.1)▸J t _ _ ⟨B.2,λi m=>qg (List.all_eq_true.mp y.2 i m),l.2,p.2,C.2,λi m=>have z:=l9 (List.all_eq_true.mp w1.2 i m);⟨λq=>by haveI z:=List.contains_iff_mem.mpr q▸z;exact ff z.1,qg z.2⟩⟩ A.2
def Np(P:y8)(n:yg)(it:M)(T:IC->KT->Prop)(E:IC->KE->Prop)(is:dg yg)(one:wg)(fv:dg yg)(u:Mo)(c:IC)(K:KL):Prop:=(A9 P n it).e (G8 c.ρ u) c λa c1=>SD c1 (G8 c.ρ u) a λvs=>vs.length<=1000000/\rJ T E (O5 fv c.ρ) one is vs c1 λws c2=>K ws ⟨c.ρ,c2.t,c2.b⟩
inductive Zi(P:y8)(n:yg)(nm:dg Str)(is:dg yg)(one:wg)(k2:Ck)(fv:dg yg)(g:lf->dg Expr->wg)(q:FD->Cm->Prop)(u:Mo)(c:IC)(K:KL):Prop
 |mk (ws:dg AV) (c1 c':IC) (E:∀(D:FD) (f:Fo P.W),GC nm D.env.scope is one k2 fv f.x f.iter f.sc->(∀(h:f.sc.kind= .function) L,q (D.xr f.sc h L) (f.kd D.A (D.xr f.sc h L).env))->g (bT D.env.scope f.sc) f.ifs=true->(∀B G G' h us,f.cont B G h us->(∀a v,F9 G a v->F9 G' a v)->f.cont B G' h us)->pU (D.f P n) (um (G8 c.ρ u)) (c.cx nm) f ws (c1.cx nm) c'.σ) (i:Inv P c'.σ) (e:(c1.cx nm).ρ=(c'.cx nm).ρ) (r:c'.ρ=c.ρ) (k:K ws c')
theorem TI(V:v4 nm){o:wg}{R:dg yg}(B:OK P n nm m2){T:IC->KT->Prop}{E:IC->KE->Prop}{g:lf->dg Expr->wg}{q:FD->Cm->Prop}(N:qw P n nm (G8 c.ρ u) E q)(O:tw P n nm (G8 c.ρ u) T g){K:KL}(h:Np P n m2 T E is o R u c K)(I:Inv P c.σ):Zi P n nm is o (A7 nm m2) R g q u c K:=
 (B.e _ c _ h I).casesOn λa c1 E1 Q r Z=>(qN Z).elim λvs y=>(OE V N O y.2.2.2 Q).casesOn λS l C G k=>
  ⟨S,c1,⟨c.ρ,l.t,l.b⟩,λD f x A H t=>⟨⟨vs,yY _ _,Do.iter (E1 D _ x.x4) (y.1 _),λz v e=>(R2 V e).2.elim λi w=>⟨show(yY _ _).lookup z=some v from r.symm▸(R2 V e).1,w.2▸(x.x7 i w.1).2⟩,y.2.2.1,λL=>C (D.xr _ (CS (P:=P) (n:=n) x.x1).kind L) _ (A _ L) H x.x5 (.inr λi m=>lookup_relabel_local (x.x2 i m)) λz v e i m J=>(R2 V e).2.elim λj w=>(x.x7 j w.1).1 (JU V (w.2.symm.trans J)▸m),y.2.1,λx v e=>(ZS e).elim λp w=>w.2.2▸HV p (r▸w.1)⟩,CS x.x1,λz=>YY x.x3,t⟩,G,show yY _ _=yY _ _ from r▸rfl,rfl,k⟩
theorem CX.fresh{e:Expr}(h:CX F U X ws Y e):uL F U X e ws Y:=h.casesOn λf x z' z' z' z' c1 E r=>(show Y=⟨c1.ρ,Y.σ⟩ from r▸rfl)▸oE E
variable{one:wg}{fv:dg yg}
def qL(P:y8)(nm:dg Str)(m:M)(D:FD)(kd:Cm):Prop:=∃el x iter ifs sc pos,(A7 nm m).e D.env.scope el=true/\kd=(PV P.W el x iter ifs sc pos).kd D.A D.env
theorem xL(b:OK P n nm m):qw P n nm u ((A9 P n m).e u) (qL P nm m):=λc K h I=>(b.e u c K h I).casesOn λa c1 E i r k=>⟨a,c1,λD z' q G s S=>by
 refine T6 q λg x z' f p=>Z5 p λj z' d v=> ?_;subst v;exact E D _ d G s S,i,r,k⟩
theorem Qr(V:v4 nm)(b:OK P n nm m1)(f:OK P n nm m2)(d:OK P n nm m3){K:KL}(h:Np P n m2 ((A9 P n m3).t (G8 c.ρ u)) ((A9 P n m1).e (G8 c.ρ u)) is one fv u c K)(I:Inv P c.σ):
  RX P nm c (λj X=>∀(D:FD) ex,JX nm D.env.scope is one (A7 nm m1) (A7 nm m2) (A7 nm m3) fv ex=true->CX (D.f P n) (um (G8 c.ρ u)) (c.cx nm) j X ex) K:=
 (TI V f (xL b) (Io d) h I).casesOn λj z' c' E i e r k=>⟨j,c',λD z' g=>v5 g λa z' s p w=>tR w λt iter fs x w=>⟨a,t,iter,fs,s,p,_,E D (PV _ _ t _ _ _ p) x (λh L=>⟨a,t,iter,fs,s,p,(l9 w).1,rfl⟩) (l9 w).2 fE,e⟩,i,r,k⟩
theorem iG(V:v4 nm)(a:OK P n nm m1)(d:OK P n nm m2)(b:OK P n nm m3):OK P n nm (.comp m1 is one m2 m3 fv):=⟨
 λu c K h I=>(Qr V a d b (K:=λw g=>aU _ λds=>K (.a9 (.list ds)) g) h I).casesOn λw c1 E i r k=>(uZ k).elim λds q=>⟨_,c1,λD f e=>Do.weak (λz'=>i4) (uL.a9 (q.1▸(E D _ e).fresh)),i,r,q.2⟩,t7,F7,
 λu c K h I=>(Qr V a d b h I).casesOn λw c1 E i r k=>⟨_,c1,λD f e=>vY.weak (λz'=>i4) (E D _ e).fresh.own,i,r,k⟩,
 λu c K h I=>Qr V a d b h I,s7,F5,E7⟩
def Uo(P:y8)(nm:dg Str)(m m2:M)(D:FD)(kd:Cm):Prop:=∃kx vx x iter ifs sc pos,(A7 nm m).e D.env.scope kx=true/\(A7 nm m2).e D.env.scope vx=true/\kd=(hE P.W kx vx x iter ifs sc pos).kd D.A D.env
theorem xD(j:OK P n nm m1)(C:OK P n nm m2):qw P n nm u (λc K=>(A9 P n m1).e u c λa c1=>(A9 P n m2).e (hold a u) c1 λb f=>rd a.int? λi=>rd b.dat? λd=>K (.a9 (.tuple [.int i,d])) f) (Uo P nm m1 m2):=λc K h I=>
 (j.e u c _ h I).casesOn λa z' E1 J B A=>(C.e _ _ _ A J).casesOn λb f E t r W=>(o9 W).elim λi y=>(o9 y.2).elim λd z=>⟨_,f,λD z' q G s S=>by
  refine T6 q λT R x z' p'=>f8 p' λO V z' o p'=>zA p' λg Z=> ?_;subst Z;refine(E1 D _ o).bind S λU v z' Q F p e1=>(E D _ g).bind Q λH w z' N l k L=>⟨H,p.trans (k.weak λz'=>K9),N,⟨(i,d),?_⟩,e1.trans L⟩;obtain⟨tk,e⟩:F9 _ _ v:=s8 y.1▸F;exact⟨tk,rfl,e,S6 z.1▸l⟩,t,r.trans B,z.2⟩
theorem eK(V:v4 nm)(b:OK P n nm m1)(j:OK P n nm m2)(f:OK P n nm m3):OK P n nm (.lY m1 m2 is one m3 fv):=⟨m4,t7,F7,λu c K h I=>
 (TI V f (xD b j) Iw (K:=λq g=>∃o:dg _,q=o.map _/\K (.M9 _ (pJ o)) g) h I).casesOn λq c1 c' E i e r k=>k.elim λo k=>⟨_,c',λD z' l=>vY.weak (λz'=>i4) (tX (Q:=λd=>vY _ (um (G8 c.ρ u)) _ d _ _) l λa v z' s p w=>tR w λt iter fs x w=>
  (show c'.cx nm=⟨(c1.cx nm).ρ,c'.σ⟩ from e▸rfl)▸JE (k.1▸(E D (hE _ a v t _ _ s p) x (λh L=>⟨a,v,t,iter,fs,s,p,(l9 (l9 w).1).1,(l9 (l9 w).1).2,rfl⟩) (l9 w).2 gE))),i,r,k.2⟩,q7,s7,F5,E7⟩
theorem qR{w:Xf->wg}{k:dg Xf->wg}{f:dg Xf}{Q:dg Xf->Prop}(h:hd w k f=true)(j:∀s r,w s=true->k r=true->Q (s::r)):Q f:=by
 cases f with
 |nil=>exact ff h
 |cons s r=>exact j _ r (l9 h).1 (l9 h).2
def oo(P:y8)(n:yg)(nm:dg Str)(u:Mo)(c:IC)(w:lf->Xf->wg)(fl:Fl)(X:Cx):Prop:=∀D:FD,D.env.func.isSome=true->∀st,w D.env.scope st=true->X1 (D.f P n) (um u) (c.cx nm) st fl X
theorem seq(z:OK P n nm mk){w:lf->Xf->wg}{l:Fl}{K:KB}(E:oo P n nm u c w l (c1.cx nm))(i:Inv P c1.σ)(k:IW (λg=>(A9 P n mk).b u g K) K l c1):RB P nm (λa X=>∀(D:FD),D.env.func.isSome=true->∀s,hd (w D.env.scope) ((A7 nm mk).b D.env.scope) s=true->Xs (D.f P n) (um u) (c.cx nm) s a X) K:=by
 cases l with
 |next=>exact(z.b u _ K k i).casesOn λl g A p C=>⟨l,g,λD f z' h=>qR (Q:=λs=>Xs _ _ _ s _ _) h λq r x y=>qH (E D f _ x) (A D f r y),p,C⟩
 |ret a=>exact⟨.ret a,c1,λD f z' h=>qR (Q:=λs=>Xs _ _ _ s _ _) h λq r x z'=>xU (E D f _ x),i,k⟩
theorem Z1(h:OK P n nm mk){w:lf->Xf->wg}{K:KB}(E:oo P n nm u c w .next (c1.cx nm))(i:Inv P c1.σ)(k:(A9 P n mk).b u c1 K):RB P nm (λa X=>∀(D:FD),D.env.func.isSome=true->∀s,hd (w D.env.scope) ((A7 nm mk).b D.env.scope) s=true->Xs (D.f P n) (um u) (c.cx nm) s a X) K:=seq h E i k
@[elab_as_elim] theorem B6{k:Expr->Expr->re->wg}{s:Xf}{Q:Xf->Prop}(h:rY k s=true)(j:∀t e p,k t e p=true->Q (.Assign [t] e p)):Q s:=
 GU h λf e p w=>D3 w λt w=>j t e p w
theorem yJ{e:Expr}{p:re}{l:yg}{env:Ia}(h:WF env.scope x=true):Ce e (some (.Name x p)) l env=pure false:=by
 have z:(env.kindOf x==some .local)=false:=by refine rL (show env.kindOf x=some .cell from qg h) ?_;rfl
 cases e<;>first|rfl|(unfold Ce;dsimp only;rw [z,Cc];rfl)
theorem jv(f:OK P n nm m)(g:OK P n nm mk):OK P n nm (.ex m mk):=⟨m4,t7,F7,Y7,q7,s7,λu c K h I=>(f.e u c _ h I).casesOn λa z' E1 i z' k=>Z1 (w:=λs=>Ih λe p=>W6 e&&(A7 _ m).e s e) g (λD z' z' w=>zP w λe p w=>pH (E1 D e (l9 w).2) λenv=>n4 (l9 w).1) i k,E7⟩
theorem dB(V:v4 nm)(g:OK P n nm m)(l:OK P n nm mk):OK P n nm (.set i m mk):=⟨m4,t7,F7,Y7,q7,s7,λu c K h I=>(g.e u c _ h I).casesOn λa c1 E1 z z' k=>Z1 (c1:=c1.set i a) (w:=λs=>rY λt e p=>iL s _ i t&&(W6 e||WF s _)&&(A7 _ m).e s e) l (λD y z' w=>B6 w λt e p w=>
  haveI w1:=l9 w;haveI f:=l9 w1.1
  F3 f.1 λq x=>(k4 V)▸nH (E1 D e w1.2) x (.inl y) (((Jf _ _).mp f.2).elim n4 yJ)) z k,E7⟩
theorem As.OU{f:dg Expr}{k:yg}{p:re}{e:Expr}(h:W6 e=true){l:yg}{env:Ia}:Ë [.Tuple f k p] e l env=pure false:=n4 (t:=some (.Tuple f k p)) (l:=l) (env:=env) h
theorem VH(V:v4 nm)(l:OK P n nm m)(y:OK P n nm mk):OK P n nm (.n6 is m mk):=⟨m4,t7,F7,Y7,q7,s7,λu c K h I=>(l.e u c _ h I).casesOn λa z' E1 C z' H=>(TU V H C).casesOn λG A B i z' J=>Z1 (w:=λs=>rY λt e p=>W6 e&&uK e&&cL s _ _ _ t&&(A7 _ m).e s e) y (λD z z' w=>B6 w λt e p w=>by
  haveI w1:=l9 w;haveI f:=l9 w1.1;haveI g:=l9 f.1;haveI T:=A D (.inl z) t f.2;exact I7 (f.2) (λE k q w T=>AL (E1 D e w1.2) T (As.OU g.1) (tK g.2)) T) i J,E7⟩
@[elab_as_elim] theorem oS{k:dg Expr->dg Expr->wg}{t e:Expr}{Q:Expr->Expr->Prop}(h:Nh k t e=true)(j:∀f n p es m q,k f es=true->Q (.Tuple f n p) (.Tuple es m q)):Q t e:=
 I7 h λf n p w=>I7 w λes m q w=>j _ n p _ m q w
theorem OP{f:dg Expr}(h:wS s nm is f=true):f.length=is.length:=by
 induction f generalizing is with
 |nil=>cases is with
  |nil=>rfl
  |cons _ _=>exact ff h
 |cons t _ g=>
  refine u8 (HZ h) λi j u p l=> ?_;subst u;exact eg _ (g l)
theorem QN{f:Expr->gg Str}{g:dg Expr}(h:wS s nm is g=true)(l:∀t∈g,∀i,iL s nm i t=true->f t=some (vn nm i)):g.filterMap f=is.map (vn nm):=by
 induction g generalizing is with
 |nil=>cases is with
  |nil=>rfl
  |cons _ _=>exact ff h
 |cons t _ q=>
  refine u8 (HZ h) λi j v p w=> ?_;subst v;exact rL Ġ (rL (l t (.head _) i p) (rL (q w λt m=>l t (.tail _ m)) rfl))
theorem NM{g:Expr->wg}{es:dg Expr}(h:es.all VS=true)(f:∀e,VS e=true->g e=false):es.any g=false:=by
 induction es with
 |nil=>rfl
 |cons e _ i=>refine rL Ue (rL (f e (l9 h).1) (rL (i (l9 h).2) ?_));rfl
theorem aD{a b:yg}(h:(a==b)=true):(a !=b)=false:=eg _ h
theorem eX{f:Type}{b:wg}{x y:f}(h:b=false):(if b=true then x else y)=y:=og (Bool.eq_false_iff.mp h)
theorem uF{l:yg}{t:Expr}{env:Ia}(e:env.scope=s)(h:bw s l t=true)(q:iL s nm i t=true):∃p,t= .Name (vn nm i) p/\(env.kindOf (vn nm i)==some .local&&p.line==l)=true:=
 F3 q (λp x h=>⟨p,rfl,by
  haveI k:env.kindOf _=some .local:=(eg (λz:lf=>z.names.lookup _) e).trans (qg (l9 h).1);refine rL k (rL ((l9 h).2) ?_);rfl⟩) h
theorem OL{f es:dg Expr}{k m:yg}{p q:re}{env:Ia}(e:env.scope=s)(C:s.kind= .function)(hs:wS s nm is f=true)(h:Ow s f es=true)(hd:((is.map (vn nm)).eraseDups.length==is.length)=true):xd [.Tuple f k p] (.Tuple es m q) env=pure (some (is.map (vn nm))):=by
 haveI g:=l9 h;haveI A:=l9 g.1;haveI y:=l9 A.1;haveI B:=l9 y.1;haveI l:=l9 B.1;haveI b:env.blockKind= .function:=by unfold Env.blockKind;refine rL e (rL C ?_);rfl
 unfold xd;dsimp only;refine(eX ?_).trans ((eX (NM B.2 λe h=>US h)).trans ?_)
 ·refine rL l.1 ?_;refine rL (aD l.2) (rL b ?_);rfl
 rw [QN hs λt m i w=> ?_]
 ·refine(eX ?_).trans ((eX (W5 A.2)).trans (eX (W5 g.2)));rw [ng,(OP hs),aD (jf _),aD hd];rfl
 ·refine O8 (uF e (List.all_eq_true.mp y.2 t m) w) λp' v z=> ?_;subst v;exact xg z
theorem kE{l y:Type}{f:l->gg y}{g:dg l}:(g.filterMap f).length<=g.length/\((g.filterMap f).length=g.length->∀t∈g,(f t).isSome=true):=by
 induction g with
 |nil=>exact⟨Ag _,λz' t m=>(by nomatch m)⟩
 |cons t _ i=>
  refine rL Ġ ?_;cases q:f t with
  |none=>exact⟨bf i.1,λh=>absurd (bg (Bg (h.symm)) i.1) (ĝ _)⟩
  |some b=>exact⟨Hg i.1,λh w m=>(List.mem_cons.mp m).elim (λe=>by refine rL e (rL q ?_);rfl) (i.2 (ì h) _)⟩
theorem wK{l:yg}{env:Ia}{t:Expr}(e:env.scope=s)(h:(Nv env l t).isSome=true):bw s l t=true:=
 RG h λid p h=>by
  split at h
  ·rename_i z;haveI z:=l9 z;exact(Sg _ _).mpr ⟨Dg ((eg (λz=>z.names.lookup id) e).symm.trans (beq_iff_eq.mp z.1)),z.2⟩
  ·exact(by nomatch h)
theorem PL{f es:dg Expr}{k m:yg}{p q:re}{env:Ia}(e:env.scope=s)(h:OG s f es=true):xd [.Tuple f k p] (.Tuple es m q) env=pure none:=by
 unfold xd;dsimp only;split
 ·rfl
 ·refine(eX (NM (l9 h).2 λe h=>US h)).trans (xg ((Jf _ _).mpr (.inl (bne_iff_ne.mpr λy=> ?_))));have:=(l9 h).1;rw [List.all_eq_true.mpr λt m=>wK e (kE.2 y t m)] at this;exact ff this
theorem WH(V:v4 nm)(G:OK P n nm m)(y:OK P n nm mk):OK P n nm (.dV is m mk):=⟨m4,t7,F7,Y7,q7,s7,λu c K h I=>(G.l u c _ h I).casesOn λas z' E1 H z' k=>(AX V k H).casesOn λJ A B N C l z' L=>Z1 (w:=λs=>rY λt e p=>Nh (λg es=>wS s _ _ g&&Ow s g es&&(is.map _).eraseDups.length==is.length&&(A7 _ m).l s es) t e) y (λD E z' w=>B6 w λt e p w=>oS w λg z' z' z' z' z' w=>by
  haveI w1:=l9 w;haveI q:=l9 w1.1;haveI f:=l9 q.1;haveI l:is.length=as.length:=by rw [Yc,Yc] at l;exact l
  refine eQ (E1 D _ w1.2) ?_ (l▸(OP f.1▸((Jf _ _).mp (l9 (l9 (l9 (l9 (l9 f.2).1).1).1).1).1).elim (λz=>by rw [beq_iff_eq.mp z];decide) λz=>by rw [beq_iff_eq.mp z];decide)) (by rw [ng];exact l) rfl (OL rfl D.k f.1 f.2 q.2);exact Xd▸N D (.inl E) λi m=>(A5 (env:=D.env) f.1).2.2 i (List.mem_reverse.mp m)) C L,E7⟩
theorem YH(V:v4 nm)(z:OK P n nm m)(q:OK P n nm mk):OK P n nm (.fV is m mk):=⟨m4,t7,F7,Y7,q7,s7,λu c K h I=>(z.l u c _ h I).casesOn λas z' E1 C z' k=>(AX V (z9 k).2 C).casesOn λE A B N i l z' G=>Z1 (w:=λs=>rY λt e p=>Nh (λg es=>wS s _ _ g&&OG s g es&&(A7 _ m).l s es) t e) q (λD y z' w=>B6 w λt e p w=>oS w λg z' z' z' z' z' w=>
  haveI w1:=l9 w;haveI f:=l9 w1.1
  rP (E1 D _ w1.2) (A D (.inl y) _ f.1) (BV (z9 k).1 (by decide)) (λenv=>(A5 f.1).1.trans l) (λenv=>(A5 f.1).2.1) rfl (PL rfl f.2)) i G,E7⟩
theorem HM{e o:Expr}{x:Str}{p:re}{l:yg}{env:Ia}:Ce e (some (.Attribute o x p)) l env=pure false:=by cases e<;>rfl
theorem HH{e o i:Expr}{p:re}{l:yg}{env:Ia}:Ce e (some (.Subscript o i p)) l env=pure false:=by cases e<;>rfl
@[elab_as_elim] theorem UT{e:Expr}{Q:Expr->Prop}(h:VT nm s j i e=true)(k:∀p q,XZ (s.names.lookup (vn nm j))=true->(vn nm j==("__debug__"))=false->(vn nm j==("__classdict__"))=false->i<30->Q (.Attribute (.Name (vn nm j) p) (an i) q)):Q e:=
 M6 h λo x q w=>
  haveI w1:=l9 w;haveI f:=l9 w1.1
  qg f.2▸TX f.1 λp t l g=>k p q t l g (qg w1.2)
theorem LV{D:yg}{as as':dg (yg×AV)}(f:uU P τ (.inst D as))(h:∀y∈as',y.2.keeps λt=>hb τ t=true):uU P τ (.inst D as'):=⟨h,λg l e=>(by cases e;exact f.cls D _ rfl),(λz' z' z' e=>(by nomatch e))⟩
theorem iV{g:Type}{l:dg (yg×g)}{v:g}{y:yg×g}(h:y∈W9 l i v):y=(i,v)\/(y∈l/\(y.1≠i\/True)):=by
 induction l with
 |nil=>exact .inl (List.mem_singleton.mp h)
 |cons p l f=>
  unfold W9 at h;split at h
  ·exact(List.mem_cons.mp h).imp id λh=>⟨.tail _ h,.inr trivial⟩
  ·exact(List.mem_cons.mp h).elim (λe=> .inr ⟨e▸ .head _,.inr trivial⟩) λh=>(f h).imp id λh=>⟨.tail _ h.1,.inr trivial⟩
theorem OT(I:Inv P c.σ){D:yg}{as:dg (yg×AV)}(e:c.σ τ=some (.inst D as)):A4 P.W D/\∀i,i<30->Ad P.W.K (.ref D) (an i)=some none:=P.cls D (((I _ _ e).cls D _ rfl).imp (·.1) (·.1))
theorem dG(V:v4 nm)(H:OK P n nm m)(g:OK P n nm mk):OK P n nm (.V4 j i m mk):=⟨m4,t7,F7,Y7,q7,s7,λu c K h I=>(H.e u c _ h I).casesOn λa z' E1 f z' k=>(o9 k).elim λy q=>M8 (O6 q.2) λτ o z=>(o9 z.2.2).elim λp w=>
  have e:=z.2.1.trans (eg _ (pR w.1));haveI l:=OT f e
  (e7 (z9 w.2).2 f (LV (f _ _ e) λy m=>(iV m).elim (λq=>q▸e5 (z9 w.2).1) λq=>(f _ _ e).hold y q.1) rfl).casesOn λJ G B z' O=>
  Z1 (w:=λs=>rY λt e p=>VT _ s j i t&&(A7 _ m).e s e) g (λD z' z' w=>B6 w λt L p w=>by
   haveI w1:=l9 w;exact G▸UT w1.1 λN z' E C A x=>rH (E1 D _ w1.2) ((O0 V).trans (z.1▸q.1)) E C A e l.1 (l.2 i x) x λenv=>HM) B O,E7⟩
variable{l:yg}{κ:LK}
theorem aG(A:OK P n nm m1)(L:OK P n nm m2)(B:OK P n nm m3)(f:OK P n nm mk):OK P n nm (.W1 m1 m2 m3 mk):=⟨m4,t7,F7,Y7,q7,s7,λu c K h I=>(A.e u c _ h I).casesOn λa z' E1 C z' T=>(L.e _ _ _ T C).casesOn λb R E J z' S=>(B.e _ _ _ S J).casesOn λr z' E3 z z' k=>(OH k z).casesOn λQ O G z' H=>
  Z1 (w:=λs=>rY λt e p=>a8 (λo i q=>(A7 _ _).e s o&&(A7 _ _).e s i) t&&W6 e&&(A7 _ _).e s e) f (λD z' z' w=>B6 w λt N p w=>
   haveI w1:=l9 w;haveI g:=l9 w1.1
   B8 g.1 λo i q y=>oH (E1 D _ w1.2) (λz'=>K9) (λz'=>K9) x9 (E D o (l9 y).1) x9 (E3 D i (l9 y).2) (O _ _) λenv=>n4 g.2) G H,E7⟩
theorem wB(A:OK P n nm m1)(G:OK P n nm m2)(f:OK P n nm mk):OK P n nm (.del m1 m2 mk):=⟨m4,t7,F7,Y7,q7,s7,λu c K h I=>(A.e u c _ h I).casesOn λa z' E1 B z' L=>(G.e _ _ _ L B).casesOn λb z' E C z' J=>(SH J C).casesOn λH O z z' k=>
  Z1 (w:=λs=>lZ λg p=>IX (a8 λo i q=>(A7 _ _).e s o&&(A7 _ _).e s i) g) f (λD z' z' w=>FU w λg p w=>D3 w λt w=>
   B8 w λo i q y=>pC (E1 D o (l9 y).1) (λz'=>K9) x9 (E D i (l9 y).2) (O _ _)) z k,E7⟩
theorem uB(A:OK P n nm m1)(C:OK P n nm m2)(B:OK P n nm m3)(f:OK P n nm mk):OK P n nm (.ifs m1 m2 m3 mk):=⟨m4,t7,F7,Y7,q7,s7,λu c K h I=>(A.t u c _ h I).casesOn λt z' E1 z z' H=>(oY H).elim
  (λq=>(C.b u _ _ q.2 z).casesOn λG z' E i k=>seq (w:=λs=>uC λx a b p=>(A7 _ _).t s x&&(A7 _ _).b s a&&(A7 _ _).b s b) f (λD y z' w=>xP w λx a b p w=>have w1:=l9 w;have g:=l9 w1.1;mC (E1 D x g.1) (zT q.1 (E D y a g.2))) i k)
  λq=>(B.b u _ _ q.2 z).casesOn λG z' E i k=>seq (w:=λs=>uC λx a b p=>(A7 _ _).t s x&&(A7 _ _).b s a&&(A7 _ _).b s b) f (λD y z' w=>xP w λx a b p w=>have w1:=l9 w;have g:=l9 w1.1;mC (E1 D x g.1) (AT q.1 (E D y b w1.2))) i k,E7⟩
theorem eB(g:OK P n nm m):OK P n nm (.ret m):=⟨m4,t7,F7,Y7,q7,s7,λu c K h I=>(g.e u c _ h I).casesOn λa c1 E1 i z' k=>⟨.ret a,c1,λD z' z' w=>qR (Q:=λq=>Xs _ _ _ q _ _) w λt r x z'=>zZ x λe p w=>by
  cases e with
  |none=>exact ff w
  |some e=>exact xU (sP (E1 D e w)),i,k⟩,E7⟩
theorem eG:OK P n nm .fZ:=⟨m4,t7,F7,Y7,q7,s7,λu c K h I=>⟨.ret _,c,λD z' z' w=>qR (Q:=λg=>Xs _ _ _ g _ _) w λq r x z'=>zZ x λe p w=>by
  cases e with
  |none=>exact xU fQ
  |some e=>exact ff w,I,h⟩,E7⟩
theorem BB:OK P n nm .bad:=⟨m4,t7,F7,Y7,q7,s7,λu c K h=>h.elim,E7⟩
theorem CN{o:d9}(h:XM τ o)(p:Q6 o=false):uU P τ o:=by
 unfold XM at h;cases e:d5 _ with
 |false=>rw [e] at h;exact nW h p e
 |true=>rw [e] at h;exact(h)▸⟨(λz' z' e=>(by nomatch e)),(λz' z' e=>(by nomatch e)),λz' f z' e j v w=>by cases e;cases w⟩
theorem XH(V:v4 nm)(T:OK P n nm m)(C:OK P n nm mk):OK P n nm (.eV j i τ m mk):=⟨m4,t7,F7,Y7,q7,s7,λu c K h I=>(T.o u c _ h I).casesOn λo c1 E1 A z' U=>(o9 U).elim λy q=>M8 (O6 q.2) λf F z=>(o9 z.2.2).elim λp w=>by
  have e:=z.2.1.trans (eg _ (pR w.1));haveI J:=OT A e;refine gC (z9 w.2) λN H b' Q M=> ?_;haveI G:=l9 N;haveI O:=l9 G.2;have a:=l9 O.2;haveI E:=l9 a.2;have g:=P5 a.1;haveI B:∀{t:Tg},t.T9=false->t.ti=none:=λ{t} h=>by unfold Tg.ti;rw [h]
  haveI S:(⟨c1.ρ,c1.t,b'⟩:IC).cx _=⟨(c1.cx nm).ρ,up _ f _⟩:=by
   unfold IC.cx IC.σ;dsimp only;exact rR Q (rL (g7 (B g.1)) (rL (g7 (B g.2.1)) rfl))
  haveI R:Inv P (L4 _ b'):=by
   exact rR Q (rL (g7 (B g.1)) (rL (g7 (B g.2.1)) ((A.up (CN H (W5 E.1))).up (LV (A f _ e) λy m=>(iV m).elim (λq=>q▸(a.1)) λq=>(A f _ e).hold y q.1))))
  exact Z1 (w:=λs=>rY λt e p=>VT _ s j i t&&(A7 _ m).o s e) C (c1:=⟨c1.ρ,c1.t,b'⟩) (λD z' z' w=>B6 w λt r p w=>by
   haveI w1:=l9 w;refine rL S ?_;exact UT w1.1 λN z' Z l k L=>AU (E1 D _ w1.2) ((O0 V).trans (z.1▸q.1)) Z l k (XY G.1)
    ⟨λe=>g.2.2.1 e.symm,d9.t9 (λt h=>(P5 h).2.2.1) (CN (P:=P) H (W5 E.1)).hold,λb z' z' n2 d=>d9.t9 (λt h z=>n2 (ig ((P5 h).2.2.2.symm.trans (z▸g.2.2.2)))) (A _ _ d).hold,λx v e=>MZ O.1 (λz' h=>U7 h) e⟩
    e J.1 (J.2 i L) L (λy m n=>((Jf _ _).mp (List.all_eq_true.mp E.2 y m)).elim (λz=>absurd (qg z) n) λz=>U7 z) λenv=>HM) R M,E7⟩
theorem S7{t:Tg}(h:t.T9=false):t.ti=none:=by unfold Tg.ti;rw [h]
theorem MR:(Tg.C7 κ).T9=false:=rfl
theorem TO{t:kg}:(Tg.ls κ t).T9=false:=by cases κ<;>rfl
theorem nF{t:kg}:d5 (Tg.ls κ t)=false:=by cases κ<;>rfl
theorem mF{κ':LK}{t f:kg}(h:Tg.ls κ t= .ls κ' f):t=f:=by cases h;rfl
theorem ZH(V:v4 nm)(g:OK P n nm m)(N:OK P n nm mk):OK P n nm (.X3 j i l κ m mk):=⟨m4,t7,F7,Y7,q7,s7,λu c K h I=>(g.o u c _ h I).casesOn λo c1 E1 A z' k=>(o9 k).elim λy q=>T6 (RN q.2) λτ0 C z' v z=>(o9 z.2.2.2).elim λy Z=>(o9 Z.2).elim λt S=>M8 (O6 S.2) λτ h w=>(o9 w.2.2).elim λp g=>by
  haveI r:=OT A z.2.1;refine WJ (z9 g.2) λd H E b' p'=>zA p' λT h=> ?_;haveI k:=l9 d;have R:=l9 k.2;have a:=l9 R.2;have M:=l9 a.2;haveI eτ:=qg k.1;subst eτ;have e:=w.2.1.trans (eg _ ((W0 g.1).trans (eg (λb=>d9.p9 b _) R.1)));haveI fd:=A _ _ e;have O:(⟨c1.ρ,c1.t,b'⟩:IC).cx nm=⟨(c1.cx nm).ρ,up (up (c1.cx nm).σ (.ls κ t) o) (.C7 κ) (.p9 true (f9 p.2 t (.g9 (.ls κ t))))⟩:=by
   unfold IC.cx IC.σ;exact rR T (rL (g7 (S7 MR)) (rL (g7 (S7 TO)) rfl))
  haveI B:hb (.C7 κ) (.ls κ t)=true:=by cases κ<;>rfl
  haveI f:uU P _ (.p9 true (f9 _ t (.g9 _))):=⟨M7 fd.hold (B),(λz' z' e=>(by nomatch e)),λκ' f e1 O L v q=>by
   cases e1
   cases O
   unfold f9 at q;split at q
   ·rename_i x;refine rL x ?_;exact(ig q).symm
   ·exact fd.C7 _ _ rfl rfl L v q⟩
  haveI X:Inv P (L4 _ b'):=by
   exact rR T (rL (g7 (S7 MR)) (rL (g7 (S7 TO)) ((A.up (nW H (W5 a.1) nF)).up f)))
  exact Z1 (w:=λs=>rY λt e p=>a8 (λo x q=>VT _ s j i o&&SG s _ l x) t&&W6 e&&(A7 _ m).o s e) N (c1:=⟨c1.ρ,c1.t,b'⟩) (λD z' z' G=>B6 G λh h z' G=>by
   haveI w1:=l9 G;haveI F:=l9 w1.1;refine rL O (B8 F.1 λo z' z' Q=>(UT (l9 Q).1 λd z' Y h x U=> ?_));exact TX (l9 Q).2 λg W J y=>(zU (E1 D _ w1.2) (pG (FX ((O0 V).trans (z.1▸q.1)) Y h x) z.2.1 r.1 (r.2 i U) U (w.1▸z.2.2.1) λenv=>rfl) (FX ((O0 V).trans (s8 S.1▸Z.1)) W J y) (XY M.1))
    ⟨(λe=>(by nomatch e)),d9.t9 (λt h=>(P5 h).2.2.1) H,λh z' z' n2 E=>d9.t9 (λt h z=>n2 (ig ((P5 h).2.2.2.symm.trans (z▸rfl)))) (A _ _ E).hold,λx v e=>MZ M.2 (λz' h=>U7 h) e⟩
    e E (λL v n E=>(fd.C7 _ _ rfl rfl L v E)▸(λe=>n (mF e):AV.keeps (·≠Tg.ls _ t) (.g9 _))) λenv=>n4 F.2) X h,E7⟩
theorem NP{e:Expr}{p:re}{D:FD}(h:GD D.env.scope x p e=true){l:yg}:Ce e (some (.Name x p)) l D.env=pure true:=v5 h λg z' s q w=>by
 haveI w1:=l9 w;haveI f:=l9 w1.1;show(pure (D.env.blockKind== .function&&D.env.kindOf x==some .local&&p.line==q.line&& !(s.names.any λ(n,k)=>n==x&&_)))=pure _;haveI b:D.env.blockKind= .function:=by unfold Env.blockKind;refine rL D.k ?_;rfl
 haveI kk:=f.1;refine rL b (rL kk ?_);rw [f.2,w1.2];rfl
theorem vS{e:Expr}{p:re}(h:GD s x p e=true):b6 (s.names.lookup x)=true:=v5 h λf z' z' q w=>by
 refine rL (beq_iff_eq.mp (l9 (l9 w).1).1) ?_;rfl
theorem CX.store{e:Expr}{x:Str}{p pos:re}{ds:dg vg}(h:CX F U X (ds.map .a9) Y e)(t:b6 (F.env.kindOf x)=true)(q:F.env.func.isSome=true\/F.env.kindOf x=some .local)(g:Ce e (some (.Name x p)) pos.line F.env=pure true):X1 F U X (.Assign [.Name x p] e pos) .next ⟨W9 Y.ρ x (.a9 (.list ds)),Y.σ⟩:=by
 cases h with|mk _ y _ _ _ _ _ E r=>exact r▸PW E t q g
theorem CX.IH{e:Expr}{x:Str}{p pos:re}(h:CX F U X ws Y e)(t:¬U τ)(L:dP Y (.list true ws) τ)(w:b6 (F.env.kindOf x)=true)(q:F.env.func.isSome=true\/F.env.kindOf x=some .local)(g:Ce e (some (.Name x p)) pos.line F.env=pure true):X1 F U X (.Assign [.Name x p] e pos) .next ⟨W9 Y.ρ x (.g9 τ),up Y.σ τ (.list true ws)⟩:=by
 cases h with|mk _ y _ _ _ _ _ E r=>exact r▸yU E t (r▸L) w q g
theorem X1.weak{s:Xf}{g:Fl}{f:Tg->Prop}(h:∀τ,f τ->U τ)(E:X1 F U X s g Y):X1 F f X s g Y:=Do.weak h E
theorem cG(V:v4 nm)(B:OK P n nm m)(f:OK P n nm mk):OK P n nm (.EY i m mk):=⟨m4,t7,F7,Y7,q7,s7,λu c K h I=>(B.c u c _ h I).casesOn λas c1 E1 A z' k=>(uZ k).elim λds q=>
  Z1 (c1:=c1.set i _) (w:=λs=>rY λt e p=>U6 (λx q=>decide (x=vn _ i)&&GD s x q e) t&&(A7 _ m).c s e) f (λD g z' w=>B6 w λt e p w=>
   g6 (l9 w).1 λy z' z=>(k4 V)▸qg (l9 z).1▸X1.weak (λz'=>i4) ((q.1▸E1 D e (l9 w).2).store (vS (l9 z).2) (.inl g) (NP (l9 z).2))) A q.2,E7⟩
theorem UH(V:v4 nm)(G:OK P n nm m)(f:OK P n nm mk):OK P n nm (.DY i τ m mk):=⟨m4,t7,F7,Y7,q7,s7,λu c K h I=>(G.c u c _ h I).casesOn λas z' E1 E z' k=>
  haveI z:=z9 k;haveI y:=l9 z.1
  (TP z.2 E).casesOn λA L g B z' J=>
  Z1 (c1:=A.set i _) (w:=λs=>rY λt e p=>U6 (λx q=>decide (x=vn _ i)&&GD s x q e) t&&(A7 _ m).c s e) f (λD C z' w=>B6 w λt e p w=>
   g6 (l9 w).1 λH z' z=>(k4 V)▸g.symm▸qg (l9 z).1▸X1.weak (λz'=>i4) ((E1 D e (l9 w).2).IH (XY y.1) (L y.2) (vS (l9 z).2) (.inl C) (NP (l9 z).2))) B J,E7⟩
theorem rQ{t:dg (yg×d9)}{k:yg}:(t.filter λp=> !decide (p.1=j)).lookup k=if k=j then none else t.lookup k:=by
 induction t with
 |nil=>exact(Oa _).symm
 |cons p t i=>
  refine rL ac ?_;by_cases q:p.1=j
  ·refine rL (Dg q) ?_;refine rL (og (by decide)) (rL i (rL xf ?_));by_cases z:k=j
   ·exact rL (xg z) (rL (xg z) rfl)
   ·exact rL (og z) (rL (og z) (rL (gf λe=>z (e.trans q)) rfl))
  ·refine rL (Ig q) ?_;refine rL (xg (by decide)) ?_;rw [xf,xf,i];by_cases z:k=p.1
   ·subst z;rw [jf];exact(og q).symm
   ·exact rL (gf z) rfl
theorem Xs.f5{s:dg Xf}{f:Fl}(H:∀G h,ST F X G h->∃G',Gr U G G'/\ST F Y G' h){Z:Cx}(E:Xs F U Y s f Z):Xs F U X s f Z:=Do.f5 H E
theorem fB(V:v4 nm)(A:OK P n nm mk):OK P n nm (.rel i mk):=⟨m4,t7,F7,Y7,q7,s7,λu c K h I=>(o9 h).elim λa q=>D6 (gW q.2) λτ w z' z=>(o9 z.2.2).elim λj y=>y.2.elim λds B=>by
  haveI e:=(z9 B.2).1▸B.1▸z.2.1;have L:=PY y.1;subst L;have hσ:∀t,(⟨W9 c.ρ i (.a9 (.list ds)),c.t.filter λp=> !decide (p.1=j),c.b⟩:IC).σ t=if t= .Z8 j then none else c.σ t:=λt=>by
   unfold IC.σ;cases q:t.ti with
   |none=>
    refine rL (W8 q) (rL (W8 q) ?_);rw [og λe=> ?_];have q:=e▸q;cases q
   |some k=>
    refine rL (o4 q) (rL rQ (rL (PY q) ?_));by_cases z:k=j
    ·exact rL (xg z) (rL (xg (eg _ z)) rfl)
    ·exact rL (og z) (rL (og λe=>z (by cases e;rfl)) rfl)
  haveI O:Inv P (⟨W9 _ i _,c.t.filter λp=> !decide (p.1=j),c.b⟩:IC).σ:=λt o q=>by
   rw [hσ] at q;split at q
   ·exact(by nomatch q)
   ·exact I t o q
  exact(A.b u _ K (z9 B.2).2 O).casesOn λR C J E T=>⟨R,C,λD H Q w=>Xs.f5 (λG h S=>by
   obtain⟨G',g,N⟩:=S.give e (λt n=>(hσ t).trans (og n)) ((hσ _).trans (xg rfl)) ((O0 V).trans (z.1▸q.1));refine⟨G',g,?_⟩;haveI:(⟨W9 _ i _,c.t.filter λp=> !decide (p.1=j),c.b⟩:IC).cx _=⟨W9 _ _ _,(⟨W9 c.ρ i (.a9 (.list ds)),c.t.filter λp=> !decide (p.1=j),c.b⟩:IC).σ⟩:=by
    unfold IC.cx;rw [CO V]
   refine rL this ?_;exact N) (J D H _ w),E,T⟩,E7⟩
variable{keep:dg yg}{fl:Fl}
theorem GW.cut{f:Expr}(hs:Y.σ=X.σ)(t:∀y v,Y.ρ.lookup y=some v->X.ρ.lookup y=some v){Z:Cx}(E:GW F U Z f vs X):GW F U Z f vs Y:=λG s S=>Jg (E G s S) (λv z' z=>Jg z (λz' z' z=>z.casesOn λp B g q r=>⟨p,B,g,q,r.casesOn λG' e S q I w A z N i h hp=>⟨G',e,S.cut hs t,q,I,w,A,z,N,i,h,hp⟩⟩) λz' z' x=>x) λz' z' x=>x
theorem X1.cut{s:Xf}{Z:Cx}(hs:Y.σ=X.σ)(f:∀y v,Y.ρ.lookup y=some v->X.ρ.lookup y=some v)(E:X1 F U Y s fl Z):X1 F U X s fl Z:=Do.f5 (λG h S=>⟨G,.refl,S.cut hs f⟩) E
theorem r4(V:v4 nm)(k:dg yg)(c:IC):∀y v,((IC.keep k c).cx nm).ρ.lookup y=some v->(c.cx nm).ρ.lookup y=some v:=λy v e=>(R2 V e).1
theorem vI(V:v4 nm)(hb:OK P n nm m){one:wg}{K:KB}(h:lp ((A9 P n m).b u) (U5 one is) (IC.keep keep) K vs c)(I:Inv P c.σ):RB P nm (λfl X=>∀D:FD,D.env.func.isSome=true->∀t bd,cL D.env.scope nm one is t=true->(A7 nm m).b D.env.scope bd=true->Lp (D.f P n) (um u) t bd fl X vs ((IC.keep keep c).cx nm)) K:=by
 induction vs generalizing c with
 |nil=>exact⟨.next,IC.keep keep c,λD hf t bd w1 w2=>⟨rfl,rfl⟩,I,h⟩
 |cons v vs ih=>
  exact(TU V h I).casesOn λc1 A1 B1 i1 e1 k1=>(hb.b u c1 _ k1 i1).casesOn λfl c2 E2 i2 k2=>by
   cases fl with
   |next=>exact(ih k2 i2).casesOn λfl' c3 E3 i3 k3=>⟨fl',c3,λD hf t bd w1 w2=>⟨_,_,A1 D (.inl hf) t w1,.inl ⟨E2 D hf bd w2,(IC.keep keep c2).cx nm,rfl,r4 V keep c2,E3 D hf t bd w1 w2⟩⟩,i3,k3⟩
   |ret a=>exact⟨.ret a,c2,λD hf t bd w1 w2=>⟨_,_,A1 D (.inl hf) t w1,.inr ⟨E2 D hf bd w2,rfl,nofun⟩⟩,i2,k2⟩
theorem JN(V:v4 nm)(B:OK P n nm m1)(z:OK P n nm m2){o:wg}{K:KB}(h:dE u is o (A9 P n m1) (A9 P n m2) keep c K)(I:Inv P c.σ):RB P nm (λH X=>∀D:FD,D.env.func.isSome=true->∀s,zy nm is o (A7 nm m1) (A7 nm m2) D.env.scope s=true->X1 (D.f P n) (um u) (c.cx nm) s H X) K:=
 (B.e u c _ h I).casesOn λa c1 E1 C z' k=>(qN k).elim λvs q=>(vI V z q.2.2 C).casesOn λH G E i J=>⟨H,G,λD A z' w=>fS w λt z' b z' p w=>
  haveI w1:=l9 w;haveI g:=l9 w1.1;haveI y:=l9 g.1;haveI f:=l9 y.1
  (List.isEmpty_iff.mp y.2)▸YJ (GW.cut (X:=c1.cx _) (Y:=(IC.keep _ _).cx _) rfl (r4 V _ _) (Do.iter (E1 D _ g.2) (q.1 _))) (λz' h=>h) q.2.1 (E D A t _ f.1 w1.2) (λx=>YY f.2),i,J⟩
theorem fG(V:v4 nm){z y:wg}(A:OK P n nm m1)(t:OK P n nm m2)(p:OK P n nm mk):OK P n nm (.cY z is y m1 m2 keep mk):=by
 cases z with
 |false=>exact⟨m4,t7,F7,Y7,q7,s7,λu c K h I=>(JN V A t h I).casesOn λT z' E i k=>seq p E i k,E7⟩
 |true=>exact⟨m4,t7,F7,Y7,q7,s7,λu c K h I=>(HT h I).casesOn λτ o z' z' e z e1 N z' S=>(JN V A t S N).casesOn λT z' L B Q=>
   haveI f:=B _ _ Q.1
   (e7 Q.2 B (oW f ((z.k _).mpr f.hold) (λD z'=>(z.cls D _).2) λw g=>(z.C7 w g).2) rfl).casesOn λO C H z' J=>
   seq p (λD G s w=>C.symm▸oC z e (X1.weak (λz'=>uX) (e1▸L D G _ w)) Q.1) H J,E7⟩
theorem gG(V:v4 nm)(G:OK P n nm m1)(C:OK P n nm m2)(f:OK P n nm mk):OK P n nm (.OV i m1 m2 keep mk):=⟨m4,t7,F7,Y7,q7,s7,λu c K h I=>(G.l u c _ h I).casesOn λvs c1 E1 L z' N=>
  haveI z:=z9 N
  (vI V C z.2 L).casesOn λQ z' J H O=>seq (w:=λs=>yP λt iter g o p=>o.isEmpty&&iL s _ i t&&d4 (λes k p=>(A7 _ _).l s es) iter&&(A7 _ _).b s g) f (λD E z' w=>fS w λt z' g z' p w=>
   haveI w1:=l9 w;haveI A:=l9 w1.1;haveI B:=l9 A.1
   I7 A.2 λes k q y=>(List.isEmpty_iff.mp B.1)▸YJ (GW.cut (X:=c1.cx _) (Y:=(IC.keep _ _).cx _) rfl (r4 V _ _) (HQ (E1 D _ y) (BV z.1 (by decide)))) R0.1 R0.2 (J D E t _ B.2 w1.2) (λx=>rfl)) H O,E7⟩
theorem qC(V:v4 nm)(h1:OK P n nm m1)(h2:OK P n nm m2){N:yg}{K:KB}(h:wh ((A9 P n m1).t u) ((A9 P n m2).b u) (IC.keep keep) K N c)(I:Inv P c.σ):RB P nm (λfl X=>∀D:FD,D.env.func.isSome=true->∀x bd,(A7 nm m1).t D.env.scope x=true->(A7 nm m2).b D.env.scope bd=true->Wh (D.f P n) (um u) x bd fl X N ((IC.keep keep c).cx nm)) K:=by
 induction N generalizing c with
 |zero=>exact h.elim
 |succ N ih=>
  exact(h1.t u (IC.keep keep c) _ h I).casesOn λt c1 E1 i1 r1 k1=>(oY k1).elim
   (λq=>(h2.b u c1 _ q.2 i1).casesOn λfl c2 E2 i2 k2=>by
    cases fl with
    |next=>exact(ih k2 i2).casesOn λfl' c3 E3 i3 k3=>⟨fl',c3,λD hf x bd w1 w2=> .inr ⟨_,_,q.1▸E1 D x w1,.inl ⟨E2 D hf bd w2,(IC.keep keep c2).cx nm,rfl,r4 V keep c2,E3 D hf x bd w1 w2⟩⟩,i3,k3⟩
    |ret a=>exact⟨.ret a,c2,λD hf x bd w1 w2=> .inr ⟨_,_,q.1▸E1 D x w1,.inr ⟨E2 D hf bd w2,rfl,nofun⟩⟩,i2,k2⟩)
   λq=>⟨.next,c1,λD hf x bd w1 w2=> .inl ⟨q.1▸E1 D x w1,rfl⟩,i1,q.2⟩
theorem UC(V:v4 nm)(A:OK P n nm m1)(y:OK P n nm m2)(f:OK P n nm mk):OK P n nm (.CU m1 m2 keep mk):=⟨m4,t7,F7,Y7,q7,s7,λu c K h I=>h.elim λN h=>(qC V A y h I).casesOn λB z' E i k=>
  seq (w:=λs=>rX λx g o p=>o.isEmpty&&(A7 _ _).t s x&&(A7 _ _).b s g) f (λD z z' w=>gQ w λx g z' p w=>
   haveI w1:=l9 w;haveI q:=l9 w1.1
   (List.isEmpty_iff.mp q.1)▸X1.cut (Y:=(IC.keep _ c).cx _) rfl (r4 V _ c) (zL (E D z x _ q.2 w1.2))) i k,E7⟩
end
section
variable{prog:Vd}{w:Ab}{A:vc}{E:zg->Gg->Prop}{s:Gg}{h0 h h':Be}{os:dg Fd}{i j t n:yg}{o:Fd}{x:zg}{items:Rf zg}
structure Hx(h0 h:Be)(os:dg Fd):Prop where
 old:∀c o,h0.get? c=some o->h.get? c=some o
 gt:∀i o,os[i]? =some o->h.get? (h0.objs.size+i)=some o
 sz:h.objs.size=h0.objs.size+os.length
theorem Hx.nil:Hx h h []:=⟨λz' z' e=>e,(λz' z' e=>(by nomatch e)),rfl⟩
theorem Hx.push(B:Hx h0 h os)(b:o.isFreed=false):Hx h0 (h.push o) (os++[o]):=
 ⟨λc o e=>zf _ (B.old c o e),λi z' e=>(Ç i _).elim (λl=>zf _ (B.gt i _ ((ed l).symm.trans e)))
  (λl=>by
   have e:=Kf l▸e;cases z:i-os.length with
   |zero=>
    haveI e:=z▸e;exact rR (ig e) (rL (ld (Nat.le_of_sub_eq_zero z) l) (rR B.sz (yf _ b)))
   |succ k=>haveI e:=z▸e;exact(by nomatch e)),
 (size_push' h o).trans ((eg _ B.sz).trans (eg (h0.objs.size+·) (jg (bs:=[o])).symm))⟩
noncomputable def sh(s:Gg)(h:Be):Gg:={s with heap:=h}
theorem Hx.LB{Q:zg->Gg->Prop}(B:Hx h0 h os)(a:o.isFreed=false)(k:∀h',Hx h0 h' (os++[o])->Q (.ref (h0.objs.size+os.length)) (sh s h')):Q (.ref h.objs.size) (sh s (h.push o)):=
 B.sz▸k _ (B.push a)
theorem Hx.upd{f:Fd->Fd}(B:Hx h0 h os)(e:os[i]? =some o)(a:(f o).isFreed=false):Hx h0 (h.update (h0.objs.size+i) f) (os.set i (f o)):=
 haveI n {c:yg} {o:Fd} (z:h0.get? c=some o):h0.objs.size+i≠c:=qd (Og (de z) (Cg _ _))
 ⟨λc o z=>(Ĉ _ _ (n z)).trans (B.old c o z),λj z' z=>by
  by_cases q:i=j
  ·rw [<-q,xe (List.getElem?_eq_some_iff.mp e).1] at z;exact rR q (rR (ig z) (Jc _ (B.gt i o e) a))
  ·rw [Ė q] at z;exact(Ĉ _ _ λz=>q (Qe z)).trans (B.gt j _ z),
 ((Hd ..).1.trans B.sz).trans (eg _ List.length_set.symm)⟩
section
variable(B:Hx h0 h os)
include B
theorem Hx.new{T:wb}{data:Data}{Q:zg->Gg->Prop}(k:∀h',Hx h0 h' (os++[{cls:= .type T,data}])->Q (.ref (h0.objs.size+os.length)) (sh s h'))(hd:sizeOk data)(a:Obj.isFreed {cls:= .type T,data}=false):Yg (ue prog w) A (newObj (.type T) data) Q E (sh s h):=
 wpAny_newObj_type (B.LB a k) hd
theorem Hx.fld{vs:Rf zg}{Q:zg->Gg->Prop}{k:yg}(e:os[i]? =some o)(hd:o.data= .fields vs)(hx:vs[k]? =some x)(K:Q x (sh s h)):Yg (ue prog w) A (field (.ref (h0.objs.size+i)) k) Q E (sh s h):=wpAny_field (B.gt i o e) hd hx K
theorem Hx.YL{vs:Rf zg}{Q:sa->Gg->Prop}{k:yg}(e:os[i]? =some o)(hd:o.data= .fields vs)(b:k<vs.size)(K:∀h',Hx h0 h' (os.set i (o.mapFields (·.setIfInBounds k x)))->Q () (sh s h'))(a:(o.mapFields (·.setIfInBounds k x)).isFreed=false:=by rfl):Yg (ue prog w) A (setField (.ref (h0.objs.size+i)) k x) Q E (sh s h):=wpAny_setField (B.gt i o e) hd b (K _ (B.upd e a))
theorem Hx.JD{Q:gg (Rf zg)->Gg->Prop}(e:os[i]? =some o)(hd:o.data= .seq items n)(K:Q (some items) (sh s h)):Yg (ue prog w) A (seqItems? (.ref (h0.objs.size+i))) Q E (sh s h):=Ja (B.gt i o e) hd K
theorem Hx.CP{Q:sa->Gg->Prop}{f:Rf zg->Rf zg}(e:os[i]? =some o)(hd:o.data= .seq items n)(hz:items.size<=Pd)(a:(f items).size<=Pd+1)(K:∀h',Hx h0 h' (os.set i (o.mapSeq f))->Q () (sh s h'))(b:(o.mapSeq f).isFreed=false:=by rfl):Yg (ue prog w) A (updateSeq (h0.objs.size+i) f) Q E (sh s h):=wpAny_updateSeq (B.gt i o e) hd (K _ (B.upd e b)) hz a
end
theorem bp:1<=Pd:=by decide
theorem tF:1<=Pd+1:=by decide
theorem YA:2<=Pd:=by decide
theorem XA:2<=Pd+1:=by decide
noncomputable abbrev iO(t i:yg):Fd:={cls:= .type "tuple_iterator",data:= .fields #[.ref t,.int i 0]}
noncomputable abbrev tO(xs:Rf zg):Fd:={cls:= .type "tuple",data:= .seq xs}
noncomputable abbrev iE:Fd:={cls:= .type "tuple_iterator",data:= .fields #[.none,.int 1 0]}
theorem dh{c:wb}(e:s.heap.get? i=some o)(q:o.cls= .type c):s.TypeIs (.ref i) c:=⟨o,e,q⟩
theorem TS{Q:zg->Gg->Prop}(B:Hx h0 h os)(e:os[i]? =some (iO t 0))(ht:h0.get? t=some (v7 #[x] n))(k:∀h',Hx h0 h' (os.set i (iO t 1))->Q x (sh s h')):Yg (ue prog w) A (yd (.ref (h0.objs.size+i))) Q E (sh s h):=by
 have ho:=dh (s:=sh s h) (B.gt i _ e) rfl;unfold yd;refine fg (zd ho yb (ve yb ho entry_tupleiter_next ?_ (args_tupleiter_next _)));exact fg (ug (fg (B.fld e rfl rfl (fg (B.fld e rfl rfl (fg (Ja (B.old t _ ht) rfl (fg (B.YL e rfl (Ag 2) λh' B=>ug ⟨x,rfl,ug (k h' B)⟩)))))))))
theorem xS{α:Type}{Q:α->Gg->Prop}(hh:A.handled=none)(B:Hx h0 h os)(k:∀h' o,Hx h0 h' (os++[tO #[]]++[o])->o.cls= .type "StopIteration"->E (.ref (h0.objs.size+(os++[tO #[]]).length)) (sh s h')):Yg (ue prog w) A (Builtin.SmallTypes.stopIteration:Ra α) Q E (sh s h):=
 fg (fg (B.new (λh' B=>fg (ug (B.new (λh' B=>fg (wpAny_handled (hh▸fg (ug (wpAny_throw (k _ _ B rfl)))))) (by size_fits) rfl))) (by size_fits) rfl))
variable{r:dg Fd}{a b l1 l2 n':yg}{o':Fd}{v y:zg}
theorem MG{Q:zg->Gg->Prop}(hh:A.handled=none)(B:Hx h0 h os)(e:os[i]? =some (iO t 1))(ht:h0.get? t=some (v7 #[x] n))
  (k:∀h' o,Hx h0 h' (os.set i iE++[tO #[]]++[o])->o.cls= .type "StopIteration"->E (.ref (h0.objs.size+(os.set i iE++[tO #[]]).length)) (sh s h')):Yg (ue prog w) A (yd (.ref (h0.objs.size+i))) Q E (sh s h):=by
 have ho:=dh (s:=sh s h) (B.gt i _ e) rfl;unfold yd;refine fg (zd ho yb (ve yb ho entry_tupleiter_next ?_ (args_tupleiter_next _)));exact fg (ug (fg (B.fld e rfl rfl (fg (B.fld e rfl rfl (fg (Ja (B.old t _ ht) rfl (fg (ga (fg (B.YL e rfl (Ve 1) λh' B=>xS hh B k)))))))))))
noncomputable abbrev zO(h:Be)(f:zg):Fd:={cls:= .type "zip",data:= .fields #[f,.bool false,.bool false,.ref (h.objs.size+2),.ref (h.objs.size+3)]}
noncomputable abbrev lH(h:Be)(l1 l2 c i:yg)(a b f:zg)(r:dg Fd):dg Fd:=iO l1 c::iO l2 i::tO #[.ref (h.objs.size+0),.ref (h.objs.size+1)]::tO #[a,b]::zO h f::r
theorem LN{M:Model}{d e:Type}{a:d}{l:dg d}{b:e}{f:d->e->Ra (ForInStep e)}{Q:e->Gg->Prop}(k:Yg M A (f a b) (λr s'=>Yg M A (ForInStep.rec (λb=>pure b) (λb=>forIn l b f) r) Q E s') E s):Yg M A (forIn (a::l) b f) Q E s:=by
 rw [List.forIn_cons];exact fg (Jg k (λr z' h=>by cases r<;>exact h) λz' z' z=>z)
theorem wL{Q:gg zg->Gg->Prop}(B:Hx h0 h (lH h0 l1 l2 0 0 .none .none .none r))(d:h0.get? l1=some (v7 #[x] n))(e:h0.get? l2=some (v7 #[y] n'))
  (k:∀h',Hx h0 h' (lH h0 l1 l2 1 1 x y (rawInt (h0.objs.size+(r.length+5):yg)) (r++[tO #[x,y]]))->Q (some (.ref (h0.objs.size+(r.length+5)))) (sh s h')):Yg (ue prog w) A (ñ (.ref (h0.objs.size+4))) Q E (sh s h):=by
 haveI c:=dh (s:=sh s h) (B.gt 4 _ rfl) rfl;refine fg (Ę (zd c ca (ve ca c F.entry_zip_next ?_ (F.args_zip_next_1 _))));refine fg (ug (fg (B.fld rfl rfl rfl (fg (B.fld rfl rfl rfl (fg (B.JD rfl rfl (fg ?_))))))));refine fg (B.fld rfl rfl rfl (ug (fg (ga (fg (B.fld rfl rfl rfl (fg (B.YL rfl rfl (Ve 4) λz' (B)=>fg ?_))))))));refine LN (fg (wpAny_onRaise ?_));refine fg (TS B rfl d λz' (B)=>ug (fg (B.JD rfl rfl (fg (B.CP rfl rfl YA XA λz' (B)=>fg (ú (ug ?_)))))));refine LN (fg (wpAny_onRaise ?_));exact fg (TS B rfl e λz' (B)=>ug (fg (B.JD rfl rfl (fg (B.CP rfl rfl YA XA λz' (B)=>fg (ú (ug (ug (fg (B.JD rfl rfl (fg (B.new (λz' (B)=>fg (fg (B.YL rfl rfl (Ve 4) λz' (B)=>B.YL rfl rfl (We (Ve 3)) λz' B=>ug ⟨_,rfl,ug (k _ B)⟩))) YA rfl))))))))))))
theorem hH{Q:gg zg->Gg->Prop}(g:A.handled=none)(B:Hx h0 h (lH h0 l1 l2 1 1 x y (rawInt (h0.objs.size+(i+5):yg)) r))(l:r[i]? =some o)(f:h0.get? l1=some (v7 #[v] n))
  (k:∀h' o' c,Hx h0 h' (iE::iO l2 1::tO #[.ref (h0.objs.size+0),.ref (h0.objs.size+1)]::tO #[x,y]::o'::(r++[tO #[]]++[c]))->Q none (sh s h')):Yg (ue prog w) A (ñ (.ref (h0.objs.size+4))) Q E (sh s h):=by
 haveI d:=dh (s:=sh s h) (B.gt 4 _ rfl) rfl;refine fg (Ę (zd d ca (ve ca d F.entry_zip_next ?_ (F.args_zip_next_1 _))));refine fg (ug (fg (B.fld rfl rfl rfl (fg (B.fld rfl rfl rfl (fg (B.JD rfl rfl (fg ?_))))))));refine fg (B.fld rfl rfl rfl (fg (kdx_alive (B.gt _ _ l) ?_)));refine fg (B.fld rfl rfl rfl (fg (B.YL rfl rfl (We (Ve 3)) λz' (B)=>ug ?_)));refine fg (rR Ga ?_);exact LN (fg (Nf (fg (MG g B rfl f λz' c B e=>fg (lc (dh (B.gt _ c (by rw [Kf (Ag _),cc];rfl)) e) isSubtype_stop (ug (k _ _ c B)))))))
theorem Hx.Fp{Q:zg->Gg->Prop}(B:Hx h0 h os)(e:h0.get? t=some (v7 items n))(k:∀h',Hx h0 h' (os++[iO t 0])->Q (.ref (h0.objs.size+os.length)) (sh s h')):Yg (ue prog w) A (ò (.ref t)) Q E (sh s h):=
 iter_tuple ⟨_,B.old t _ e,rfl,_,rfl⟩ (B.LB rfl k)
theorem gH(l1 l2:yg)(x y:zg)(n e:yg):Meets (Builtin.«zip.__new__» ⟨[.type "zip",.ref l1,.ref l2],[]⟩) λz' R s=>s.heap.get? l1=some (v7 #[x] n)/\s.heap.get? l2=some (v7 #[y] e)/\∀h',Hx s.heap h' (lH s.heap l1 l2 0 0 .none .none .none [])->R (.ok (.ret (.ref (s.heap.objs.size+4)))) (sh s h'):=
 .of_wp λprog w A R s h=>by
  refine eP h λd c k=> ?_;refine fg ?_;refine fg (ug (ug (fg (fg ?_))));refine LN (fg (Nf (Hx.nil.Fp d λz' (B)=>ug (LN (fg (Nf (B.Fp c λz' (B)=>ug (ug (ug ?_)))))))));refine fg (B.new (λz' (B)=>fg (B.new (λz' (B)=>fg ?_) YA rfl)) YA rfl);show Yg _ _ (newObj _ (.fields #[.none,.bool _,.bool _,.ref (s.heap.objs.size+2),.ref (s.heap.objs.size+3)])) _ _ _;exact B.new (λh' B=>ug ⟨_,rfl,k h' B⟩) (by size_fits) rfl
theorem BM{Q:zg->Gg->Prop}(h1:s.heap.get? l1=some (v7 #[x] n))(h2:s.heap.get? l2=some (v7 #[y] n'))(k:∀h',Hx s.heap h' (lH s.heap l1 l2 0 0 .none .none .none [])->Q (.ref (s.heap.objs.size+4)) (sh s h')):Yg (ue prog w) A (call (.type "zip") [.ref l1,.ref l2]) Q E s:=
 callType_new F.called_zip (by decide) (F.typeCall_zip_2 _ _) (F.newCall_zip_2 _ _) (λg9=>F.args_object_init_3 g9 _ _) F.entry_zip_new (gH l1 l2 x y n n') ⟨h1,h2,λh' B=>⟨dh (B.gt 4 _ rfl) rfl,k h' B⟩⟩
noncomputable abbrev lO(xs:Rf zg)(c:yg):Fd:={cls:= .type "list",data:= .seq xs c}
theorem YQ{Q:zg->Gg->Prop}(hh:A.handled=none)(B:Hx h0 h (lH h0 l1 l2 0 0 .none .none .none []))(h1:h0.get? l1=some (v7 #[x] n))(h2:h0.get? l2=some (v7 #[y] n'))
  (k:∀h' c os',Hx h0 h' os'->os'[5]? =some (lO #[.ref (h0.objs.size+6)] c)->os'[6]? =some (tO #[x,y])->Q (.ref (h0.objs.size+5)) (sh s h')):Yg (ue prog w) A (call (.type "list") [.ref (h0.objs.size+4)]) Q E (sh s h):=by
 refine callType_codes (Q₁:=λg9 s₁=>∃h1,g9= .ref (h0.objs.size+5)/\s₁=sh s h1/\Hx h0 h1 (lH h0 l1 l2 0 0 .none .none .none [lO #[] 0])) PySem.F.called_list (PySem.F.typeCall_list_1 _) PySem.F.entry_list_init (code_list_new _ (B.LB (Q:=λv s1=>∃h1,v= .ref (h0.objs.size+5)/\s1=sh s h1/\Hx h0 h1 _) rfl λh' B=>⟨h',rfl,rfl,B⟩)) λg9 s₁ h₁=> ?_;obtain⟨h,rfl,rfl,B⟩:=h₁;refine⟨dh (B.gt 5 _ rfl) rfl,PySem.F.args_list_init_2 _ _,?_⟩;refine fg (fg (B.JD rfl rfl (ug (fg (B.CP rfl rfl (Xg _) (Xg _) λz' (B)=>fg (ú ?_))))));unfold Ic;have hT:=dh (s:=sh s _) (B.gt 4 _ rfl) rfl;refine fg (da hT (Lf (λz=>absurd z ?_) λz'=> ?_))
 ·have g:Ä (.ref (h0.objs.size+5)) (.ref (h0.objs.size+4))=false:=gf λq=>absurd (Qe q) (by decide);rw [g]
  decide
 refine fg (wpAny_pyIter_zip (B.gt 4 _ rfl) (fg (Nf ?_)));refine fg (Ac hT (show typeLookup (.type "zip") "__len__"=pure none by rw [typeLookup_type,builtinLookup_eq_fast];kernel_rfl) (fg (Ac hT (show typeLookup (.type "zip") "__length_hint__"=pure none by rw [typeLookup_type,builtinLookup_eq_fast];kernel_rfl) (ug ?_))));refine fg (ga (fg (fg (B.CP rfl rfl (Xg _) tF λz' (B)=>B.CP rfl rfl bp (Xg _) λz' (B)=>ug ⟨wc Yf _,De Td ?_⟩))));rw [He Yf _];refine fg (wL B h1 h2 λz' (B)=>fg (B.CP rfl rfl (Xg _) tF λz' (B)=>ug ⟨wc Yf _,De Td ?_⟩));rw [He Yf _];exact fg (hH hh B rfl h1 λz' z' z' B=>ug ⟨rfl,k _ 3 _ B rfl rfl⟩)
variable{c c1:Cx}{F:Fm}{U:Tg->Prop}{G:Gh}{d e:vg}
theorem oO{P:yg->gg Fd}{items:Rf zg}(r:O3 P [d] items.toList):∃x,items=#[x]/\DR P d x:=by
 exact u8 r λx y e a b=>(⟨x,Array.toList_inj.mp (e.trans (eg _ b)),a⟩)
theorem xE{x y:Str}{es:dg Expr}{p j a f:re}(Q:ZD F c x p (.type "list"))
  (N:ZD F c y j (.type "zip")) (E:cS F U c es [.a9 (.tuple [d]),.a9 (.tuple [e])] c1)
  (i:(Dc a (Ae es F.env)).any (·.1)=false) (n:(Dc f (Ae [.Call (.Name y j) es [] a] F.env)).any (·.1)=false):
  Ev F U c (.Call (.Name x p) [.Call (.Name y j) es [] a] [] f) (.a9 (.list [.tuple [d,e]])) c1:=λG s S=>by
 refine Call_Name rfl (Q G s S _ λh h W=>callWith_of (by rfl) sZ (fY (Q0:=λvs m=>∃z,vs=[.ref z]/\F.W.K.In m.heap/\Yg (Mk F.W) F.A (call (.type "list") [.ref z]) (RA F U c1 G s λG=>F9 G (.a9 (.list [.tuple [d,e]]))) no m) (spliced_more ?_) n λvs z' ⟨z,e,x,y⟩=>by subst e;exact⟨x,y⟩));refine Call_Name rfl (N G _ (h▸S) _ λm l L=>callWith_of (rL i rfl) sZ (U0 E (l▸h▸S) i λvs k z=> ?_));obtain⟨T,J,b,V,O⟩:=z;refine⟨b.bW,?_⟩;refine u8 (j4 V) λA u q o r=> ?_;subst q;obtain⟨l1,X,Z,rfl,M,o⟩:=o;obtain⟨l2,R,n2,rfl,j,r⟩:=r;refine O8 (oO o) λA q Y=> ?_;subst q;refine O8 (oO r) λu q H=> ?_;subst q;haveI C:=b.sr.y9 _ _ (.inl M);have t:=b.sr.y9 _ _ (.inl j);refine BM C t λh q=>ug ⟨_,rfl,(b.keeps q.old).bW,YQ b.fr.st.tU q C t λh K z' B P I=> ?_⟩;haveI w:¬T.has (k.heap.objs.size+6):=b.sr.fresh (Cg _ _);haveI D:k.heap.objs.size+5≠k.heap.objs.size+6:=λz=>absurd (Qe z) (by decide);haveI v:=WS (ob:=tO #[A,u]) D (b.sr.fresh (Cg _ 5));haveI g:=(Gr.y9 (U:=U) w).trans (.y9 v (ob:=lO #[.ref (k.heap.objs.size+6)] K));exact⟨_,J.trans g,(((b.keeps B.old).F4 w (b.fr.fresh (Cg _ _)) (B.gt 6 _ I)).F4 v (b.fr.fresh (Cg _ _)) (B.gt 5 _ P)),⟨_,_,_,rfl,xg rfl,_,_,rfl,⟨_,_,_,rfl,(og D.symm).trans (xg rfl),_,_,rfl,DR.mono g.p _ _ Y,_,_,rfl,DR.mono g.p _ _ H,rfl⟩,rfl⟩,W.trans (L.trans (O.trans (SS.heap _ _)))⟩
variable{K:yg->kg}{cmp:yg->yg->(wg->Gg->Prop)->Gg->Prop}{p:Rf yg}
noncomputable def ky(K:yg->kg)(p:Rf yg)(i:yg):kg:=K (p.getD i 0)
def PN(n:yg)(p:Rf yg):Prop:=p.Perm (af n).toArray
def HW(n:yg)(K:yg->kg)(cmp:yg->yg->(wg->Gg->Prop)->Gg->Prop)(s:Gg):Prop:=
 ∀p i j C,PN n p->i<n->j<n->i≠j->(ky K p i<ky K p j->C true s)->(ky K p j<ky K p i->C false s)->cmp (p.getD i 0) (p.getD j 0) C s
def EW(K:yg->kg)(p:Rf yg)(m:yg):Prop:=∀i,i+1<m->ky K p i<ky K p (i+1)
def vL(K:yg->kg)(p:Rf yg)(m:yg):Prop:=∀i,i+1<m->ky K p (i+1)<ky K p i
theorem PN.size(h:PN n p):p.size=n:=(Array.Perm.size_eq h).trans (List.size_toArray.trans Bf)
theorem iR{p q:Rf yg}{i j:yg}(h:p[i]? =q[j]?):ky K p i=ky K q j:=by
 unfold ky;exact rL (Ld) (rL (Ld) (rL h rfl))
theorem EW.snoc{m:yg}(h:EW K p m)(g:ky K p (m-1)<ky K p m):EW K p (m+1):=λi a=>
 (Ç _ m).elim (h i) λl=>haveI e:=ld (Oe a) l
  by haveI g:=e.symm▸g;exact g
theorem vL.snoc{m:yg}(h:vL K p m)(g:ky K p m<ky K p (m-1)):vL K p (m+1):=λi a=>
 (Ç _ m).elim (h i) λl=>haveI e:=ld (Oe a) l
  by haveI g:=e.symm▸g;exact g
theorem EW.lt{m i j:yg}(h:EW K p m)(l:i<j):j<m->ky K p i<ky K p j:=by
 refine zE (Rb l) λd u=> ?_;subst u;induction d with
 |zero=>exact h i
 |succ d b=>exactλz=>Int.lt_trans (b (Hb (Cg i d)) (Ib z)) (h _ z)
theorem KM{Q:yg->Gg->Prop}(A:HW n K cmp s)(hp:PN n p)(k:∀r,1<=r->r<=n->EW K p r->(r<n->ky K p r<ky K p (r-1))->Q r s)(f:yg):∀m,1<=m->m+f=n->EW K p m->(kas_asc p f m).kasWp cmp Q s:=by
 induction f with
 |zero=>exactλm h e a=>k m h (Bg e) a λl=>absurd e (Ie l)
 |succ f i=>
  exactλm h e a=>have l:=e▸se (ye f);
  A p m _ _ hp l (Qg (Pc m 1) l) (qd (õ h Ô)) (λc=>k m h (Uf l) a λz'=>c) λc=>i _ (bf h) ((Af m f).trans e) (a.snoc c)
theorem nJ{Q:Rf yg×yg×yg->Gg->Prop}(A:HW n K cmp s)(hp:PN n p)(k:∀r,1<=r->r<=n->vL K p r->Q (p,r,0) s)(f:yg):∀m,1<=m->m+f=n->vL K p m->(kas_desc f p m 0).kasWp cmp Q s:=by
 induction f with
 |zero=>exactλm h e a=>k m h (Bg e) a
 |succ f i=>
  exactλm h e a=>have l:=e▸se (ye f);have l1:=Qg (Pc m 1) l;haveI b:=qd (õ h Ô);
  A p m _ _ hp l l1 b (λc=>i _ (bf h) ((Af m f).trans e) (a.snoc c))
   λc=>A p _ m _ hp l1 l b.symm (λz'=>k m h (Uf l) a) λc'=>absurd c (Vb c')
theorem eN{m:yg}(hm:m<=p.size){i:yg}(h:i<m):ky K (kas_rev p 0 m) i=ky K p (m-1-i):=
 iR ((getElem?_mirror_all hm i).trans ((xg ⟨Xg _,h⟩).trans (by rw [Tf])))
theorem vL.rev{m:yg}(hm:m<=p.size)(h:vL K p m):EW K (kas_rev p 0 m) m:=λi a=>by
 refine rL (eN hm a) (rL (eN hm (Ib a)) ?_);refine zE (Rb a) λd u=> ?_;subst u;rw [Sa,ă,Hf,ă,Mf 1];exact h d (We (Nat.lt_add_of_pos_left (ye i)))
theorem NL{Q:yg×Rf yg->Gg->Prop}(A:HW n K cmp s)(hp:PN n p)(k:∀r q,PN n q->1<=r->r<=n->EW K q r->Q (r,q) s){m:yg}(b:1<=m)(hm:m<=n)(h:vL K p m):(kas_tail3 m n p).kasWp cmp Q s:=by
 unfold kas_tail3;rw [Vc];have a:PN n (kas_rev p 0 m):=(mirror_perm _ _ _ _).trans hp;exact KM A a (λr c d u z'=>k r _ a c d u) _ m b (ic hm) (h.rev (hp.size▸hm))
theorem ZV{Q:yg×Rf yg->Gg->Prop}(A:HW n K cmp s)(hp:PN n p)(k:∀r q,PN n q->1<=r->r<=n->EW K q r->Q (r,q) s){m:yg}(a:1<=m)(hm:m<n)(h:vL K p (m+1)):(kas_descPart m n p).kasWp cmp Q s:=by
 unfold kas_descPart;rw [Vc];exact nJ A hp (λr b c d=>NL A hp k b c d) _ _ (bf a) (ic hm) h
theorem tM{Q:yg×Rf yg->Gg->Prop}(A:HW n K cmp s)(hp:PN n p)(hn:1<=n)(k:∀r q,PN n q->1<=r->r<=n->EW K q r->Q (r,q) s):(kas_count n p).kasWp cmp Q s:=by
 unfold kas_count;rw [Vc];refine KM A hp (λr h a u e=> ?_) _ 1 (Ag _) (ic hn) λi b=>absurd (ze b) (Wc i);by_cases q:r=n
 ·exact(xg (beq_iff_eq.mpr q))▸k r p hp h a u
 ·haveI l:=Nat.lt_of_le_of_ne a q;refine rL (og λz=>q (beq_iff_eq.mp z)) ?_;by_cases g:r>1
  ·exact rL (xg g) (A p 0 _ _ hp (Og h a) (Qg (Pc r 1) l) (Ie (Fb g)) (λz'=>k r p hp h a u) λc=>absurd c (Vb (u.lt (Fb g) (õ h Ô))))
  ·exact rL (og g) (ZV A hp k h l (vL.snoc (λi b=>by haveI b:=(ld (Xe g) h)▸b;exact absurd (ze b) (Wc i)) (e l)))
theorem fO{Q:yg->Gg->Prop}(A:HW n K cmp s)(hp:PN n p){k:yg}(t:k<n)(C:∀x,x<=k->(∀i,i+1=x->ky K p i<ky K p k)->(x<k->ky K p k<ky K p x)->Q x s)(f:yg):∀l r,r<=l+f->l<=r->r<=k->(∀i,i+1=l->ky K p i<ky K p k)->(r<k->ky K p k<ky K p r)->(kas_place p k f l r).kasWp cmp Q s:=by
 induction f with
 |zero=>exactλl r g h d a b=>C l (bg h d) a ((ld g h:r=l)▸b)
 |succ f o=>
  intro l r g h d a b;unfold kas_place;by_cases q:l≥r
  ·exact rL (xg q) (C l (bg h d) a (ld q h▸b))
  ·refine rL (og q) ?_;haveI j:=(Nat.le_div_iff_mul_le Nat.zero_lt_two).mpr (by rw [Nat.mul_two];exact Eg h l);have m2:=Nat.div_lt_of_lt_mul (by rw [Nat.two_mul];exact Nat.add_lt_add_right (Qb q) r);haveI m:=Og m2 d;exact A p k _ _ hp t (Æ m t) (qd m) (λc=>o l _ (Oe (Og m2 g)) j (Uf m) a λz'=>c)
    λc=>o _ r (by rw [Af];exact bg g (Qf j _)) m2 d (λi e=>ì e▸c) b
theorem IF{i j d:yg}(hs:i<p.size)(h:i=j+d)(k:yg):ky K (bubble p i d) k=if k=j then ky K p i else if j<k/\k<=i then ky K p (k-1) else ky K p k:=by
 haveI e:=getElem?_bubble hs d (h▸Wb d j) k;have e:=(Nat.sub_eq_of_eq_add h)▸e;by_cases a:k=j
 ·rw [xg a] at e⊢;exact iR e
 ·rw [og a] at e⊢;by_cases b:j<k/\k<=i
  ·rw [xg b] at e⊢;exact iR e
  ·rw [og b] at e⊢;exact iR e
theorem YE{Q:Rf yg->Gg->Prop}(A:HW n K cmp s)(C:∀q,PN n q->EW K q n->Q q s)(f:yg):∀p k,k+f=n->PN n p->EW K p k->(kas_bin f p k).kasWp cmp Q s:=by
 induction f with
 |zero=>exactλp k e hp u=>C p hp (e▸u)
 |succ f m=>
  intro p k e hp u;have j:=e▸se (ye f);unfold kas_bin;rw [Vc];refine fO A hp j (λl hl a b=>m _ _ ((Af k f).trans e) ((bubble_perm _ _ _).trans hp) λi o=> ?_) k 0 k (Bg (Tf k).symm) (Xg k) (Ag k) (λi e=>(by nomatch e)) λz=>absurd z (Nat.lt_irrefl k);have g:=IF (K:=K) (hp.size▸j) (ic hl).symm;rw [g,g];haveI c:=ze o;rcases Nat.lt_trichotomy i l with z|rfl|z
  ·refine rL (og (Ie z)) (rL (og λy=>Nat.lt_asymm z y.1) ?_);by_cases y:i+1=l
   ·refine rL (xg y) ?_;exact a i y
   ·exact rL (og y) (rL (og λx=>Nat.not_lt.mpr z x.1) (u i (Og (Nat.lt_of_le_of_ne z y) hl)))
  ·exact rL (xg rfl) (rL (og (Í i)) (rL (xg ⟨be i,c⟩) (b c)))
  ·refine rL (og (qd z)) ?_;refine rL (xg ⟨z,Uf c⟩) ?_;rw [og (qd (Gb z)),xg ⟨Gb z,c⟩];refine zE (Rb z) λd v=> ?_;subst v;exact u (l+d) c
theorem VL{Q:Rf yg->Gg->Prop}(A:HW n K cmp s)(hn:1<=n)(C:∀q,PN n q->EW K q n->Q q s):(kas_sort n).kasWp cmp Q s:=by
 unfold kas_sort;rw [Vc];refine tM A (ĕ _) hn λr q hq h1 h2 u=> ?_;by_cases z:r<n
 ·rw [xg z];rw [Nat.max_eq_left h1];exact YE A C (n-r) q r (ic h2) hq u
 ·rw [og z];exact C q hq (ld h2 (Xe z)▸u)
end
section
variable{prog:Vd}{w:Ab}{A:vc}{E:zg->Gg->Prop}{s:Gg}{a b n m:yg}{xs ys:Rf zg}{x y:kg}{t u:Tok}
theorem RO{Q:wg->Gg->Prop}(ha:s.heap.get? a=some (v7 xs n))(hb:s.heap.get? b=some (v7 ys m))(ex:xs[0]? =some (.int x t))(ey:ys[0]? =some (.int y u))(ne:x≠y)(h:Q (decide (x<y)) s):Yg (ue prog w) A (keyLt' (tuples' true) (.ref a) (.ref b)) Q E s:=by
 refine kat_lt ha rfl hb rfl ?_;rw [<-Sf] at ex ey;cases e1:xs.toList with
 |nil=>rw [e1] at ex;cases ex
 |cons p ps=>cases e2:ys.toList with
  |nil=>rw [e2] at ey;cases ey
  |cons q qs=>
   rw [e1] at ex;rw [e2] at ey;cases ex;cases ey;exact kat_cons (wpAny_eqBool_int (gf ne▸kat_no (oneLt_int h)))
variable{l:yg}{vs:dg zg}{K:yg->kg}{h0 h:Be}
def mU(h:Be)(vs:dg zg)(K:yg->kg):Prop:=∀i,i<vs.length->∃b items m t,vs.getD i .none= .ref b/\h.get? b=some (v7 items m)/\items[0]? =some (.int (K i) t)
noncomputable def Rh(vs:dg zg)(p:Rf yg):Rf zg:=Bc (p.toList.map λi=>vs.getD i Ě)
def Vh(n:yg)(K:yg->kg):Prop:=∀i j,i<n->j<n->i≠j->K i≠K j
theorem mV{n:yg}{p:Rf yg}(h:PN n p){i:yg}(b:i<n):p.getD i 0<n/\p.toList[i]? =some (p.getD i 0):=by
 have hs:=h.size.symm▸b;haveI e:=Ye hs;haveI a:p.getD i 0=p[i]:=by refine rL (Ld) (rL e ?_);rfl
 exact rL a (rL (Sf) (rL e (⟨List.mem_range.mp ((Array.perm_iff_toList_perm.mp h).mem_iff.mp (Array.getElem_mem_toList _)),rfl⟩)))
theorem xG{n:yg}{p:Rf yg}(h:PN n p){i j:yg}(a:i<n)(c:j<n)(b:i≠j):p.getD i 0≠p.getD j 0:=λe=>by
 exact b ((List.getElem?_inj (rL Zg (rL h.size a)) ((Array.perm_iff_toList_perm.mp h).nodup_iff.mpr List.nodup_range)).mp (((mV h a).2).trans ((eg _ e).trans (mV h c).2.symm)))
theorem Xh(B:∀b o,h0.get? b=some o->h.get? b=some o)(H:mU h0 vs K)(I:Vh vs.length K):HW vs.length K (kas_cmp prog w A (tuples' true) (pairsOf vs)) (sh s h):=λp i j C hp c d e D y=>by
 rw [<-kas_ask_eq];have a:=(mV hp c).1;have b:=(mV hp d).1;refine T6 (H _ a) λb1 r q v p'=>eP p' λe1 g k=>(T6 (H _ b) λb2 u z' t p'=>eP p' λm f x=> ?_);have n:=I _ _ a b (xG hp c d e);unfold kas_ask;refine rL e1 (rL m ?_);refine RO (B _ _ g) (B _ _ f) k x n ?_;by_cases z:K (p.getD i 0)<K (p.getD j 0)
 ·refine rL (Dg z) ?_;exact D z
 ·refine rL (Ig z) ?_;exact y (Int.lt_iff_le_and_ne.mpr ⟨Int.not_lt.mp z,n.symm⟩)
theorem mU.Fw(H:mU h vs K):∃fs,KatTups h vs fs/\fs.length=vs.length/\∀f∈fs,∃i t,f= .int i t:=by
 induction vs generalizing K with
 |nil=>exact⟨[],trivial,rfl,λz' m=>(by nomatch m)⟩
 |cons v _ o=>
  refine T6 (H 0 (ye _)) λb z' m t p=>eP p λe g x=>(e6 (o λi j=>H _ (We j)) λfs a k d=> ?_);exact⟨_::fs,(e)▸KatTups.cons g rfl rfl x a,eg (·+1) k,λf m=>(List.mem_cons.mp m).elim (λe=>⟨_,_,e⟩) (d f)⟩
theorem SP(B:∀b o,h0.get? b=some o->h.get? b=some o)(H:mU h0 vs K):Yg (ue prog w) A (if vs.toArray.size<2 then pure general' else keyKind' vs.toArray) (λk s'=>s'=sh s h/\(¬vs.toArray.size<2->k=(tuples' true))) E (sh s h):=by
 by_cases z:vs.toArray.size<2
 ·refine rL (xg z) ?_;exact ug ⟨rfl,λn=>absurd z n⟩
 ·refine rL (og z) ?_;refine e6 (mU.Fw (λi d=>(H i d).imp λb q=>q.imp λz' q=>q.imp λz' q=>q.imp λz' q=>⟨q.1,B _ _ q.2.1,q.2.2⟩)) λfs a e c=> ?_;refine kat_kind (T:= .type "int") a (e▸Og Nat.zero_lt_two (Xe z)) (λv m=> ?_) (by decide) ⟨rfl,λz'=>rfl⟩;refine M8 (c v m) λi t u=> ?_;subst u;exact .now
theorem SL{k:SortKind}(v:A.units<ü)(B:∀b o,h0.get? b=some o->h.get? b=some o)(H:mU h0 vs K)(I:Vh vs.length K)(d:vs.length<64)(g:¬vs.toArray.size<2->k=(tuples' true)):
  Yg (ue prog w) A ((if vs.toArray.size<2 then pure () else sortRuns').run (SortSt.mk' k (vs.toArray.zip vs.toArray) #[] 7 none)) (λr s'=>s'=sh s h/\∃p,PN vs.length p/\EW K p vs.length/\arrOf r.2=p.map (kas_item (pairsOf vs))/\failedOf r.2=none) E (sh s h):=by
 haveI e:=kas_range (pairsOf vs);rw [pairsOf_size] at e;by_cases z:vs.toArray.size<2
 ·exact rL (xg z) (ug ⟨rfl,_,ĕ _,λi t=>absurd (Og t (Oe z)) (Nat.not_lt.mpr (Hg (Xg i))),e.symm,rfl⟩)
 ·refine rL (og z) (rL (g z) ?_);haveI a:=kas_runs (E:=E) (n:=vs.length) (G:=λq s'=>s'=sh s h/\PN _ q/\EW K q _) (Q:=λz' c s'=>s'=sh s h/\∃p,PN _ p/\EW K p _/\arrOf c=p.map _/\failedOf c=none) (Xe z) d (λp' z' z' z' u m f=>⟨f.1,p',f.2.1,f.2.2,u,m⟩) (VL (Xh (prog:=prog) (w:=w) (A:=A) B H I) (bg (Gf 1) (Xe z)) λq j up=>⟨rfl,j,up⟩);unfold kas_st at a;haveI a:=e▸a;exact a
theorem TF{M:Model}{d e:Type}{c:Prop}[Zb c]{a b:Ra d}{f:d->Ra e}{Q:e->Gg->Prop}(h:Yg M A ((if c then a else b)>>=f) Q E s):Yg M A (if c then a>>=f else b>>=f) Q E s:=by
 by_cases z:c
 ·rw [xg z] at h⊢;exact h
 ·rw [og z] at h⊢;exact h
theorem VO{i:yg}{a:dg Fd}{P:PySem.Fin->Gg->Prop}(v:A.units<ü)(B:Hx h0 h a)(e:a[i]? =some (lO vs.toArray n))(d:vs.length<64)(H:mU h0 vs K)(I:Vh vs.length K)
  (k:∀h' c p b,PN vs.length p->EW K p vs.length->Hx h0 h' b->b[i]? =some (lO (Rh vs p) c)->P (.done (.ret .none)) (sh s h')):Yg (ue prog w) A (Builtin.«list.sort» ⟨[.ref (h0.objs.size+i)],[]⟩) P E (sh s h):=by
 have z:vs.length<=Pd:=bg (Uf d) (by decide);have l:=(List.getElem?_eq_some_iff.mp e).1;haveI m:∀{a:dg Fd} {o r},i<a.length->(a.set i o++r)[i]? =some o:=λ{a o r} l=>by
  exact rL (ed (rL List.length_set l)) (rL (xe l) rfl)
 rw [list_sort_plain];refine fg (listItems_at (B.gt i _ e) rfl (fg (B.CP e rfl z (Xg _) λD g=> ?_)));refine fg (seqEpoch_at (g.gt i _ (xe l)) rfl (fg (g.new (λJ x=>fg (x.new (λF u=>Nf ?_) (Xg _) rfl)) z rfl)));have f:=Lg ..▸u;refine TF (fg (Jg (SP f.old H) (λkd z' y=> ?_) λz' z' z=>z));refine rL y.1 (fg (Jg (SL v f.old H I d y.2) (λr z' y=> ?_) λz' z' z=>z));refine F0 y λe1 p hp up p'=>zA p' λC q=> ?_;have j:(arrOf r.2).map (·.2)=Rh vs p:=by
  apply Array.toList_inj.mp;exact rL C (rL Array.map_map (rL Array.toList_map (wd λi z'=>eg _ (kas_item_eq _ i))))
 refine rL e1 (fg (seqEpoch_at (f.gt i _ (m l)) rfl (fg (f.CP (m l) rfl (Xg _) ?_ λG t=> ?_))))
 ·show((arrOf _).map _).size<=_;refine rL j ?_;refine rL Cb ?_;rw [ng,Zg,hp.size];exact bf z
 ·refine rL q ?_;refine Lf (λz=>absurd z ?_) λz'=>ug (k _ ?_ p _ hp up t ?_)
  ·rw [á];decide
  rotate_left
  ·refine rL (xe (rL jg (rL List.length_set (Og l (Cg _ _))))) ?_;exact eg (λz=>some (lO z _)) j
theorem CM{Q:zg->Gg->Prop}(g:A.units+64<ü)(hl:s.heap.IsList l vs.toArray)(b:vs.length<64)(H:mU s.heap vs K)(I:Vh vs.length K)
  (k:∀h' c p a,PN vs.length p->EW K p vs.length->Hx s.heap h' a->a[1]? =some (lO (Rh vs p) c)->Q (.ref (s.heap.objs.size+1)) (sh s h')):Yg (ue prog w) A (call (.builtin "sorted") [.ref l]) Q E s:=by
 haveI z:vs.length<=Pd:=bg (Uf b) (by decide);refine Calls.call_function_entry kind_sorted plain_sorted entry_sorted (args_sorted1 _) (fg (ug (fg (collect_list hl ?_ z))));haveI B:=((Hx.nil (h:=s.heap)).push (o:=seqObj "list" #[] 0) rfl).upd (i:=0) (f:=Obj.mapSeq (·++vs.toArray)) rfl rfl;refine fg (B.new (λj d=> ?_) z rfl);refine fg (Nf (ve slot_list_sort (dh (d.gt 1 _ rfl) rfl) entry_list_sort (VO (Qg (Eg (by decide:2<=64) _) g) d rfl b H I λh' c p a hp up B e=>⟨_,rfl,ug ⟨_,rfl,k _ c p _ hp up B e⟩⟩) (args_list_sort _)))
end
section
variable{c:Cx}{F:Fm}{U:Tg->Prop}{a:AV}{L L1 L2:dg (dg kg)}
theorem UK{d:Type}{f:d->kg}{l:dg d}:(l.map f).Nodup->∀{a b},a∈l->b∈l->f a=f b->a=b:=by
 induction l with
 |nil=>exactλz' {a b} m=>(by nomatch m)
 |cons x l i=>
  intro h a b j g e;haveI h:=List.nodup_cons.mp h;exact(List.mem_cons.mp j).elim (λp=>(List.mem_cons.mp g).elim (λq=>p.trans q.symm) λq=>(h.1 (List.mem_map.mpr ⟨b,q,by refine rR p ?_;exact e.symm⟩)).elim) λp=>(List.mem_cons.mp g).elim (λq=>(h.1 (List.mem_map.mpr ⟨a,p,by refine rR q ?_;exact e⟩)).elim) λq=>i h.2 p q e
theorem RP(L:dg (dg kg)):(I0 L).Pairwise λx y=>x.headD 0<=y.headD 0:=
 (List.pairwise_mergeSort (le:=λx y=>decide (x.headD 0<=y.headD 0)) (λa b c d h=>Dg (Hc (qg d) (qg h))) (λa b=>(Jf ..).mpr ((Int.le_total _ _).imp Dg Dg)) L).imp qg
theorem bV(p:L1.Perm L2)(h:bH L2)(s:L1.Pairwise λx y=>x.headD 0<=y.headD 0):L1=I0 L2:=
 Ï (λa b ha hb h1 h2=>UK h.2 (p.mem_iff.mp ha) ((Xc L2 _).mem_iff.mp hb) (Yb h1 h2)) s (RP L2) (p.trans (Xc L2 _).symm)
theorem r9.Qv{b j d:Type}{R:j->d->Prop}{f:b->j}{g:b->d}{l:dg b}:(∀i∈l,R (f i) (g i))->r9 R (l.map f) (l.map g):=by
 induction l with
 |nil=>exactλz'=> .nil
 |cons x l e=>exactλh=> .cons (h x (.head _)) (e λi m=>h i (.tail _ m))
theorem QY{b:Type}{d:b}{l:dg b}:(af l.length).map (λi=>l.getD i d)=l:=by
 induction l with
 |nil=>rfl
 |cons x l e=>refine rL Yd (rL Ą (rL Cf (rL Vg ?_)));exact eg _ e
theorem XX{b:Type}{d:b}{l:dg b}{i:yg}(h:i<l.length):l[i]? =some (l.getD i d):=by
 refine rL (ub) (rL (sf h) ?_);rfl
theorem TB(hl:Ls c.σ a ((iP L).map .a9))(hz:L.length<64)(hd:bH L):X4 F U c (λxs=>call (.builtin "sorted") xs []) [a] (.a9 (.list (iP (I0 L)))) c:=λG s z' S r=>by
 refine O8 (a7 r) λx A D=> ?_;subst A;refine f8 (a6 S.sr hl D) λy items n A p'=>zA p' λg q=> ?_;subst A;have k:items.toList.length=L.length:=by rw [<-q.length,ng,iP,ng]
 have u:=λi f=>by
  refine O8 (kh q (a:= .a9 (.tuple (zs (L.getD i [])))) (by rw [iP,Vg,Wg,XX f];rfl)) λv e r=> ?_;exact(show items.toList.getD i .none=v from List.getD_eq_getElem?_getD.trans (eg (Option.getD · Ě) (Array.getElem?_toList.trans e)))▸r
 refine CM (K:=λi=>(L.getD i []).headD 0) (S.room (Ag 64)) (by exact X8 g) (k▸hz) (λi f=> ?_) (λi j f o E e=>E ?_) λh' z' p z' hp up B e1=> ?_
 ·have f:=k▸f;refine f8 (u i f) λb w m e p'=>zA p' λI d=>(⟨b,w,m,?_⟩);cases z:L.getD i [] with
  |nil=>exact absurd z (hd.1 _ (qe (XX f)))
  |cons x r=>
   have d:=z▸d;refine u8 d λy M H A z'=> ?_;obtain⟨t,J⟩:=A;exact⟨t,e,S.sr.y9 _ _ (.inl I),by refine rR (Sf) (rL H (rL J ?_));show _=some (Value.int ((L.getD i []).headD 0) t);refine rL z ?_;rfl⟩
 ·rw [k] at f o;refine(List.getElem?_inj (by rw [ng];exact f) hd.2).mp ?_;exact rL (Wg) (rL (Wg) (rL (XX f) (rL (XX o) (eg some e))))
 ·rw [k] at hp up;have es:I0 L=p.toList.map (L.getD · []):=by
   refine(bV (((Array.perm_iff_toList_perm.mp hp).map _).trans (.of_eq QY)) hd (List.pairwise_map.mpr (List.pairwise_iff_getElem.mpr λi j f o l=> ?_))).symm;rw [Zg,hp.size] at f o;haveI e (i) (h) (z):p.toList[i]=p.getD i 0:=ig ((sf z).symm.trans (mV hp h).2);rw [e i f,e j o];exact(Gd (up.lt l o))
  refine .list S ?_ B.old (Gf _) (B.gt 1 _ e1);refine rL es ?_;rw [iP,Vg];exact .of (r9.Qv λi m=>u i ((λi m=>List.mem_range.mp ((Array.perm_iff_toList_perm.mp hp).mem_iff.mp m)) i m))
end
section
variable{prog:Vd}{w:Ab}{A:vc}{E:zg->Gg->Prop}{s:Gg}{h:Be}{os r:dg Fd}{a:zg}{es:Rf (kg×zg)}{t:yc}{ep:yg}
noncomputable abbrev sO(es:Rf (kg×zg))(ep:yg)(t:yc):Fd:={cls:= .type "set",data:= .set es ep t}
noncomputable def W4(w:Ab):wg:=w.params.followText "set-order"
theorem XQ{Q Q₁:zg->Gg->Prop}(hnew:ab (ue prog w) A.in1 (.call (.builtin "set.__new__") ⟨[.type "set",a],[]⟩) (wants Q₁ E) s)
  (hnext:∀g9 s₁,Q₁ g9 s₁->s₁.TypeIs g9 "set"/\Yg (ue prog w) A.in1.in1 (Builtin.«set.__init__» ⟨[g9,a],[]⟩)
    (λEh s'=>match Eh with| .done f=>wants (λr s₂=>r= .none/\Q g9 s₂) E (.ok f) s'| .again c'=>c'.quiet=true/\ab (ue prog w) A.in1 c' (wants (λr s₂=>r= .none/\Q g9 s₂) E) s')
    (λe s'=>wants (λr s₂=>r= .none/\Q g9 s₂) E (.error e) s') s₁):
  Yg (ue prog w) A (call (.type "set") [a]) Q E s:=by
 obtain⟨c,tl,hmro⟩:=PySem.F.called_set.mro;haveI hmade:=PySem.F.called_set.made;haveI hsub:=PySem.F.called_set.sub;haveI hct:=PySem.F.typeCall_set_1 a;refine wpAny_call (codeAny_of_tree ?_);refine ug ⟨Code.quiet_builtin _ (by decide+kernel),De PySem.F.entry_type_call ?_⟩;rw [Around.under_plain (weight_type_call_type "set" [a] []) rfl];haveI h1:=PySem.F.called_set.notType;have h2:=PySem.F.called_set.canCreate
 repeat (any_goals (first|assumption|wp_step))
 refine Oc hnew λr s₁ hr=> ?_;cases r with
 |error e=>exact hr
 |ok fl=>
  cases fl with
  |ret g9=>
   obtain⟨hT,hsi⟩:=hnext _ _ hr;have hli:=PySem.F.called_set.init.lookup;have hbi:=PySem.F.called_set.init.bind g9
   repeat (any_goals (first|assumption|wp_step))
   refine Oc (codeAny_call_builtin PySem.F.called_set.init.plain PySem.F.entry_set_init (check_set_init_1 hT hsi)) λr₂ s₂ hr₂=> ?_;cases r₂ with
   |error e=>exact hr₂
   |ok fl₂=>
    cases fl₂ with
    |ret r=>
     obtain⟨rfl,hq⟩:=hr₂
     repeat (any_goals (first|assumption|wp_step))
    |_=>exact hr₂.elim
  |_=>exact hr.elim
theorem ZL{Q₁:zg->Gg->Prop}(h:Q₁ (.ref s.heap.objs.size) {s with heap:=s.heap.push (sO #[] 0 (.fresh 0 0 (!W4 w)))}):
  ab (ue prog w) A (.call (.builtin "set.__new__") ⟨[.type "set",a],[]⟩) (wants Q₁ E) s:=by
 refine codeAny_of_tree (fg (wpAny_of_eq (PySem.F.newCall_set_1 a) (ug ⟨wc þ _,De PySem.F.entry_set_new ?_⟩)));refine rL (He þ _) ?_;unfold Builtin.«set.__new__» Builtin.Frozenset.newClass;haveI hsub:=sub_set_self;obtain⟨hp,g,d,tk,os⟩:=s;dsimp only
 wp_walk;refine mc (ug ?_);dsimp only;simp only [newObj];refine fg (wpAny_alloc (ug ?_));exact ug h
variable{h0 h':Be}{i l n tk:yg}{o:Fd}{v:zg}{k:kg}
abbrev Ph:=yc×Rf (kg×zg)
noncomputable def lL(v:kg×yg):zg:= .int v.1 v.2
noncomputable def Bh(p:Ph)(v:kg×yg):Rf (kg×zg)×yc×wg×wg:=layNew p.1 p.2 (ā v.1) (lL v)
noncomputable def M0(t:yc)(es:Rf (kg×zg)):Rf (kg×zg)×yc×wg:=ô t.tooFull (relayAll t es (SetTable.grown es.size)) (es,t,false)
noncomputable def Z6(p:Ph)(v:kg×yg):Ph:=((M0 (Bh p v).2.1 (Bh p v).1).2.1,(M0 (Bh p v).2.1 (Bh p v).1).1)
noncomputable def Mq(p:Ph)(v:kg×yg):wg:=p.1.fits p.2.size&&(byScan (lL v) p.2&&(p.2.toList.all (λe=> !(e.1==ā v.1))&&(!(Bh p v).2.2.1&&(!(Bh p v).2.2.2&&((Bh p v).2.1.plain&&(!(M0 (Bh p v).2.1 (Bh p v).1).2.2&&(dc (Bh p v).1.size 64&&dc (Z6 p v).2.size 64)))))))
theorem dK{a:wg}{Q:ScanMet->Gg->Prop}{es:dg (kg×zg)}(h:es.all (λe=> !(e.1==k))=true)(f:Q .absent s):∀{i},Yg (ue prog w) A (setScanFrom n v k a es i) Q E s:=by
 induction es with
 |nil=>exactλ{i}=>ug f
 |cons e _ d=>
  intro i;haveI q:=l9 h;unfold setScanFrom;exact rL (og (Bool.eq_false_iff.mp ((Od _).mp q.1))) (d q.2)
noncomputable def AC(s:Gg)(k:yg):Gg:={s with toks:=k}
theorem aO{Q:wg->Gg->Prop}{d c:Rf (kg×zg)}{g u:yc}(B:Hx h0 h os)(e:os[i]? =some (sO es ep t))(H:t.fits es.size=true)(I:byScan (.int k tk) es=true)(G:es.toList.all (λe=> !(e.1==ā k))=true)(J:layNew t es (ā k) (.int k tk)=(d,g,false,false))(hp:g.plain=true)(m:M0 g d=(c,u,false))(hz:d.size<=Pd)(p:c.size<=Pd)
  (C:∀h' D,Hx h0 h' (os.set i (sO c D u))->Q true (sh (AC s (s.toks+1)) h')):Yg (ue prog w) A (setAdd (h0.objs.size+i) (.int k tk)) Q E (sh s h):=by
 refine Nf (fg (wpAny_pyHash_int ?_));haveI l:=(List.getElem?_eq_some_iff.mp e).1;refine Nf (fg (Se (B.gt i _ e) rfl H (Lf (λz'=>fg (fg (ga (fg (dK G ?_))))) λz=>absurd I z)));refine rL J ?_;refine fg (ug (Lf (λz'=>fg ?_) λz=>absurd hp z));refine ug (fg (wpAny_storeSet_of (B.gt i _ e) rfl (Lf (λz=> ?_) λz=> ?_) hz))
 ·have F:=B.upd (f:=Obj.putSet d g) e rfl;unfold M0 at m;rw [show g.tooFull=true from(l9 z).2] at m;have m:relayAll _ _ _=(c,u,false):=m;exact rL m (fg (ug (fg (wpAny_storeSet_of (F.gt i _ (xe l)) rfl (ug (ug (C _ _ (List.set_set ..▸F.upd (xe l) rfl)))) p))))
 ·unfold M0 at m;have z:g.tooFull=false:=(Bool.not_eq_true _).mp z;rw [z] at m;cases m;exact ug (ug (C _ _ (B.upd e rfl)))
theorem Gw{b c:Type}{r:b×c×wg×wg}(d:(!r.2.2.1)=true)(f:(!r.2.2.2)=true):r=(r.1,r.2.1,false,false):=
 eg (λz=>(r.1,r.2.1,z)) (nb ((Od _).mp d) ((Od _).mp f))
theorem Hw{b c:Type}{r:b×c×wg}(d:(!r.2.2)=true):r=(r.1,r.2.1,false):=eg (λz=>(r.1,r.2.1,z)) ((Od _).mp d)
theorem bK{Q:wg->Gg->Prop}{v:kg×yg}(B:Hx h0 h os)(e:os[i]? =some (sO es ep t))(o:Mq (t,es) v=true)(C:∀h' p,Hx h0 h' (os.set i (sO (Z6 (t,es) v).2 p (Z6 (t,es) v).1))->Q true (sh (AC s (s.toks+1)) h')):
  Yg (ue prog w) A (setAdd (h0.objs.size+i) (lL v)) Q E (sh s h):=
 haveI a:=l9 o;haveI b:=l9 a.2;haveI c:=l9 b.2;haveI d:=l9 c.2;haveI f:=l9 d.2;haveI g:=l9 f.2;haveI m:=l9 g.2;haveI l:=l9 m.2
 aO B e a.1 b.1 c.1 (Gw d.1 f.1) g.1 (Hw m.1) (bg (vf l.1) (by decide)) (bg (vf l.2) (by decide)) C
variable{j:yg}{o':Fd}{items:Rf zg}{vs:dg zg}{p:Ph}
noncomputable def Xx:Ph->dg (kg×yg)->wg
 |_,[]=>true
 |p,v::vs=>Mq p v&&Xx (Z6 p v) vs
theorem Hx.same(B:Hx h0 h os)(e:i<os.length)(hs:Ge (h0.objs.size+i) h h')(b:h'.get? (h0.objs.size+i)=some o'):Hx h0 h' (os.set i o'):=
 haveI n {c:yg} {o:Fd} (z:h0.get? c=some o):c≠h0.objs.size+i:=Ie (Og (de z) (Cg _ _))
 ⟨λc o z=>hs.extBut c o (n z) (B.old c o z),λj o z=>by
  by_cases q:i=j
  ·rw [<-q,xe e] at z;exact rR q (rR (ig z) b)
  ·rw [Ė q] at z;exact hs.extBut _ o (λz=>q (Qe z).symm) (B.gt j o z),
 (hs.1.trans B.sz).trans (eg _ List.length_set.symm)⟩
theorem DP{R:Result->Gg->Prop}(G:A.handled=none)(hl:h0.IsList l items)(vs:dg (kg×yg)):∀{i h ep p o k},items.toList.drop i=vs.map lL->Hx h0 h [sO p.2 ep p.1,o]->h.IsListIter (h0.objs.size+1) l i->Xx p vs=true->
  (∀k h' f,(∀c o,h0.get? c=some o->h'.get? c=some o)->h'.get? (h0.objs.size+0)=some (sO (vs.foldl Z6 p).2 f (vs.foldl Z6 p).1)->R (.ok (.ret .none)) (sh (AC s k) h'))->
  ab (ue prog w) A (.builtin "set.update.loop" ⟨[.ref (h0.objs.size+0),.ref (h0.objs.size+1)],[]⟩) R (sh (AC s k) h):=by
 induction vs with
 |nil=>
  intro i h _ p o k e B d _ C;exact De Db (fg (wpAny_pyNext_list_end G d (hl.at λo=>B.old l o) (rR (Sf) (rR (Ù) (rL e rfl))) λh' hs=>ug (C k _ _ (λc o z=>hs c o (Ie (Og (de z) (Cg _ _))) (B.old c o z)) (hs _ _ (λz=>absurd (Qe z) (by decide)) (B.gt 0 _ rfl)))))
 |cons v _ u=>
  intro i h _ p o k e B d b C;haveI b:=l9 b;refine De Db (fg (wpAny_pyNext_list_item d (hl.at λo=>B.old l o) (rR (Sf) (rR (Ù) (rL e rfl))) λH g hs=> ?_));refine O8 g λF e1 D=>(fg (Nf (bK (B.same (be 1) hs e1) rfl b.1 λI z' q=>ug ⟨wc PyProof.Rows.F.plain_set_update_loop _,u (rR List.tail_drop (rL e rfl)) q ⟨F,q.gt 1 _ rfl,D⟩ b.2 C⟩)))
end
section
variable{prog:Vd}{w:Ab}{A:vc}{E:zg->Gg->Prop}{s:Gg}{h0 h h':Be}{os:dg Fd}{i l n ep:yg}{o:Fd}{v y a:zg}{items:Rf zg}{k:kg}{vs:dg (kg×yg)}{p:Ph}
theorem yh{M:Model}{d:Type}{c:Prop}[Zb c]{a b:Ra d}{Q:d->Gg->Prop}(n:decide c=false)(h:Yg M A b Q E s):Yg M A (if c then a else b) Q E s:=by
 refine rL (og (Nb n)) ?_;exact h
theorem Hx.Ej{Q:zg->Gg->Prop}(B:Hx h0 h os)(e:h0.IsList l items)(k:∀h',Hx h0 h' (os++[{cls:= .type "list_iterator",data:= .fields #[.ref l,.int 0 0]}])->Q (.ref (h0.objs.size+os.length)) (sh s h')):Yg (ue prog w) A (ò (.ref l)) Q E (sh s h):=
 wpAny_pyIter_list (e.at λo=>B.old l o) (B.LB rfl k)
theorem VQ{Q:zg->Gg->Prop}(F:A.handled=none)(hl:s.heap.IsList l items)(e:items.toList=vs.map lL)(D:Xx (.fresh 0 0 (!W4 w),#[]) vs=true)
  (C:∀k h' ep,(∀c o,s.heap.get? c=some o->h'.get? c=some o)->h'.get? s.heap.objs.size=some (sO (vs.foldl Z6 (.fresh 0 0 (!W4 w),#[])).2 ep (vs.foldl Z6 (.fresh 0 0 (!W4 w),#[])).1)->Q (.ref s.heap.objs.size) (sh (AC s k) h')):
  Yg (ue prog w) A (call (.type "set") [.ref l]) Q E s:=by
 refine XQ (Q₁:=λf d=>∃h,f= .ref _/\d=sh s h/\Hx _ h [sO #[] 0 _]) (ZL (Hx.nil.LB (Q:=λv H=>∃h,v= .ref _/\H=sh s h/\Hx _ h _) rfl λh' B=>⟨h',rfl,rfl,B⟩)) λf z' q=>(e6 q λh y n B=> ?_);subst y;subst n;haveI u:=dh (s:=sh s h) (B.gt 0 _ rfl) rfl;refine⟨u,?_⟩;haveI b:=(hl.at λo=>B.old l o).typeIs (s:=sh s h);exact fg (ug (fg (fg (fg (da u (yh rfl (ug (ug (fg (ug (fg (ug (fg (fg (Se (B.gt 0 _ rfl) rfl rfl (ug (yh rfl (fg (fg (fg (lc b PySem.F.sub_list_set ((lc b PySem.F.sub_list_frozenset (yh rfl (fg (da b (yh rfl (fg (B.Ej hl λG z=>fg (wpAny_runValue (DP (A:=A.in1.in1) (p:=(.fresh 0 0 (!W4 w),#[])) (i:=0) F hl vs e z ⟨_,z.gt 1 _ rfl,rfl,rfl⟩ D λk h' ep m g=>ug (ug ⟨rfl,C k h' ep m g⟩))))))))))))))))))))))))))))))))
end
section
variable{prog:Vd}{w:Ab}{A:vc}{E:zg->Gg->Prop}{s:Gg}{h:Be}{i l a ep:yg}{o:Fd}{es:Rf (kg×zg)}{t:yc}
noncomputable def C5(w:Ab)(a ep:yg)(es:Rf (kg×zg)):Rf (kg×zg):=if W4 w=true then pickOrder (w.params.setOrder a ep) es else es
noncomputable def Tw(t:yc)(i:yg):yg:=if i=0 then 0 else t.place.getD (i-1) 0+1
noncomputable def W3(w:Ab)(t:yc)(i:yg):yg:=if W4 w=true then 0 else Tw t i
noncomputable def Uq(es:Rf (kg×zg))(t:yc):wg:=t.fits es.size&&(t.plain&&(af (es.size+1)).all λi=>SetTable.below t.place (Tw t i)==i)
structure lU w es t:Prop where
 e:Uq es t=true
 l:W4 w=false->t.led=true
theorem WL{Q:gg (zg×yg)->Gg->Prop}(hs:s.heap.get? a=some (sO es ep t))(o:lU w es t)(d:i<=es.size)(h:Q (((C5 w a ep es)[i]?).map λe=>(e.2,W3 w t (i+1))) s):
  Yg (ue prog w) A (setNext a (W3 w t i) i ep) Q E s:=by
 haveI k:=l9 o.e;haveI m:=l9 k.2;unfold C5 W3 at h;unfold W3;refine fg (Se hs rfl k.1 (fg (fg (mc (ug ?_)))));by_cases b:W4 w=true
 ·haveI h:=xg b▸h;haveI h:=xg b▸h;rw [xg b];refine Lf (λz'=>Lf (λz=>absurd z (by rw [á];decide)) λz'=>fg (fg (Se hs rfl k.1 (fg (fg (mc (ug (Lf (λz'=>fg (mc (ug (ug h)))) λz=>absurd b z)))))))) λz=>absurd b z
 ·haveI h:=og b▸h;haveI h:=og b▸h;rw [og b];refine Lf (λz=>absurd z b) λz'=>Lf (λz=>absurd z ?_) λz'=>fg (Lf (λz=>absurd z ?_) λz'=>ug ?_)
  ·show¬((!t.plain&&decide (es.size>1))=true);refine rL m.1 ?_;exact cf
  ·show¬((!t.led&& !es.isEmpty)=true);refine rL (o.l ((Bool.not_eq_true _).mp b)) ?_;exact cf
  ·refine rL (beq_iff_eq.mp (List.all_eq_true.mp m.2 i (List.mem_range.mpr (Hb d)))) ?_;refine ug ?_;rcases Ç i es.size with c|c
   ·haveI g:=(beq_iff_eq.mp (l9 k.1).1)▸c;rw [Ye c] at h⊢;rw [Ye _];haveI f:Tw t (i+1)=t.place[i]+1:=eg (·+1) (by rw [Sa,Ld,Ye _];rfl);haveI h:=f▸h;exact h
   ·rw [Ā c] at h⊢;exact h
variable{h0 h':Be}{os:dg Fd}{n:yg}
theorem B5:Slot "set_iterator" "__next__" "set_iterator.__next__":=
 .of (owner:="set_iterator") (n:="__next__") (by kernel_rfl) (by decide+kernel) (by decide+kernel) (by decide+kernel) (.inl (by decide+kernel)) (by kernel_rfl)
theorem IY:entryFor table "set_iterator.__next__"=some Builtin.«set_iterator.__next__»:=entryFor_of_tree (by kernel_rfl)
theorem PB:Manifest.owners.lookup (String.ofList ['r','o','t','a','r','e','t','i','_','t','e','s'].reverse)=some Manifest.sig_set_iterator:=by kernel_rfl
theorem BW(a:zg):argsOk "set_iterator.__next__" ⟨[a],[]⟩:=by
 kernel_rfl
theorem gY:entryFor table "set.__iter__"=some Builtin.«frozenset.__iter__»:=entryFor_alias (id':="frozenset.__iter__") (by kernel_rfl) rfl (by decide+kernel) (by kernel_rfl)
noncomputable abbrev Vx(a s i n ep:yg):Fd:={cls:= .type "set_iterator",data:= .fields #[rawInt s,rawInt i,.ref a,rawInt n,rawInt ep]}
theorem XL{Q:zg->Gg->Prop}(B:Hx h0 h os)(hs:h0.get? a=some (sO es ep t))(o:lU w es t)(k:∀h',Hx h0 h' (os++[Vx a 0 0 es.size ep])->Q (.ref (h0.objs.size+os.length)) (sh s h')):Yg (ue prog w) A (ò (.ref a)) Q E (sh s h):=by
 haveI hs:=B.old _ _ hs;haveI b:=dh (s:=sh s h) hs rfl;haveI q:=l9 o.e;refine wpAny_pyIter_slot b F.slot_set_iter (ve F.slot_set_iter b gY ?_ (F.args_set_iter_1 _));refine fg (fg (ug (ug (fg (fg (fg (Se hs rfl q.1 (ug (ug ?_)))))))));refine fg (fg (Se hs rfl q.1 (fg (fg (mc (ug (ug (Lf (λz=>absurd z ?_) λz'=>fg (ug ?_)))))))))
 ·show¬((!w.params.followText "set-order"&&(!t.plain&&decide (es.size>1)))=true);refine rL ((l9 q.2).1) ?_;rw [Bool.and_comm];exact cf
 ·exact fg (fg (Se hs rfl q.1 (ug (fg (B.new (λh' B=>ug ⟨_,rfl,"set_iterator",_,dh (B.gt _ _ (by rw [Kf (Ag _),cc];rfl)) rfl,B5.lookup,k _ B⟩) (by size_fits) rfl)))))
variable{r:dg Fd}{o':Fd}{x:zg}{c:yg}
theorem AS{Q:gg zg->Gg->Prop}(m:A.handled=none)(B:Hx h0 h [o,Vx a (W3 w t i) i es.size ep])(hs:h0.get? a=some (sO es ep t))(f:lU w es t)(g:i<=es.size)
  (k:∀x,(C5 w a ep es)[i]? =some x->∀h',Hx h0 h' [o,Vx a (W3 w t (i+1)) (i+1) es.size ep]->Q (some x.2) (sh s h')) (p:(C5 w a ep es)[i]? =none->∀h' o' r,Hx h0 h' ([o,o']++r)->Q none (sh s h')):Yg (ue prog w) A (ñ (.ref (h0.objs.size+1))) Q E (sh s h):=by
 haveI hs:=B.old _ _ hs;haveI d:=dh (s:=sh s h) (B.gt 1 _ rfl) rfl;refine fg (Ę (zd d B5 (ve B5 d IY ?_ (BW _))));refine fg (ug (fg (wpAny_fieldsOf (B.gt 1 _ rfl) rfl (fg (fg (Se hs rfl (l9 f.e).1 (ug (Lf (λz=>absurd z ?_) λz'=>fg ?_))))))))
 ·show¬((((es.size) !=(es.size:kg))=true));rw [á];exact cf
 refine WL (ep:=ep) hs f g ?_;revert k p;cases(C5 w a _ _)[i]? with
 |some x=>exactλk z'=>fg (B.YL rfl rfl (Ve 4) λz' (B)=>fg (B.YL rfl rfl (We (Ve 3)) λh' B=>ug ⟨x.2,rfl,ug (k x rfl h' B)⟩))
 |none=>exactλk p=>fg (B.YL rfl rfl (We (We (Ve 2))) λh' B=>xS m B λh' z' B e=>fg (lc (dh (B.gt 3 _ rfl) e) isSubtype_stop (ug (p rfl h' _ _ B))))
theorem TN{R:Result->Gg->Prop}{res:zg}(hh:A.handled=none)(hs:h0.get? a=some (sO es ep t))(ok:lU w es t)(hz:(C5 w a ep es).size=es.size)(h64:es.size<=64)
  (C:∀h' os c,Hx h0 h' os->os[0]? =some (lO (Bc ((C5 w a ep es).toList.map (·.2))) c)->R (.ok (.ret res)) (sh s h')) (m:yg):∀{i h c},i+m=es.size->Hx h0 h [lO (Bc (((C5 w a ep es).toList.take i).map (·.2))) c,Vx a (W3 w t i) i es.size ep]->
  ab (ue prog w) A (.builtin "list.extend.loop" ⟨[.ref (h0.objs.size+0),.ref (h0.objs.size+1),res],[]⟩) R (sh s h):=by
 induction m with
 |zero=>
  intro i h c (e:i=es.size) B;refine De Td ?_;rw [He Yf _];refine fg (AS hh B hs ok (Bg e) (λx z=> ?_) λz' h' o' r B=>ug (C h' _ c B ?_))
  ·rw [Ā (Bg (hz.trans e.symm))] at z;cases z
  ·rw [List.take_of_length_le (Bg (Array.length_toList.trans (hz.trans e.symm)))];rfl
 |succ m ih=>
  intro i h c e B;have hi:=e▸se (ye m);refine De Td ?_;rw [He Yf _];refine fg (AS hh B hs ok (Uf hi) (λx z h' B=> ?_) λz=> ?_)
  ·have l:((C5 w a ep es).toList.take i).length<=64:=bg (Aa i _) (bg (Uf hi) h64);have e1:(Bc (((C5 w a ep es).toList.take i).map (·.2))).push x.2=Bc (((C5 w a ep es).toList.take (i+1)).map (·.2)):=by
    rw [List.take_add_one,Sf,z,Ng,List.push_toArray];rfl
   have l1:(Bc (((C5 w a ep es).toList.take i).map (·.2))).size<=64:=by rw [Cb,ng];exact l
   refine fg (B.CP rfl rfl (bg l1 (by decide)) (by rw [Array.size_push];exact Hg (bg l1 (by decide))) λh2 B2=>ug ⟨wc Yf _,?_⟩);have B3:Hx h0 h2 [lO ((Bc (((C5 w a ep es).toList.take i).map (·.2))).push x.2) _,_]:=B2;rw [e1] at B3;exact ih ((Af i m).trans e) B3
  ·rw [Ye (hz▸hi)] at z;cases z
theorem mK{g:Type}(f:yg->yg)(n:yg):∀k (l:dg g) out,l.length=n->(ma f n k l out).toList.Perm (out.toList++l):=by
 induction n with
 |zero=>
  intro k l _ h;refine rL (List.length_eq_zero_iff.mp h) ?_;rw [Fg];exact .refl _
 |succ n i=>
  intro k l out h;have b:f k%l.length<l.length:=Nat.mod_lt _ (h▸ye n);haveI e:ma f (n+1) k l _=ma f n _ _ (out.push l[f k%l.length]):=by
   show(match l[f k%l.length]? with|some x=>ma f n _ _ _|none=>out)=_;exact rL (sf _) rfl
  refine rL e ((i _ _ _ (rL (List.length_eraseIdx_of_lt b) (rL h rfl))).trans ?_);refine rL Kd ?_;rw [Lg];refine List.Perm.append_left _ ?_;rw [È];refine(List.perm_middle (l₁:=l.take _)).symm.trans (.of_eq ?_);rw [List.getElem_cons_drop,List.take_append_drop]
theorem UY:(C5 w a ep es).toList.Perm es.toList:=by
 unfold C5;by_cases z:W4 w=true
 ·refine rL (xg z) ?_;exact mK _ _ 0 _ #[] Zg
 ·rw [og z]
theorem EN{Q:wg->Gg->Prop}(d:s.TypeIs (.ref a) "set")(h:Q false s):Yg (ue prog w) A (Builtin.List.listLengthHint (.ref a)) Q E s:=by
 refine fg (Ac d PySem.F.slot_set_len.lookup ?_);refine fg (lc (b:=true) d (by kernel_rfl) (yh rfl (Lf (λz'=>fg (da d (ug h))) λz=>absurd (by decide+kernel) z)))
theorem bU{Q:dg zg->Gg->Prop}(hh:A.handled=none)(hs:s.heap.get? a=some (sO es ep t))(ok:lU w es t)(h64:es.size<=64)
  (C:∀h' os,Hx s.heap h' os->Q ((C5 w a ep es).toList.map (·.2)) (sh s h')):Yg (ue prog w) A (collect (.ref a)) Q E s:=by
 have hz:(C5 w a ep es).size=es.size:=by rw [<-Zg,UY.length_eq,Zg]
 have B:Hx s.heap s.heap []:= .nil;refine fg (wpAny_runValue (De entry_proto_collect' ?_));rw [He PySem.F.plain_proto_collect _];refine fg (B.new (λh1 (B)=>ug ⟨wc è _,De entry_list_iadd' ?_⟩) (Xg _) rfl);rw [He è _];show Yg _ _ (Ic (.ref (s.heap.objs.size+0)) (.ref a) _) _ _ _;have hT:=dh (s:=sh s h1) (B.old _ _ hs) rfl;unfold Ic;refine fg (da hT (Lf (λz=>absurd z ?_) λz'=> ?_))
 ·have g:Ä (.ref (s.heap.objs.size+0)) (.ref a)=false:=gf λq=>absurd (de hs) (Nat.not_lt.mpr (Bg q));rw [g]
  decide
 refine fg (XL B hs ok λh2 (B)=>fg (Nf (EN (dh (B.old _ _ hs) rfl) (Lf (λz'=> ?_) λz=>absurd (by decide+kernel) z))));refine fg (ga (fg (fg (B.CP rfl rfl (Xg _) tF λz' (B)=>B.CP rfl rfl bp (Xg _) λh3 B=>ug ⟨wc Yf _,?_⟩))));have e0:W3 w t 0=0:=by
  unfold W3;split
  ·rfl
  ·rfl
 refine TN hh hs ok hz h64 (λh' os c B e=> ?_) es.size (c:=2) (Tf _) ?_
 ·show Yg _ _ (load (s.heap.objs.size+0)>>=_) _ _ _;exact fg (wpAny_load (B.gt 0 _ e) (ug (C h' os B)))
 ·rw [e0];exact B
variable{v:zg}{led:wg}{tk:kg->yg}{ps:dg (kg×yg)}{ns:dg kg}{p:Ph}
noncomputable def SE(led:wg)(p:dg (kg×yg)):wg:=Xx (.fresh 0 0 led,#[]) p&&(Uq (p.foldl Z6 (.fresh 0 0 led,#[])).2 (p.foldl Z6 (.fresh 0 0 led,#[])).1&&((p.foldl Z6 (.fresh 0 0 led,#[])).1.led==led&&dc (p.foldl Z6 (.fresh 0 0 led,#[])).2.size 63))
noncomputable def Th(b:wg)(x:kg)(l:dg kg):dg kg:=ô b (x::l) l
noncomputable def bb(f:wg->wg):wg:=f true&&f false
theorem pY{f:wg->wg}(h:bb f=true)(b:wg):f b=true:=by
 cases b with
 |true=>exact(l9 h).1
 |false=>exact(l9 h).2
noncomputable def PC(a b c d e f:wg):dg kg:=Th a (-7) (Th b (-5) (Th c (-3) (Th d 2 (Th e 4 (Th f 6 [])))))
theorem xJ:(bb λled=>bb λa=>bb λb=>bb λc=>bb λd=>bb λe=>bb λf=>SE led ((PC a b c d e f).map λn=>(n,tk n)))=true:=by kernel_rfl
theorem cJ(h:bS ns):∃a b c d e f,ns=PC a b c d e f:=by
 haveI s:List.Pairwise (·<·) ([-7,-5,-3,2,4,6]):=by decide
 haveI e:=Ï (λa b z' z' g k=>absurd g (Vb k)) h.1 (s.filter _)
  ((î (h.1.imp Gc) ((s.imp Gc).filter _)).mpr λx=>⟨λm=>List.mem_filter.mpr ⟨h.2 x m,Dg m⟩,λm=>qg (List.mem_filter.mp m).2⟩)
 exact⟨decide (-7∈ns),decide (-5∈ns),decide (-3∈ns),decide (2∈ns),decide (4∈ns),decide (6∈ns),e⟩
theorem FH(h:(ps.map (·.1)).Nodup):∃tk:kg->yg,ps=(ps.map (·.1)).map λn=>(n,tk n):=by
 induction ps with
 |nil=>exact⟨λz'=>0,rfl⟩
 |cons p ps i=>
  have h:=List.nodup_cons.mp h;obtain⟨tk,e⟩:=i h.2;refine⟨λn=>if n=p.1 then p.2 else tk n,?_⟩;show p::ps=(p.1,if p.1=p.1 then p.2 else tk _)::_;exact rL (xg rfl) (eg _ (e.trans (wd λn m=>eg _ (og λ(z)=>h.1 (by haveI m:=z▸m;exact m)).symm)))
theorem Uh{vs:dg zg}(h:IntsAre vs ns):∃p:dg (kg×yg),vs=p.map lL/\p.map (·.1)=ns:=by
 induction h with
 |nil=>exact⟨[],rfl,rfl⟩
 |cons n t _ i=>exact i.elim λp q=>⟨(n,t)::p,eg _ q.1,eg _ q.2⟩
theorem wJ(h:bS ns)(e:ps.map (·.1)=ns):SE led ps=true:=by
 refine zE (FH (e▸h.1.imp Gc)) λtk g=>(T6 (cJ h) λa b c d p=>M8 p λe f k=> ?_);exact rL g (rL (‹ps.map _=ns›) (rL k (pY (pY (pY (pY (pY (pY (pY xJ _) a) b) c) d) e) f)))
theorem wN{xs:Rf (kg×zg)}{p:yg}{x:kg×zg}:(SetTable.insertAt xs p x).toList.Perm (x::xs.toList):=by
 refine rL ec (rL Kd ?_);rw [Lg];haveI e:(xs.extract 0 p++xs.extract p _)=xs:=Array.extract_append_extract.trans (by exact Array.extract_eq_self_of_le (Nat.le_max_right ..));exact List.perm_middle.trans (List.Perm.cons _ (.of_eq (Array.toList_append.symm.trans (eg _ e))))
theorem aT{t:yc}{es:Rf (kg×zg)}:(M0 t es).1.toList.Perm es.toList:=by
 unfold M0;cases t.tooFull with
 |false=>exact .refl _
 |true=>
  show(relayAll t _ _).1.toList.Perm _;unfold relayAll;cases t.relaid _ _ with
  |none=>exact .refl _
  |some q=>
   dsimp only;split
   ·rename_i z;refine rL Array.toList_filterMap (((List.isPerm_iff.mp (l9 z).1).filterMap _).trans (.of_eq ?_));haveI g:∀l:dg (kg×zg),(af l.length).filterMap _=l:=λl=>by
     induction l with
     |nil=>rfl
     |cons x l e=>refine rL Yd (rL Ą (rL (List.filterMap_cons_some (f:=λi=>(x::l)[i]?) rfl) (rL List.filterMap_map ?_)));exact eg _ e
    exact(eg (List.filterMap · _) (funext λi=>Array.getElem?_toList.symm)).trans (g _)
   ·exact .refl _
theorem DQ(v:kg×yg):((Z6 p v).2.toList.map (·.2)).Perm (lL v::p.2.toList.map (·.2)):=by
 haveI e:(Z6 p v).2.toList.Perm ((ā _,lL v)::p.2.toList):=by
  refine aT.trans ?_;show(layNew _ _ _ _).1.toList.Perm _;unfold layNew;cases p.1.freeSlot _ with
  |none=>exact(Kd▸List.perm_append_singleton _ _)
  |some q=>exact wN
 exact e.map _
theorem ZO:∀{p},((ps.foldl Z6 p).2.toList.map (·.2)).Perm (ps.map lL++p.2.toList.map (·.2)):=by
 induction ps with
 |nil=>exactλ{p}=> .refl _
 |cons v _ i=>exactλ{p}=>(i).trans (((DQ v).append_left _).trans List.perm_middle)
end
section
variable{c:Cx}{F:Fm}{U:Tg->Prop}{a:AV}{W:Wd}{ns:dg kg}
def Kx(W:Wd)(ns:dg kg)(o:Fd):Prop:=∃ps ep,ps.map (·.1)=ns/\SE (!W4 W.w) ps=true/\o=sO (ps.foldl Z6 (.fresh 0 0 (!W4 W.w),#[])).2 ep (ps.foldl Z6 (.fresh 0 0 (!W4 W.w),#[])).1
theorem GG(hl:Ls c.σ a ((zs ns).map .a9))(h:bS ns):X4 F U c (λxs=>call (.type "set") xs []) [a] (.raw (Kx F.W ns)) c:=λG s z' S r=>by
 refine O8 (a7 r) λx u j=> ?_;subst u;refine f8 (a6 S.sr hl j) λy z' n u p=>zA p λg q=> ?_;subst u;refine O8 (Uh (oR q.R6)) λl e b=> ?_;haveI d:=wJ (led:= !W4 F.W.w) h b;refine VQ S.fr.st.tU (X8 g) e (l9 d).1 λk z' ep o i=> ?_;haveI f:=S.sr.fresh (Ag _);exact⟨_,.y9 f,(S.keeps o).F4 f (S.fr.fresh (Ag _)) i,⟨_,_,rfl,xg rfl,l,ep,b,d,rfl⟩,SS.heap _ k⟩
theorem UB(h:bS ns):X4 F U c (λxs=>call (.builtin "sorted") xs []) [.raw (Kx F.W ns)] (.a9 (.list (zs ns))) c:=λG s z' S r=>by
 obtain⟨x,rfl,y,o,rfl,j,H,ep,n,A,rfl⟩:=a7 r;haveI k:=l9 (l9 A).2;haveI I:=l9 k.2;have l:=vf I.2;refine call_function_entry kind_sorted plain_sorted entry_sorted (args_sorted1 _) (fg (ug (fg (bU S.fr.st.tU (S.sr.y9 _ _ (.inl j)) (⟨k.1,λz=>(beq_iff_eq.mp I.1).trans (rL z rfl)⟩) (bf l) λE z' i=> ?_))));haveI f:=UY (w:=F.W.w) (a:=y) (ep:=ep) (es:=(H.foldl Z6 (.fresh 0 0 (!W4 F.W.w),#[])).2);have p:=(f.map _).trans ((ZO).trans (.of_eq (Fg _)));have d:((C5 F.W.w y ep (H.foldl Z6 (.fresh 0 0 (!W4 F.W.w),#[])).2).toList.map (·.2)).length<64:=by rw [ng,f.length_eq];exact Hb l
 revert p d;generalize (C5 _ y _ (H.foldl Z6 _).2).toList.map _=cv;intro p d;haveI C:(H.map lL).map numOf=ns:=by refine rL Vg ?_;exact n
 refine fg (i.new (λD B=> ?_) (bg (Uf d) (by decide)) rfl);have e:=B.gt _ _ (by rw [Kf (Ag _),cc];rfl);refine fg (Nf (ve slot_list_sort (dh e rfl) entry_list_sort (list_sort_tree e (intsAre_map _ λv m=>(List.mem_map.mp (p.mem_iff.mp m)).elim λq z=>⟨q.1,q.2,z.2.symm⟩) d λout z' g t u=>⟨_,rfl,?_⟩) (args_list_sort _)));obtain⟨m,hm⟩:=sortedHeap_at e;exact ug ⟨_,rfl,.list S (KX ((lks_uniq ((t.trans (p.map numOf)).trans (.of_eq C)) u (h.1.imp Gd))▸g)) (λb o z=>(sortedHeap_old (Ie (Og (de z) (Cg _ _))) (de (B.old b o z))).trans (B.old b o z)) (Cg _ _) hm⟩
end
section
variable{W:Wd}{P:y8}{n i j k l:yg}{nm:dg Str}{c c1:IC}{u:Mo}{τ:Tg}{o:d9}{a b r v:AV}{as:dg AV}{F:Fm}{X Y:Cx}{U U':Tg->Prop}{d e:vg}{σ σ':Tg->gg d9}{x:Str}{m m1 m2 mk:M}{s:lf}{κ:LK}
theorem IB{k:yg}{pos:re}(hx:Ud x=true):TJ F X (.Constant (.str x) k pos) (.a9 (.str x)):=λG s S Q k=>wpAny_mkText (k _ _ ⟨hx,_,Ug _⟩)
theorem JB{k:yg}{pos:re}{c:Const}(h:iw c (.str x)=true):TJ F X (.Constant c k pos) (.a9 (.str x)):=
 haveI q:=h
 (qg (l9 q).1)▸IB (l9 q).2
theorem bG(V:v4 nm)(r:OK P n nm m)(C:OK P n nm mk):OK P n nm (.eZ j x τ m mk):=⟨m4,t7,F7,Y7,q7,s7,λu c K h I=>(r.o u c _ h I).casesOn λo c1 E1 J z' k=>(o9 k).elim λy q=>M8 (O6 q.2) λE W w=>(o9 w.2.2).elim λf g=>by
  refine WJ (z9 g.2) λd H hn b' p'=>zA p' λQ k=> ?_;haveI O:=l9 d;haveI L:=l9 O.2;have a:=l9 L.2;haveI S:=l9 a.2;haveI N:=l9 S.2;have A:=P5 a.1;have e:=w.2.1.trans (eg _ (pM g.1));haveI T:(⟨c1.ρ,c1.t,b'⟩:IC).cx _=⟨(c1.cx nm).ρ,up _ E _⟩:=by
   unfold IC.cx IC.σ;dsimp only;exact rR Q (rL (g7 (S7 A.1)) (rL (g7 (S7 A.2.1)) rfl))
  haveI M:Inv P (L4 _ b'):=by
   exact rR Q (rL (g7 (S7 A.1)) (rL (g7 (S7 A.2.1)) ((J.up (nW H (W5 S.1) (W5 N.1))).up (⟨M7 (J _ _ e).hold (a.1),(λz' z' e=>(by nomatch e)),(λz' z' z' e=>(by nomatch e))⟩))))
  exact Z1 (w:=λs=>rY λt e p=>a8 (λo i q=>SG s _ j o&&V6 _ i) t&&(A7 _ m).o s e) C (c1:=⟨c1.ρ,c1.t,b'⟩) (λD z' z' B=>B6 B λU h z' B=>by
   haveI w1:=l9 B;refine rL T (B8 w1.1 λX z' z' R=>(TX (l9 R).1 λh F G Z=> ?_));exact S3 (l9 R).2 λY z' z' b=>(OW (E1 D _ w1.2) (FX ((O0 V).trans (w.1▸q.1)) F G Z) (JB b) (XY O.1))
    ⟨(λe=>A.2.2.1 e.symm),d9.t9 (λt h=>(P5 h).2.2.1) H,λk z' z' n2 l=>d9.t9 (λt h z=>n2 (ig ((P5 h).2.2.2.symm.trans (z▸A.2.2.2)))) (J _ _ l).hold,λx v e=>MZ L.1 (λz' h=>U7 h) e⟩
    e (qg N.2) hn λenv=>HH) M k,E7⟩
theorem GQ{p q:Tg->Prop}(h:a.keeps p)(f:a.keeps q):a.keeps λt=>p t/\q t:=by
 cases a with
 |g9 t=>exact⟨h,f⟩
 |_=>trivial
theorem Fn.weak{f:zg}(h:∀τ,U' τ->U τ)(E:Fn W U n f as σ a σ'):Fn W U' n f as σ a σ':=λA G s z' p t g S r=>Oc (E A G s _ p t g S r) λz' z' z=>z.casesOn λG' v z e S r q=>⟨G',v,z,e.weak h,S,r,q⟩
theorem AG{id:yg}(h:ag τ id=true):(τ= .house/\id=0)\/(τ= .bank/\id=43):=((Jf _ _).mp h).imp (λh=>⟨qg (l9 h).1,Lc (l9 h).2⟩) λh=>⟨qg (l9 h).1,Lc (l9 h).2⟩
structure zq(P:y8)(τ:Tg)(id:yg):Prop where
 d:P.cl τ=P.C\/P.cl τ=P.B
 h:(P.cl τ=P.C/\τ= .house)\/(P.cl τ=P.B/\τ= .bank)
 i:Ad P.W.K (.ref (P.cl τ)) "__init__"=some (some (.ref (P.fv id)))
 f:id<72
 g:ó P.W.K fe (Mp τ)=some (some (.ref (P.cl τ)))
 t:τ.T9=false
theorem Pj{id:yg}(h:ag τ id=true):zq P τ id:=by
 rcases AG h with⟨rfl,rfl⟩|⟨rfl,rfl⟩
 ·exact⟨.inl rfl,.inl ⟨rfl,rfl⟩,(eg _ P.sU.1.symm).trans (P.fc 0 (by decide)),by decide,P.sU.2.2.1,rfl⟩
 ·exact⟨.inr rfl,.inr ⟨rfl,rfl⟩,(eg _ P.sU.2.1.symm).trans (P.fb 43 (by decide) (by decide)),by decide,P.sU.2.2.2,rfl⟩
theorem EO{id:yg}{K:KE}(h:Mx P n id τ u as c K)(I:Inv P c.σ):zq P τ id/\RF P nm n u (.ref (P.cl τ)) as c K:=by
 obtain⟨T,rfl,R,b',E,hs,h⟩:=h;obtain⟨q,h⟩:=z9 h;haveI B:=l9 q;have L:zq P _ id:=Pj B.1;haveI G:=l9 B.2;have H:=l9 G.2;haveI J:=l9 H.2;haveI N:=l9 J.2;haveI g:=E (g7 (S7 L.t)▸(hW I).up (⟨(λy m=>(by nomatch m)),(λD z' e=>by cases e;exact L.h),λκ f e S=>(by nomatch S)⟩));have g:=g7 (S7 L.t)▸g;haveI C:=λp (m)=>l9 (List.all_eq_true.mp N.1 p m);haveI F:=bJ (U:=λt=>R.u t=true/\t≠τ) (P.I4 _ L.d).1 L.i (P.fn _ L.f).1 (λz=>z.2 rfl) (λA o n e=>hs _ o n (by
  cases z:A.ti with
  |none=>haveI e:=W8 z▸e;exact e
  |some k=>have e:=o4 z▸e;cases e)) (λa m=>U7 (List.all_eq_true.mp N.2 a m)) (Fn.weak (λt z=>z.elim (·.1) λe=>e▸J.1) g.1)
 refine⟨L,.g9 _,⟨c.ρ,c.t,b'⟩,λD=> ?_,(dX I g.2),rfl,h⟩;haveI O:=pI (F:=D.f P _) (c:=c.cx nm) (OZ▸F) ⟨I.wf,g.2.wf,λτ o e=>P0 e,λx v e=>(ZS e).elim λp z=>z.2.2▸AV.t9 (λt w=>w.1.imp (λy=>⟨y,w.2⟩) λz=>z) (GQ (fN (C p z.1).1) (U7 (C p z.1).2))⟩ (show AV.keeps _ (.g9 _) from L.t);rw [show qh _ (c.cx _).σ _=L4 _ _ from ZY] at O;exact O.weak λt z=>(XO H.1 z).imp (λy=>⟨y,λe=>XY G.1 (e▸z)⟩) λz=>z
theorem oB{id:yg}(z:OK P n nm m):OK P n nm (.new τ id m):=⟨λu c K h I=>(z.l u c _ h I).casesOn λas z' E1 i r k=>(EO k i).2.casesOn λa g O f A C=>⟨a,g,λD z' q=>A6 q λx z' z' w=>
  haveI w1:=l9 w;haveI L:=(EO (nm:=nm) k i).1
  u3 w1.1 λp y t B=>N3 (FO L.g y t) (uT (P.I4 _ L.d).2) (E1 D _ w1.2) (O D) λenv=>S8 B,f,A.trans r,C⟩,t7,F7,Y7,q7,s7,F5,E7⟩
theorem cC{ds es:dg vg}{Q:vg->Prop}(h:zp ds es Q):∃x y,ds=[x]/\es=[y]/\Q (.list [.tuple [x,y]]):=by
 cases ds with
 |nil=>exact h.elim
 |cons x ds=>cases ds with
  |cons _ _=>exact h.elim
  |nil=>cases es with
   |nil=>exact h.elim
   |cons y es=>cases es with
    |cons _ _=>exact h.elim
    |nil=>exact⟨x,y,rfl,rfl,h⟩
theorem iH:oa (S "zip")=some (.type "zip")/\S "zip"≠S "__name__"/\S "zip"∈[S "len",S "sorted",S "list",S "tuple",S "zip",S "min",S "max",S "set",S "range",S "int",S "isinstance"]:=by decide+kernel
theorem TC(R:OK P n nm m1)(N:OK P n nm m2):OK P n nm (.zip m1 m2):=⟨λu c K h I=>(R.e u c _ h I).casesOn λa z' E1 S r v=>(N.e _ _ _ v S).casesOn λb H V i T s=>(o9 s).elim λds q=>(o9 q.2).elim λes E=>M8 (cC E.2) λd e z=>⟨_,H,λD z' J=>A6 J λx z' z' w=>D3 w λy w=>haveI w1:=l9 w;u3 w1.1 λp O L Z=>by
  have B:=ox .list;refine A6 w1.2 (λo z' A w z'=> ?_) (l9 Z).1;refine MS (Q:=λes=>Ev _ _ _ (.Call _ [.Call _ es [] _] [] _) _ _) w λk l w=> ?_;haveI g:=l9 w;haveI C:=l9 g.2;refine u3 g.1 λm G j f=> ?_;haveI t:=l9 f;exact xE (k7 (P.no _ B.1) B.2.1 B.2.2 O L) (k7 (P.no _ iH.2.2) iH.1 iH.2.1 G j) (q4 (z.1▸j6 q.1▸E1 D _ C.1) (q4 (z.2.1▸j6 E.1▸V D _ C.2) bX (λz' h=>h) trivial λenv=>V7 (l9 t.2).1) (λz'=>K9) trivial λenv=>V7 t.1) (S8 f) rfl,i,T.trans r,z.2.2⟩,t7,F7,Y7,q7,s7,F5,E7⟩
theorem aB(G:OK P n nm m1):OK P n nm (.LH m1):=⟨λu c K h I=>(G.e u c _ h I).casesOn λa c1 E1 i r k=>(SO k).elim λns l=>⟨_,c1,λD z' A=>A6 A λx z' z' w=>D3 w λy w=>haveI w1:=l9 w;u3 w1.1 λp E C q=>by
  have B:=ox .sorted;refine A6 w1.2 (λL z' z' w hn f=> ?_) (l9 q).1 q;refine D3 w λe w=> ?_;haveI g:=l9 w;refine u3 g.1 λJ t H z=> ?_;exact N3 (k7 (P.no _ B.1) B.2.1 B.2.2 E C) r6 (q4 (N3 (k7 (P.no _ QH.2.2) QH.1 QH.2.1 t H) sZ (q4 (E1 D e g.2) bX (λz'=>K9) x9 λenv=>V7 (l9 z).1) (GG l.1 l.2.1) λenv=>S8 z) bX (λz' h=>h) trivial λenv=>V7 hn) (UB l.2.1) λenv=>S8 f,i,r,l.2.2⟩,t7,F7,Y7,q7,s7,F5,E7⟩
theorem ZC(C:OK P n nm m1):OK P n nm (.fP m1):=⟨λu c K h I=>(C.e u c _ h I).casesOn λa c1 E1 i r k=>(G5 k).elim λds q=>q.2.elim λL z=>⟨_,c1,λD z' g=>A6 g λx z' z' w=>D3 w λy w=>haveI w1:=l9 w;u3 w1.1 λp A t f=>
  haveI B:=ox .sorted
  N3 (k7 (P.no _ B.1) B.2.1 B.2.2 A t) r6 (q4 (E1 D y w1.2) bX (λz'=>K9) x9 λenv=>V7 (l9 f).1) (TB (z.1▸q.1) z.2.1 z.2.2.1) λenv=>S8 f,i,r,z.2.2.2⟩,t7,F7,Y7,q7,s7,F5,E7⟩
theorem ok(V:v4 nm)(m:M):OK P n nm m:=by
 induction m with
 |z k=>cases k with
  |var _=>exact VC V
  |con _=>exact xB
  |JI _=>exact vB
  |nil=>exact mB
  |dI=>exact sv
  |dL=>exact qv
  |dT=>exact kv
  |fZ=>exact eG
  |bad=>exact BB
 |a k _ h=>cases k with
  |I6 _=>exact CB h
  |neg=>exact pB h
  |one=>exact iB h
  |tup=>exact XC h
  |lst=>exact rB h
  |blt _=>exact zB h
  |VF=>exact tB h
  |fP=>exact ZC h
  |LH=>exact aB h
  |fn _=>exact gv h
  |own _=>exact gB h
  |dS=>exact nv h
  |dN=>exact pv h
  |fz=>exact ev h
  |val=>exact WC h
  |not=>exact lB h
  |ret=>exact eB h
  |rel _=>exact fB V h
  |new _ _=>exact oB h
 |b k _ _ h e=>cases k with
  |sub=>exact YC h e
  |bin _=>exact AB h e
  |cmp _=>exact yB h e
  |DW=>exact kG h e
  |cons=>exact hG h e
  |zip=>exact TC h e
  |met _=>exact qB h e
  |lm _=>exact bv h e
  |qU=>exact bB h e
  |fL=>exact cB h e
  |and=>exact DB h e
  |or=>exact av h e
  |ex=>exact jv h e
  |set _=>exact dB V h e
  |n6 _=>exact VH V h e
  |dV _=>exact WH V h e
  |fV _=>exact YH V h e
  |EY _=>exact cG V h e
  |DY _ _=>exact UH V h e
  |V4 _ _=>exact dG V h e
  |eV _ _ _=>exact XH V h e
  |X3 _ _ _ _=>exact ZH V h e
  |eZ _ _ _=>exact bG V h e
 |c k _ _ _ h e f=>cases k with
  |ite=>exact sB h e f
  |pr=>exact Zw h e f
  |comp _ _ _=>exact iG V h e f
  |lY _ _ _=>exact eK V h e f
  |del=>exact wB h e f
  |cY _ _ _ _=>exact fG V h e f
  |OV _ _=>exact gG V h e f
  |CU _=>exact UC V h e f
 |d k _ _ _ _ h e f v=>cases k with
  |W1=>exact aG h e f v
  |ifs=>exact uB h e f v
end
section
variable{P:y8}{n i k:yg}{nm:dg Str}{as:dg AV}{a v:AV}{b b':Tg->gg d9}{m:M}{md:Md}{u:Mo}{c:IC}
noncomputable def ar:yg->dg AV->dg (yg×AV)
 |_,[]=>[]
 |j,a::as=>(j,a)::ar (j+1) as
noncomputable def p7(i:yg)(nm:dg Str)(k:yg)(m:M):wg:=decide nm.Nodup&&(nm.all λs=>s.cps.all λc=>č c 1114112)&&dc k nm.length&&decide (pg.ps i=nm.take k)&&(A7 nm m).b (pg.sc i) (pg.body i)
theorem BP(d:nm.Nodup)(h:(nm.all λs=>s.cps.all λc=>č c 1114112)=true):v4 nm:=⟨d,λs m k e=>by
 haveI:=List.all_eq_true.mp h s m;haveI this:=e▸this;rw [Array.all_eq_true] at this;exact ĝ _ (bg (vf (this 0 Nat.zero_lt_one)) (Cg _ _))⟩
theorem Ax{j:yg}(h:j+as.length<=nm.length):yY nm (ar j as)=((nm.drop j).take as.length).zip as:=by
 induction as generalizing j with
 |nil=>exact List.zip_nil_right.symm
 |cons a _ i=>
  have d:=Og (se (ye _)) h;rw [ø _];show(vn _ j,a)::yY _ _=(nm[j],a)::_;refine rL (i (bg (Bg (Af j _)) h)) ?_;unfold vn;exact rL (sf _) rfl
theorem Xs.weak{F:Fm}{U d:Tg->Prop}{X Y:Cx}{s:dg Xf}{f:Fl}(h:∀τ,d τ->U τ)(E:Xs F U X s f Y):Xs F d X s f Y:=Do.weak h E
def Eh(a:AV)(b':Tg->gg d9):KB:=λfl c=>fl.val=a/\c.b=b'
theorem done:Eh a c.b (.ret a) c:=⟨rfl,rfl⟩
theorem E9:Eh (.a9 .none) c.b .next c:=⟨rfl,rfl⟩
theorem w3(h:a=v):Eh v c.b (.ret a) c:=⟨h,rfl⟩
theorem rt:true=true:=rfl
theorem enter(o:p7 i nm k m=true)(hl:í as.length k=true)(p:č i 86=true)(h:(A9 P n m).b (md,[]) ⟨ar 0 as,[],b⟩ (Eh a b')):i7 P (n+1) md i as b a b':=λI=>by
 haveI hl:=Lc hl;haveI f:=l9 o;haveI g:=l9 f.1;have e:=l9 g.1;haveI d:=l9 e.1;refine O8 (P.df i (vf p)) λfd D hs=> ?_;have hp:=qg g.2;have j:=vf e.2;haveI q:(pg.ps i).length=k:=by refine rL hp (rL List.length_take ?_);exact Nat.min_eq_left j
 haveI z:yY _ _=(pg.ps i).zip as:=by refine rL (Ax (by rw [hl,Tf];exact j)) (rL hp (rL hl ?_));rfl
 haveI hz:(⟨ar 0 _,[],b⟩:IC).cx _=_:=eg (λr=>(⟨r,L4 [] b⟩:Cx)) z;exact((ok (BP (qg d.1) d.2) m).b _ _ _ h I).casesOn λt c1 E l s=>by
  haveI F:=ON D (hl.trans q.symm) λA L=>Xs.weak (λτ h=>Or.inl h) (hz▸E ⟨A,à _ L _,_,D.fn⟩ rfl (pg.body i) (hs▸f.2));rw [show xh _ (c1.cx _).σ=L4 [] _ from OZ,s.1,s.2] at F;exact⟨F,s.2▸hW l⟩
theorem Y8{id:yg}{K:KE}{d:dg (yg×AV)}{t:dg (yg×d9)}(h:i7 P n md id as b a b')(q:(sF u md&&(d.all λp=>gN md p.2)&&LF a)=true)(k:K a ⟨d,t,b'⟩):Ox P n id u as ⟨d,t,b⟩ K:=⟨md,a,b',h,q▸k⟩
theorem k9{d:Type}{x:gg d}{a:d}{Q:d->Prop}(h:x=some a)(q:Q a):rd x Q:=h▸q
theorem VY{d:Type}{x:gg d}{a:d}{Q:d->Prop}{R:Prop}(h:x=some a)(q:Q a):ph x Q R:=h▸q
theorem OS{d:Type}{x:gg d}{Q:d->Prop}{R:Prop}(h:x=none)(q:R):ph x Q R:=h▸q
theorem D9{b:wg}{Q R:Prop}(h:b=true)(q:Q):br b Q R:=h▸q
theorem v9{b:wg}{Q R:Prop}(h:b=false)(q:R):br b Q R:=h▸q
theorem N8{b:wg}{Q:Prop}(h:b=true)(q:Q):ck b Q:=h▸q
theorem j9{σ σ':Tg->gg d9}{τ:Tg}{o:d9}{Q:(Tg->gg d9)->Prop}(h:up σ τ o=σ')(q:Q σ'):Exists (Bp (up σ τ o) Q):=⟨σ',h,q⟩
variable{W:Wd}
theorem p4{a b:Type}{f g:a->b}{l:dg a}(h:l.map f=l.map g){x:a}(m:x∈l):f x=g x:=List.map_inj_left.mp h x m
theorem z7(h:i<n):i∈af n:=List.mem_range.mpr h
theorem DL(xs:dg zg):Sh (λi=>xs.getD i .none) xs.length=xs:=QY
theorem DM{b:wg}(h:(!b)=true):b=false:=(Od _).mp h
theorem KF.def(k:KF W.K)(h:i<86):ZM W (mP i) (bF i (gw (Yx W.K (mP i)))) (pg.body i) (pg.ps i)/\ċ W.K (.ref (mP i))=true:=
 haveI c1:=l9 (List.all_eq_true.mp k.c i (z7 h));haveI c:=l9 c1.2;haveI d:=l9 c.2;haveI f:=l9 d.2;haveI b:=l9 f.2;haveI a:=l9 b.2;haveI g:=l9 a.2
 ⟨⟨⟨_,_,_,p4 k.a (z7 h)⟩,c1.1,rfl,rfl,rfl,rfl,λxs e=>by
  haveI z:=congrFun (p4 k.b (z7 h)) λi=>xs.getD i .none;rw [<-e,DL] at z;exact z,λp m=>List.all_eq_true.mp c.1 p m,qg d.1,qg f.1,DM b.1,DM a.1,qg g.1⟩,g.2⟩
theorem KF.cl(k:KF W.K):oz W.K 352=mz/\oz W.K 569=mz:=List.append_inj k.d rfl
theorem y1{D:yg}(e:oz W.K D=mz)(b:bt W.K D=true):(A4 W D/\∀i,i<30->Ad W.K (.ref D) (an i)=some none)/\makesIn W.K D=true/\ċ W.K (.ref D)=true:=
 haveI b1:=l9 b;haveI b2:=l9 b1.2;haveI c:=l9 b2.2;haveI e1:=qf e;haveI d:=qf e1.2;haveI a:=qf d.2
 ⟨⟨⟨e1.1,d.1,b1.1,a.1,b2.1⟩,λi h=>(p4 (a.2.trans (show List.replicate 30 _=(af 30).map λz'=>some _ from rfl)) (z7 h))⟩,c.1,c.2⟩
theorem s0{P:yg->gg Fd}{d:vg}{ds:dg vg}{y:zg}{a:dg zg}(h:DR P d y)(g:O3 P ds a):O3 P (d::ds) (y::a):=⟨y,a,rfl,h,g⟩
theorem yK{l:dg (yg×Rf zg)}{a:yg}{x:Rf zg}(h:l.lookup a=some x):(a,x)∈l:=M8 (List.lookup_eq_some_iff.mp h) λl1 z' q=>q.1▸Rg _ (.head _)
theorem KF.tp(k:KF W.K){a:yg}{x:Rf zg}(h:DD.lookup a=some x):W.K.lookup a=some (v7 x 0):=p4 k.t (yK h)
variable{G:Gh}
theorem KF.d3(k:KF W.K)(c:∀a o,W.K.lookup a=some o->G.P a=some o){a tk b t:yg}{s:Str}{x y:kg}(hs:Ud s=true)(h:DD.lookup a=some #[.str s tk,.int x b,.int y t]):DR G.P (.tuple [.str s,.int x,.int y]) (.ref a):=⟨_,_,_,rfl,c _ _ (k.tp h),s0 ⟨hs,_,rfl⟩ (s0 ⟨_,rfl⟩ (s0 ⟨_,rfl⟩ rfl))⟩
theorem KF.d2(k:KF W.K)(c:∀a o,W.K.lookup a=some o->G.P a=some o){a b t:yg}{x y:kg}(h:DD.lookup a=some #[.int x b,.int y t]):DR G.P (.tuple [.int x,.int y]) (.ref a):=⟨_,_,_,rfl,c _ _ (k.tp h),s0 ⟨_,rfl⟩ (s0 ⟨_,rfl⟩ rfl)⟩
theorem KF.gd(k:KF W.K)(h:i<5):∃v,ó W.K fe (pg.gd i).1=some (some v)/\∀G,(∀a o,W.K.lookup a=some o->G.P a=some o)->F9 G (.a9 (pg.gd i).2) v:=by
 haveI e1:=qf k.i;have g:=qf e1.2;haveI e:=qf g.2;have c:=qf e.2;cases i with
 |zero=>exact⟨_,e1.1,λG b=>⟨_,_,_,rfl,b _ _ (k.tp rfl),s0 ⟨by kernel_rfl,_,rfl⟩ (s0 ⟨by kernel_rfl,_,rfl⟩ (s0 ⟨by kernel_rfl,_,rfl⟩ (s0 ⟨by kernel_rfl,_,rfl⟩ rfl)))⟩⟩
 |succ i=>cases i with
  |zero=>exact⟨_,g.1,λG z'=>⟨by kernel_rfl,_,rfl⟩⟩
  |succ i=>cases i with
   |zero=>exact⟨_,e.1,λG z'=>⟨_,rfl⟩⟩
   |succ i=>cases i with
    |zero=>
     refine⟨_,c.1,λG b=> ?_⟩;show DR _ MM _;unfold MM;haveI f:Ud (S "f")=true:=by kernel_rfl
     haveI p:Ud (S "p")=true:=by kernel_rfl
     exact⟨_,_,_,rfl,b _ _ (k.tp rfl),s0 (k.d3 b f rfl) (s0 (k.d3 b f rfl) (s0 (k.d3 b f rfl) (s0 (k.d3 b p rfl) (s0 (k.d3 b p rfl) (s0 (k.d3 b p rfl) rfl)))))⟩
    |succ i=>cases i with
     |zero=>
      refine⟨_,(qf c.2).1,λG b=> ?_⟩;show DR _ OO _;unfold OO;haveI d:=λ{a t1 t2 x' y'} (h:DD.lookup a=some #[.int x' t1,.int y' t2])=>k.d2 b h;exact⟨_,_,_,rfl,b _ _ (k.tp rfl),s0 (d rfl) (s0 (d rfl) (s0 (d rfl) (s0 (d rfl) (s0 (d rfl) (s0 (d rfl) (s0 (d rfl) (s0 (d rfl) (s0 (d rfl) (s0 (d rfl) (s0 (d rfl) (s0 (d rfl) rfl)))))))))))⟩
     |succ i=>exact(Nat.not_lt_of_le (Wb 5 i) h).elim
noncomputable def Sq(W:Wd)(k:KF W.K):y8 where
 W:=W
 C:=352
 B:=569
 fv:=mP
 cls:=λD h=>(h.elim (λe=>e▸y1 k.cl.1 (l9 (l9 k.f).2).1) λe=>e▸y1 k.cl.2 (l9 (l9 k.f).2).2).1
 I4:=λD h=>(h.elim (λe=>e▸y1 k.cl.1 (l9 (l9 k.f).2).1) λe=>e▸y1 k.cl.2 (l9 (l9 k.f).2).2).2
 fc:=λi h=>(xg h▸p4 k.e (z7 (Æ h (by decide))):)
 fb:=λi a b=>(og (Nat.not_lt.mpr a)▸p4 k.e (z7 b):)
 fn:=λi h=>have q:=l9 (List.all_eq_true.mp (l9 k.f).1 i (z7 h));⟨q.1,λj c=>Nb (DM (List.all_eq_true.mp q.2 j (z7 c)))⟩
 sU:=⟨by kernel_rfl,by kernel_rfl,(qf k.j).1,(qf (qf k.j).2).1⟩
 df:=λi h=>⟨_,(k.def h).1,rfl⟩
 kp:=λi h=>(k.def h).2
 gl:=λi a b=>by
  obtain⟨j,rfl⟩:=Nat.exists_eq_add_of_le' a;exact p4 k.g (z7 (Nat.lt_of_add_lt_add_right b))
 no:=λx m=>p4 k.h m
 gd:=λi h=>k.gd h
end
open M renaming cons->jC,var->jV,con->jK,I6->jA,sub->jS,cmp->jE,ifs->jI,met->jM,ex->jX,set->jT,fn->jF,blt->jB,lm->jL,bin->jO,ret->Yr,tup->jU,lst->jP,own->jW,W1->jY,eV->jQ,comp->jZ,and->jD,dV->jG,cY->jH,JI->jJ
noncomputable section
noncomputable abbrev J0:M:= .var 0
noncomputable abbrev J1:M:= .var 1
noncomputable abbrev J2:M:= .var 2
noncomputable abbrev J3:M:= .var 3
noncomputable abbrev J4:M:= .var 4
noncomputable abbrev J5:M:= .var 5
noncomputable abbrev J6:M:= .var 6
noncomputable abbrev J7:M:= .var 7
noncomputable abbrev J8:M:= .var 8
noncomputable abbrev J9:M:= .var 9
noncomputable abbrev bQ:M:= .var 10
noncomputable abbrev yw:M:= .var 11
noncomputable abbrev xw:M:= .var 12
noncomputable abbrev ww:M:= .var 13
noncomputable abbrev vw:M:= .var 14
noncomputable abbrev uw:M:= .var 15
noncomputable abbrev jN:M:= .nil
noncomputable abbrev Yi(i:kg):M:= .con (.int i)
noncomputable abbrev Ys(s:wb):M:= .con (.str (S s))
noncomputable abbrev Ya(i:yg):M:= .I6 (.var 0) i
noncomputable abbrev Y1(a:M):M:= .cons a .nil
noncomputable abbrev Y2(a b:M):M:= .cons a (Y1 b)
noncomputable abbrev Y3(a b c:M):M:= .cons a (Y2 b c)
noncomputable abbrev Y4(a b c d:M):M:= .cons a (Y3 b c d)
noncomputable abbrev Y5(a b c d e:M):M:= .cons a (Y4 b c d e)
noncomputable abbrev Y6(a b c d e f:M):M:= .cons a (Y5 b c d e f)
def m0:M:= .V4 0 0 J1 (jQ 0 1 .root .dI (jQ 0 2 (.C7 .mem) .dI (jQ 0 3 (.C7 .use) .dI (jQ 0 4 .value .dI (jQ 0 5 (.C7 .b8) .dI (jQ 0 6 (.C7 .C9) .dI (jQ 0 7 .up .dI (jQ 0 8 .table .dT (jQ 0 9 .sides .dI (jQ 0 10 .told .dI (jQ 0 11 .news (jP jN) (jQ 0 12 .queue (jP jN) (.V4 0 13 (jK .none) (.V4 0 14 (Yi 0) (jQ 0 15 .trail (jP jN) (jQ 0 16 .marks (jP jN) jN))))))))))))))))
noncomputable def n0:dg Str:=[S "self",S "bank"]
def m3:M:=Yr (jE .eq (jS (Ya 1) J1) (jS (Ya 1) J2))
noncomputable def n3:dg Str:=[S "self",S "a",S "b"]
def m5:M:=jG [3,4] (Y2 (jS (Ya 1) J1) (jS (Ya 1) J2)) (jI (jE .eq J3 J4) (Yr (jK .none)) jN (jI (jD (jE .ne (jS (Ya 4) J3) (Yi 0)) (jE .ne (jS (Ya 4) J4) (Yi 0))) (Yr (jU (Y3 (jS (Ya 4) J3) (jS (Ya 4) J4) (Yi 0)))) jN (Yr (jM J0 27 (Y2 J3 J4)))))
noncomputable def n5:dg Str:=[S "self",S "a",S "b",S "one",S "other"]
def m8:M:=Yr (.ite (jE .isv (Ya 13) (jK .none)) (jK .none) (jB .list (Y1 (Ya 13))))
noncomputable def n8:dg Str:=[S "self"]
def m9:M:=jI (jE .eq (jM (Ya 0) 56 (Y1 J1)) (Ys "app")) (Yr (jM (Ya 0) 57 (Y1 J1))) jN (Yr (jU jN))
noncomputable def n9:dg Str:=[S "self",S "t"]
def jk:M:=jT 2 (jW (.Z8 0) (jP (Y1 J1))) (.CU (jE .gt (jB .len (Y1 J2)) (Yi 0)) (jT 3 (jS J2 (.neg (Yi 1))) (jT 4 (jP jN) (jI (jE .notin J3 (Ya 1)) (.EY 4 (jZ J5 [5] true (jM J0 9 (Y1 J3)) (jE .notin J5 (Ya 1)) [0]) jN) jN (jI (jE .gt (jB .len (Y1 J4)) (Yi 0)) (jX (jL J2 .extend (Y1 J4)) jN) (jX (jL J2 .pop jN) (jI (jE .notin J3 (Ya 1)) (jX (jM J0 11 (Y1 J3)) jN) jN jN)) jN)))) [0,1,2] (jX (jM J0 15 jN) jN))
noncomputable def Dm:dg Str:=[S "self",S "t",S "stack",S "here",S "missing",S "part"]
def ik:M:=jY J1 (Ya 1) J1 (.X3 0 2 1 .mem (jP (Y1 J1)) (.X3 0 3 1 .use (jP jN) (.X3 0 5 1 .b8 (jP jN) (.X3 0 6 1 .C9 (jP jN) (jY (.ite (jE .isin (jM (Ya 0) 56 (Y1 J1)) (jJ 0)) J1 (Yi 0)) (Ya 4) J1 (.EY 2 (jZ (jS (Ya 1) J3) [3] true (jM J0 9 (Y1 J1)) jN [0]) (jH false [4] true J2 (jX (jL (jS (Ya 3) J4) .append (Y1 J1)) jN) [0,1,2] (jX (jL (Ya 15) .append (Y1 (jU (Y3 (Ys "enter") J1 J2)))) (jI (jE .gt (jB .len (Y1 J2)) (Yi 0)) (jX (jM J0 13 (Y1 J1)) jN) jN jN)))))))))
noncomputable def Bm:dg Str:=[S "self",S "t",S "homes",S "part",S "home"]
def gk:M:=Yr (jO .add (jU (Y1 (jM (Ya 0) 59 (Y1 J1)))) (jB .tuple (Y1 (jZ (jS (Ya 1) J2) [2] true (jM (Ya 0) 57 (Y1 J1)) jN [0]))))
noncomputable def Am:dg Str:=[S "self",S "t",S "part"]
def fk:M:=jT 2 (jM J0 12 (Y1 J1)) (jT 3 (jL (Ya 8) .get (Y1 J2)) (jI (jE .isv J3 (jK .none)) (jX (jL (Ya 15) .append (Y1 (jU (Y3 (Ys "table") J2 (jK .none))))) (jY J1 (Ya 8) J2 jN)) (jI (jE .ne (jS (Ya 1) J3) (jS (Ya 1) J1)) (jX (jL (Ya 12) .append (Y1 (jU (Y3 J1 J3 (jJ 1))))) jN) jN jN) jN))
noncomputable def zm:dg Str:=[S "self",S "t",S "mark",S "other"]
def ek:M:=jX (jM J0 10 (Y1 J1)) (jX (jM J0 10 (Y1 J2)) (jX (jL (Ya 12) .append (Y1 (jU (Y3 J1 J2 J3)))) (jX (jM J0 15 jN) jN)))
noncomputable def ym:dg Str:=[S "self",S "a",S "b",S "reason"]
def ak:M:=jT 1 (Yi 0) (.CU (jD (jE .lt J1 (jB .len (Y1 (Ya 12)))) (jE .isv (Ya 13) (jK .none))) (.n6 [2,3,4] (jS (Ya 12) J1) (jT 1 (jO .add J1 (Yi 1)) (jI (jE .ne (jS (Ya 1) J2) (jS (Ya 1) J3)) (jX (jM J0 16 (Y3 J2 J3 J4)) jN) jN jN))) [0,1] (jQ 0 12 .queue (jP jN) jN))
noncomputable def xm:dg Str:=[S "self",S "spot",S "left",S "right",S "why"]
def Zl:M:=jI (jE .gt (jB .len (Y1 (jS (Ya 2) (jS (Ya 1) J1)))) (jB .len (Y1 (jS (Ya 2) (jS (Ya 1) J2))))) (jG [1,2] (Y2 J2 J1) jN) jN (jG [4,5] (Y2 (jS (Ya 1) J1) (jS (Ya 1) J2)) (jX (jM J0 22 (Y3 J1 J2 J3)) (jT 6 (jB .list (Y1 (jS (Ya 3) J4))) (jH false [7] true J6 (jX (jM J0 19 (Y1 J7)) jN) [0,1,2,3,4,5,6] (jX (jL (Ya 15) .append (Y1 (jU (Y5 (Ys "join") J4 J5 (jM J0 18 (Y1 J5)) (jS (Ya 4) J5))))) (jH true [7] true (jS (Ya 2) J4) (jY J5 (Ya 1) J7 jN) [0,1,2,3,4,5,6] (jX (jL (jS (Ya 2) J5) .extend (Y1 (jS (Ya 2) J4))) (jX (jL (jS (Ya 3) J5) .extend (Y1 (jS (Ya 3) J4))) (jX (jL (jS (Ya 5) J5) .extend (Y1 (jS (Ya 5) J4))) (jX (jL (jS (Ya 6) J5) .extend (Y1 (jS (Ya 6) J4))) (jG [8,9] (Y2 (jS (Ya 4) J4) (jS (Ya 4) J5)) (jI (jE .eq J9 (Yi 0)) (jY J8 (Ya 4) J5 jN) jN (jH false [7] true J6 (jX (jM J0 13 (Y1 J7)) jN) [0,1,2,3,4,5,6,8,9] (jT 10 (.ite (jD (jE .ne J8 (Yi 0)) (jE .ne J9 (Yi 0))) (jM J0 25 (Y2 J8 J9)) (jM J0 20 (Y1 J4))) (jI (jE .isv bQ (jK .none)) (jX (jM J0 33 (Y1 J5)) jN) (jX (jM J0 17 (Y1 bQ)) jN) jN)))))))))))))))
noncomputable def wm:dg Str:=[S "self",S "left",S "right",S "why",S "small",S "large",S "moved",S "t",S "first",S "second",S "reasons"]
def Yl:M:= .V4 0 13 J1 (.V4 0 14 (jB .len (Y1 (Ya 16))) jN)
noncomputable def vm:dg Str:=[S "self",S "reasons"]
def Xl:M:=Yr (jU (Y4 (jB .len (Y1 (jS (Ya 2) J1))) (jB .len (Y1 (jS (Ya 3) J1))) (jB .len (Y1 (jS (Ya 5) J1))) (jB .len (Y1 (jS (Ya 6) J1)))))
noncomputable def tm:dg Str:=[S "self",S "home"]
def Wl:M:=jT 2 (jM J0 12 (Y1 J1)) (jI (jE .eq (jL (Ya 8) .get (Y1 J2)) J1) (jX (jL (Ya 15) .append (Y1 (jU (Y3 (Ys "table") J2 J1)))) (.del (Ya 8) J2 jN)) jN jN)
noncomputable def qm:dg Str:=[S "self",S "t",S "mark"]
def Vl:M:=jH true [2,3,4] false (jS (Ya 5) J1) (jI (jE .eq (jS (Ya 1) J2) (jS (Ya 1) J3)) (Yr (jM J0 21 (Y2 (jM J0 25 (Y2 J2 J3)) J4))) jN jN) [0,1] (Yr (jK .none))
noncomputable def pm:dg Str:=[S "self",S "small",S "left",S "right",S "reason"]
def Ul:M:=jI (.or (jE .eq J2 (Yi 0)) (jE .isin J2 J1)) (Yr J1) jN (Yr (jB .sorted (Y1 (jO .add J1 (jP (Y1 J2))))))
noncomputable def om:dg Str:=[S "self",S "reasons",S "reason"]
def Sl:M:=jT 4 (jM J0 23 (Y1 J1)) (jY (jU (Y2 J2 J3)) (Ya 7) J1 (jX (jL (Ya 15) .append (Y1 (jU (Y3 (Ys "edge") J1 J4)))) jN))
noncomputable def jm:dg Str:=[S "self",S "left",S "right",S "why",S "top"]
def Rl:M:=jG [2,3] (Y2 (jW (.Z8 0) (jP jN)) J1) (.CU (jE .isin J3 (Ya 7)) (jT 4 (jS (Ya 7) J3) (jX (jL J2 .append (Y1 (jU (Y2 J3 J4)))) (jT 3 (jS J4 (Yi 0)) jN))) [0,1,2,3] (.rel 2 (jH false [5,4] false J2 (.del (Ya 7) J5 jN) [0,1,2,3] (jH false [5,4] false J2 (jY (jU (Y2 J5 (jS J4 (Yi 1)))) (Ya 7) (jS J4 (Yi 0)) jN) [0,1,2,3] (Yr J3)))))
noncomputable def im:dg Str:=[S "self",S "t",S "chain",S "here",S "edge",S "child"]
def Ql:M:=jG [3,4,5] (Y3 (jW (.Z8 0) (jP (Y1 J1))) (jW (.Z8 1) (.dN (.pr J1 (Yi 0) jN))) J1) (.CU (jE .isin J5 (Ya 7)) (jT 5 (jS (jS (Ya 7) J5) (Yi 0)) (jY (jB .len (Y1 J3)) J4 J5 (jX (jL J3 .append (Y1 J5)) jN))) [0,1,2,3,4,5] (jG [6,5] (Y2 (jW (.Z8 2) (jP jN)) J2) (.CU (jE .notin J5 J4) (jX (jL J6 .append (Y1 J5)) (jT 5 (jS (jS (Ya 7) J5) (Yi 0)) jN)) [0,1,2,3,4,5,6] (Yr (jO .add (.qU J3 (jS J4 J5)) J6)))))
noncomputable def em:dg Str:=[S "self",S "a",S "b",S "line",S "spots",S "here",S "back"]
def Pl:M:=jI (jE .ne (jS (Ya 1) J1) (jS (Ya 1) J2)) .bad jN (jG [3,4,5] (Y3 (jW (.Z8 0) (jP (Y1 (jU (Y2 J1 J2))))) (jW (.Z8 1) .dI) (jW (.Z8 2) .dL)) (.CU (jE .gt (jB .len (Y1 J3)) (Yi 0)) (.n6 [6,7] (jL J3 .pop jN) (jH false [8] true (jM J0 24 (Y2 J6 J7)) (jI (jE .notin J8 J4) (jY (jK (.bool true)) J4 J8 (.n6 [9,10] (jS (Ya 7) J8) (jI (jE .eq bQ (jJ 1)) (jX (jL J3 .extend (Y1 (.zip (jM (Ya 0) 57 (Y1 J8)) (jM (Ya 0) 57 (Y1 J9))))) jN) (jI (jE .ne bQ (Yi 0)) (jY (jK (.bool true)) J5 bQ jN) jN jN) jN))) jN jN) [0,1,2,3,4,5,6,7] jN)) [0,1,2,3,4,5] (Yr (jB .sorted (Y1 (jB .list (Y1 J5)))))))
noncomputable def dm:dg Str:=[S "self",S "a",S "b",S "work",S "seen",S "found",S "one",S "other",S "child",S "after",S "why"]
def Ol:M:=jX (jM J0 10 (Y1 J1)) (jX (jM J0 10 (Y1 J2)) (jI (jE .isnot (Ya 13) (jK .none)) .fZ jN (jG [4,5] (Y2 (jS (Ya 1) J1) (jS (Ya 1) J2)) (jI (jE .eq J4 J5) (jX (jM J0 17 (Y1 (jM J0 21 (Y2 (jM J0 25 (Y2 J1 J2)) J3)))) .fZ) jN (jX (jL (jS (Ya 5) J4) .append (Y1 (jU (Y3 J1 J2 J3)))) (jX (jL (jS (Ya 5) J5) .append (Y1 (jU (Y3 J1 J2 J3)))) (jX (jL (Ya 15) .append (Y1 (jU (Y3 (Ys "apart") J4 J5)))) (jX (jM J0 33 (Y1 J4)) jN))))))))
noncomputable def bm:dg Str:=[S "self",S "a",S "b",S "reason",S "one",S "other"]
def Nl:M:=jH true [3,4,5] false (jS (Ya 5) J1) (jI (jD (jE .eq (jS (Ya 1) J3) J1) (jE .eq (jS (Ya 1) J4) J2)) (Yr (jU (Y3 J3 J4 J5))) jN (jI (jD (jE .eq (jS (Ya 1) J3) J2) (jE .eq (jS (Ya 1) J4) J1)) (Yr (jU (Y3 J4 J3 J5))) jN jN)) [0,1,2] (Yr (jK .none))
noncomputable def am:dg Str:=[S "self",S "one",S "other",S "left",S "right",S "reason"]
def Ml:M:= .n6 [4,5,6] J3 (Yr (jM J0 21 (Y2 (jM J0 30 (Y2 (jM J0 25 (Y2 J1 J4)) (jM J0 25 (Y2 J2 J5)))) J6)))
noncomputable def Zn:dg Str:=[S "self",S "a",S "b",S "cause",S "left",S "right",S "reason"]
def Kl:M:=Yr (jB .sorted (Y1 (jO .add J1 (jZ J3 [3] true J2 (jE .notin J3 J1) [1]))))
noncomputable def Yn:dg Str:=[S "self",S "some",S "more",S "reason"]
def Jl:M:=jI (jE .isin J1 (Ya 9)) .fZ jN (jG [2,3] (Y2 J1 (jM (Ya 0) 67 jN)) (jI (jE .eq (jM (Ya 0) 56 (Y1 J1)) (Ys "=")) (.n6 [2,3] (jM (Ya 0) 57 (Y1 J1)) jN) jN (jX (jM J0 10 (Y1 J2)) (jX (jM J0 10 (Y1 J3)) (jX (jM J0 32 (Y3 J1 J2 J3)) jN)))))
noncomputable def Xn:dg Str:=[S "self",S "t",S "left",S "right"]
def Il:M:=jG [4,5] (Y2 (jS (Ya 1) J2) (jS (Ya 1) J3)) (jY (jU (Y2 J2 J3)) (Ya 9) J1 (jX (jL (jS (Ya 6) J4) .append (Y1 J1)) (jI (jE .ne J4 J5) (jX (jL (jS (Ya 6) J5) .append (Y1 J1)) jN) jN (jX (jL (Ya 15) .append (Y1 (jU (Y4 (Ys "watch") J1 J4 J5)))) (jX (jM J0 34 (Y1 J1)) jN)))))
noncomputable def Wn:dg Str:=[S "self",S "t",S "left",S "right",S "one",S "other"]
def Hl:M:=jH true [2] true (jS (Ya 6) J1) (jX (jM J0 34 (Y1 J2)) jN) [0,1] jN
noncomputable def Vn:dg Str:=[S "self",S "home",S "t"]
def Gl:M:=jI (jE .isin J1 (Ya 10)) .fZ jN (.n6 [2,3] (jS (Ya 9) J1) (jI (.val (jM J0 3 (Y2 J2 J3))) (jY (jU (Y2 (Yi 1) (jK .none))) (Ya 10) J1 jN) (jT 4 (jM J0 5 (Y2 J2 J3)) (jI (jE .isv J4 (jK .none)) .fZ jN (jY (jU (Y2 (.neg (Yi 1)) J4)) (Ya 10) J1 jN))) (jX (jL (Ya 11) .append (Y1 J1)) (jX (jL (Ya 15) .append (Y1 (jU (Y2 (Ys "told") J1)))) jN))))
noncomputable def Tn:dg Str:=[S "self",S "t",S "left",S "right",S "cause"]
def El:M:=jG [1,2] (Y2 (jW (.Z8 0) (jP jN)) (jW (.Z8 1) .dI)) (jH true [3] true (Ya 11) (jI (jD (jE .isin J3 (Ya 10)) (jE .notin J3 J2)) (jY (jK (.bool true)) J2 J3 (jX (jL J1 .append (Y1 (jU (Y2 J3 (jS (jS (Ya 10) J3) (Yi 0)))))) jN)) jN jN) [0,1,2] (.rel 1 (jQ 0 11 .news (jP jN) (Yr J1))))
noncomputable def Sn:dg Str:=[S "self",S "found",S "seen",S "t"]
def Dl:M:= .n6 [2,3] (jS (Ya 9) J1) (.n6 [4,5] (jS (Ya 10) J1) (jI (jE .eq J4 (Yi 1)) (Yr (jM J0 25 (Y2 J2 J3))) jN (Yr (jM J0 29 (Y3 J2 J3 J5)))))
noncomputable def Rn:dg Str:=[S "self",S "t",S "left",S "right",S "truth",S "cause"]
def Bl:M:=jX (jL (Ya 16) .append (Y1 (jB .len (Y1 (Ya 15))))) jN
noncomputable def Qn:dg Str:=[S "self"]
def Al:M:=jI (jE .le J1 (Yi 0)) .fZ jN (jT 2 (jS (Ya 16) (jO .sub (jB .len (Y1 (Ya 16))) J1)) (jQ 0 16 .marks (.qU (Ya 16) (jO .sub (jB .len (Y1 (Ya 16))) J1)) (jG [3,4] (Y2 (jW (.byr 0) (jP jN)) (jW (.byr 1) (jP jN))) (.CU (jE .gt (jB .len (Y1 (Ya 15))) J2) (jX (jM J0 39 (Y3 (jL (Ya 15) .pop jN) J3 J4)) jN) [0,1,2,3,4] (jQ 0 12 .queue (jP jN) (jI (jD (jE .isnot (Ya 13) (jK .none)) (jE .lt (jB .len (Y1 (Ya 16))) (Ya 14))) (.V4 0 13 (jK .none) jN) jN (jQ 0 11 .news (.fz (jZ J5 [5] true (Ya 11) (jE .isin J5 (Ya 10)) [0])) (jH false [5] true (.fL J3 (.neg (Yi 1))) (jX (jM J0 11 (Y1 J5)) jN) [0,1,2,3,4] (jX (jM J0 15 jN) (jH false [5,6,7] false (.fL J4 (.neg (Yi 1))) (jX (jM J0 32 (Y3 J5 J6 J7)) jN) [0,1,2,3,4] jN))))))))))
noncomputable def Pn:dg Str:=[S "self",S "n",S "spot",S "entered",S "watched",S "t",S "left",S "right"]
def zl:M:=jT 4 (jS J1 (Yi 0)) (jI (jE .eq J4 (Ys "enter")) (jX (jM J0 40 (Y2 (jS J1 (Yi 1)) (jS J1 (Yi 2)))) (jX (jL J2 .append (Y1 (jS J1 (Yi 1)))) jN)) (jI (jE .eq J4 (Ys "table")) (jI (jE .isv (jS J1 (Yi 2)) (jK .none)) (.del (Ya 8) (jS J1 (Yi 1)) jN) (jY (jS J1 (Yi 2)) (Ya 8) (jS J1 (Yi 1)) jN) jN) (jI (jE .eq J4 (Ys "join")) (jX (jM J0 41 (Y4 (jS J1 (Yi 1)) (jS J1 (Yi 2)) (jS J1 (Yi 3)) (jS J1 (Yi 4)))) jN) (jI (jE .eq J4 (Ys "edge")) (.del (Ya 7) (jS J1 (Yi 1)) (jX (jM J0 23 (Y1 (jS J1 (Yi 2)))) jN)) (jI (jE .eq J4 (Ys "apart")) (jX (jL (jS (Ya 5) (jS J1 (Yi 1))) .pop jN) (jX (jL (jS (Ya 5) (jS J1 (Yi 2))) .pop jN) jN)) (jI (jE .eq J4 (Ys "watch")) (.n6 [5,6] (jS (Ya 9) (jS J1 (Yi 1))) (jX (jL J3 .append (Y1 (jU (Y3 (jS J1 (Yi 1)) J5 J6)))) (jX (jM J0 42 (Y3 (jS J1 (Yi 1)) (jS J1 (Yi 2)) (jS J1 (Yi 3)))) jN))) (.del (Ya 10) (jS J1 (Yi 1)) jN) jN) jN) jN) jN) jN) jN)
noncomputable def On:dg Str:=[S "self",S "entry",S "entered",S "watched",S "kind",S "left",S "right"]
def yl:M:=jH false [3] true J2 (jX (jL (jS (Ya 3) J3) .pop jN) jN) [0,1,2] (.OV 4 (Y6 (Ya 1) (Ya 2) (Ya 3) (Ya 4) (Ya 5) (Ya 6)) (.del J4 J1 jN) [0,1,2] jN)
noncomputable def Nn:dg Str:=[S "self",S "t",S "homes",S "home",S "held"]
def xl:M:= .X3 0 2 2 .mem (.qU (jS (Ya 2) J2) (jS J3 (Yi 0))) (.X3 0 3 2 .use (.qU (jS (Ya 3) J2) (jS J3 (Yi 1))) (.X3 0 5 2 .b8 (.qU (jS (Ya 5) J2) (jS J3 (Yi 2))) (.X3 0 6 2 .C9 (.qU (jS (Ya 6) J2) (jS J3 (Yi 3))) (jY J4 (Ya 4) J2 (jH true [5] true (jS (Ya 2) J1) (jY J1 (Ya 1) J5 jN) [0,1,2,3,4] jN)))))
noncomputable def Mn:dg Str:=[S "self",S "small",S "large",S "lengths",S "value",S "t"]
def vl:M:=jX (jL (jS (Ya 6) J2) .pop jN) (jI (jE .ne J2 J3) (jX (jL (jS (Ya 6) J3) .pop jN) jN) jN (.del (Ya 9) J1 jN))
noncomputable def Ln:dg Str:=[S "self",S "t",S "one",S "other"]
def ul:M:=jQ 0 17 (.bk 0) (jP (Y3 (Ys "Bool") (Ys "Int") (Ys "Real"))) (jQ 0 18 (.bk 1) (jP (Y3 (Yi 0) (Yi 0) (Yi 0))) (jQ 0 19 (.bk 2) (jP jN) (jQ 0 20 (.bk 3) (jP jN) (jQ 0 21 (.bk 4) (jP jN) (.V4 0 22 (Yi 0) (jQ 0 23 (.bk 5) (jP (Y1 (Ys ""))) (jQ 0 24 (.bk 6) (jP (Y1 (jU jN))) (jQ 0 25 (.bk 7) (jP (Y1 (jJ 2))) (jQ 0 26 (.bk 8) (jP (Y1 (Yi 0))) (jQ 0 27 (.bk 9) .dT (.V4 0 28 (jM J0 62 (Y4 (Ys "true") (jU jN) (jJ 2) (Yi 0))) (.V4 0 29 (jM J0 62 (Y4 (Ys "false") (jU jN) (jJ 2) (Yi 0))) jN))))))))))))
noncomputable def Jn:dg Str:=[S "self"]
def ol:M:=jX (jL (Ya 17) .append (Y1 J1)) (jX (jL (Ya 18) .append (Y1 (Yi 0))) (Yr (jO .sub (jB .len (Y1 (Ya 17))) (Yi 1))))
noncomputable def Hn:dg Str:=[S "self",S "name"]
def jl:M:=jX (jL (Ya 19) .append (Y1 J1)) (jX (jL (Ya 20) .append (Y1 (jB .tuple (Y1 J2)))) (jX (jL (Ya 21) .append (Y1 J3)) (Yr (jO .sub (jB .len (Y1 (Ya 19))) (Yi 1)))))
noncomputable def Gn:dg Str:=[S "self",S "name",S "arg_sorts",S "result"]
def il:M:=Yr (jM J0 62 (Y4 (Ys "app") (jU jN) J2 (jM J0 49 (Y3 J1 (jU jN) J2))))
noncomputable def En:dg Str:=[S "self",S "name",S "s"]
def al:M:=Yr (jS (Ya 23) J1)
noncomputable def Cn:dg Str:=[S "self",S "t"]
def Zm:M:=Yr (jS (Ya 24) J1)
noncomputable def Bn:dg Str:=[S "self",S "t"]
def Ym:M:=Yr (jS (Ya 26) J1)
noncomputable def An:dg Str:=[S "self",S "t"]
def Yq:M:=jT 5 (jU (Y4 J1 J2 J3 J4)) (jT 6 (jL (Ya 27) .get (Y2 J5 (Yi 0))) (jI (jE .eq J6 (Yi 0)) (jT 6 (jB .len (Y1 (Ya 23))) (jX (jL (Ya 23) .append (Y1 J1)) (jX (jL (Ya 24) .append (Y1 J2)) (jX (jL (Ya 25) .append (Y1 J3)) (jX (jL (Ya 26) .append (Y1 J4)) (jY J6 (Ya 27) J5 jN)))))) jN (Yr J6)))
noncomputable def zn:dg Str:=[S "self",S "op",S "args",S "sort",S "data",S "key",S "found"]
def Xm:M:=Yr (Ya 28)
noncomputable def yn:dg Str:=[S "self"]
def Wm:M:=Yr (Ya 29)
noncomputable def xn:dg Str:=[S "self"]
def Vm:M:=jT 2 (jS J0 (Ys "spot")) (jY (jO .add J2 (Yi 1)) J0 (Ys "spot") (jI (jE .lt J2 (jB .len (Y1 (jS J0 (Ys "cells"))))) (Yr (jO .mod (jB .int (Y1 (jS (jS J0 (Ys "cells")) J2))) J1)) jN (Yr (jO .mod (jO .mod (jO .add (jO .add (jO .add (jO .mul (jO .mul (Yi 7) J2) J2) (jO .mul (Yi 3) J2)) (jO .mul (Yi 5) (jB .len (Y1 (jS J0 (Ys "cells")))))) (Yi 2)) (Yi 97)) J1))))
noncomputable def wn:dg Str:=[S "feed",S "wide",S "spot"]
def Um:M:=jT 1 (jM J0 45 (Y1 (Ys "U"))) (jG [2,3] (Y2 (jM J0 49 (Y3 (Ys "f") (jU (Y1 J1)) J1)) (jM J0 49 (Y3 (Ys "p") (jU (Y1 J1)) (jJ 2)))) (.DY 4 (.Z8 0) (jZ (jM J0 51 (Y2 J5 J1)) [5] true (jU (Y3 (Ys "a") (Ys "b") (Ys "c"))) jN [0,1]) (jH false [5,6,7] false (jJ 3) (jI (jE .eq J5 (Ys "f")) (jX (jL J4 .append (Y1 (jM J0 62 (Y4 (Ys "app") (jU (Y1 (jS J4 J6))) J1 J2)))) jN) (jX (jL J4 .append (Y1 (jM J0 62 (Y4 (Ys "app") (jU (Y1 (jS J4 J6))) (jJ 2) J3)))) jN) jN) [0,1,2,3,4] (Yr (jO .add J4 (jP (Y2 (jM J0 67 jN) (jM J0 68 jN))))))))
noncomputable def tn:dg Str:=[S "bank",S "thing",S "call",S "claim",S "found",S "name",S "inner",S "place"]
def Tm:M:=jG [1,2] (Y2 (jB .list (Y1 (jB .range (Y1 (Yi 11))))) (jK (.bool true))) (.CU (.val J2) (jT 2 (jK (.bool false)) (.DY 3 (.Z8 0) (jZ (jU (Y2 (jS J4 (Yi 1)) (jS J4 (Yi 2)))) [4] true J0 (jE .eq (jS J4 (Yi 0)) (Ys "tie")) []) (jH false [5,6,7] false (jJ 3) (jH false [8,9,10] false (jJ 3) (jI (jD (jE .eq J5 J8) (jD (jE .lt J7 bQ) (jE .eq (jS J1 J6) (jS J1 J9)))) (jX (jL J3 .append (Y1 (jU (Y2 J7 bQ)))) jN) jN jN) [0,1,2,3,5,6,7] jN) [0,1,2,3] (jH true [11,12] false J3 (.fV [13,14] (Y2 (jB .min (Y2 (jS J1 yw) (jS J1 xw))) (jB .max (Y2 (jS J1 yw) (jS J1 xw)))) (jI (jE .ne ww vw) (jG [1,2] (Y2 (jZ (.ite (jE .eq uw vw) ww uw) [15] true J1 jN [13,14]) (jK (.bool true))) jN) jN jN)) [0,1,2,3] jN)))) [0,1,2] (Yr J1))
noncomputable def rn:dg Str:=[S "facts",S "home",S "is_moving",S "wanted",S "fact",S "name",S "inner",S "place",S "other",S "within",S "spot",S "u",S "v",S "low",S "high",S "one"]
def Rm:M:=jT 4 (jB .sorted (Y1 (jP (Y2 (jS J0 J2) (jS J0 J3))))) (jI (jE .eq J4 (jB .sorted (Y1 (jP (Y2 (jS J0 (Yi 9)) (jS J0 (Yi 10))))))) (Yr (jK (.bool true))) jN (Yr (jE .ne (jZ J5 [5] true J1 (jD (jE .eq (jS J5 (Yi 0)) (Ys "part")) (jE .eq (jB .sorted (Y1 (jP (Y2 (jS J0 (jS J5 (Yi 1))) (jS J0 (jS J5 (Yi 2))))))) J4)) [0,4]) (jP jN))))
noncomputable def qn:dg Str:=[S "home",S "facts",S "u",S "v",S "both",S "fact"]
def Qm:M:=jI (jE .eq (jS J0 J2) (jS J0 J3)) (Yr (Yi 1)) jN (Yr (.ite (.val (jF 75 (Y4 J0 J1 J2 J3))) (.neg (Yi 1)) (Yi 0)))
noncomputable def pn:dg Str:=[S "home",S "facts",S "u",S "v"]
def Pm:M:=jT 1 (jF 74 (Y1 J0)) (jI (jE .eq (jS J1 (Yi 9)) (jS J1 (Yi 10))) (Yr (jK (.bool true))) jN (Yr (jE .ne (jZ J2 [2] true J0 (jD (jE .eq (jS J2 (Yi 0)) (Ys "part")) (jE .eq (jS J1 (jS J2 (Yi 1))) (jS J1 (jS J2 (Yi 2))))) [1]) (jP jN))))
noncomputable def on:dg Str:=[S "facts",S "home",S "fact"]
def Om:M:=jT 1 (jP jN) (jH true [2] true (jS J0 (Ys "levels")) (jT 1 (jO .add J1 J2) jN) [0,1] (Yr J1))
noncomputable def gn:dg Str:=[S "state",S "found",S "level"]
def Nm:M:=jT 2 (jF 78 (Y1 J0)) (jT 3 (jZ (jS J4 (Yi 3)) [4] true J2 jN []) (jI (.or (.not (.val (.VF J1))) (jE .ne J1 (.LH J1))) (Yr (jK .none)) jN (jI (jE .ne (jZ J5 [5] true J1 (jE .notin J5 J3) [3]) (jP jN)) (Yr (jK .none)) jN (Yr (jZ J4 [4] true J2 (jE .isin (jS J4 (Yi 3)) J1) [1])))))
noncomputable def cn:dg Str:=[S "state",S "reasons",S "facts",S "marks",S "fact",S "one"]
def Mm:M:=jT 3 (jF 79 (Y2 J0 (jM J1 36 (Y1 J2)))) (.n6 [4,5] (jS (jS J0 (Ys "watched")) J2) (Yr (.DW (jE .isnot J3 (jK .none)) (.one (jE .eq (jF 76 (Y4 (jF 74 (Y1 J3)) J3 J4 J5)) (jS (jS (jS J0 (Ys "told")) J2) (Yi 0)))))))
noncomputable def bn:dg Str:=[S "state",S "house",S "t",S "facts",S "u",S "v"]
def Lm:M:=jT 1 (jF 78 (Y1 J0)) (jT 2 (jF 74 (Y1 J1)) (jH true [3] true (jS J0 (Ys "watched")) (.n6 [4,5] (jS (jS J0 (Ys "watched")) J3) (jT 6 (jF 76 (Y4 J2 J1 J4 J5)) (jI (jD (jE .ne J6 (Yi 0)) (jE .notin J3 (jS J0 (Ys "told")))) (jY (jU (Y2 J6 (jB .len (Y1 (jS J0 (Ys "levels")))))) (jS J0 (Ys "told")) J3 (jX (jL (jS J0 (Ys "fresh")) .append (Y1 J3)) jN)) jN jN))) [0,1,2] jN))
noncomputable def Zo:dg Str:=[S "state",S "facts",S "home",S "t",S "u",S "v",S "truth"]
def Km:M:=jX (jM J1 38 (Y1 J2)) (.eZ 0 (S "levels") .levels (.qU (jS J0 (Ys "levels")) (jO .sub (jB .len (Y1 (jS J0 (Ys "levels")))) J2)) (jT 3 (.fz (jZ J4 [4] true (jS J0 (Ys "told")) (jE .le (jS (jS (jS J0 (Ys "told")) J4) (Yi 1)) (jB .len (Y1 (jS J0 (Ys "levels"))))) [0])) (.eZ 0 (S "told") .ltold (.lY J4 (jS (jS J0 (Ys "told")) J4) [4] true J3 [0]) (.eZ 0 (S "fresh") .fresh (.fz (jZ J4 [4] true (jS J0 (Ys "fresh")) (jE .isin J4 J3) [3])) jN))))
noncomputable def Yo:dg Str:=[S "state",S "house",S "many",S "kept",S "t"]
def Jm:M:=jT 2 (.fP (.fz (jZ (jU (Y2 J3 (jS (jS (jS J0 (Ys "told")) J3) (Yi 0)))) [3] true (jS J0 (Ys "fresh")) jN [0]))) (jI (.or (jE .ne (.fP (jM J1 35 jN)) J2) (jE .ne (jM J1 35 jN) (jP jN))) (Yr (jK (.bool false))) jN (.eZ 0 (S "fresh") .fresh (jP jN) (Yr (jE .eq (jZ J3 [3,4] false J2 (.not (.val (jF 80 (Y3 J0 J1 J3)))) [0,1]) (jP jN)))))
noncomputable def Xo:dg Str:=[S "state",S "house",S "due",S "t",S "truth"]
noncomputable def Im(i:yg):M:=jG [5,6] (Y2 (jS J1 (Ys "terms")) (jF 72 (Y2 J0 (Yi 8)))) (jI (jE .isin J6 (jU (Y2 (Yi 3) (Yi 4)))) (.n6 [7,8] (jS (jJ 4) (jF 72 (Y2 J0 (Yi 12)))) (jT 9 (.ite (jE .eq J8 (Yi 9)) (jS J5 J7) (jM J3 62 (Y4 (Ys "=") (jU (Y2 (jB .min (Y2 (jS J5 J7) (jS J5 J8))) (jB .max (Y2 (jS J5 J7) (jS J5 J8))))) (jJ 2) (Yi 0)))) (jY (jU (Y2 J7 J8)) (jS J1 (Ys "watched")) J9 (jX (jM J2 31 (Y1 J9)) jN)))) (jI (jE .eq J6 (Yi 5)) (jX (jL (jS J1 (Ys "levels")) .append (Y1 (jW (.lvl i) (jP jN)))) (jX (jM J2 37 jN) jN)) (jI (jD (jE .eq J6 (Yi 6)) (jE .gt (jB .len (Y1 (jS J1 (Ys "levels")))) (Yi 1))) (jX (jF 82 (Y3 J1 J2 (jO .add (Yi 1) (jF 72 (Y2 J0 (jO .sub (jB .len (Y1 (jS J1 (Ys "levels")))) (Yi 1))))))) jN) (jI (jE .ne J6 (Yi 6)) (jT 7 (jF 72 (Y2 J0 (Yi 9))) (jT 8 (.ite (jE .lt J7 (Yi 6)) (jF 72 (Y2 J0 (Yi 6))) (jO .add (Yi 6) (jF 72 (Y2 J0 (.ite (jE .eq J6 (Yi 2)) (Yi 3) (Yi 5)))))) (jX (jL (jS (jS J1 (Ys "levels")) (.neg (Yi 1))) .append (Y1 (jU (Y4 (.ite (jE .eq J6 (Yi 2)) (Ys "part") (Ys "tie")) J7 J8 J4)))) (jI (jE .eq J6 (Yi 2)) (jX (jM J2 26 (Y3 (jS J5 J7) (jS J5 J8) J4)) jN) (jX (jM J2 14 (Y3 (jS J5 J7) (jS J5 J8) J4)) jN) jN)))) jN jN) jN) jN) jN)
noncomputable def Wo:dg Str:=[S "feed",S "state",S "house",S "bank",S "mark",S "some",S "deed",S "u",S "v",S "t"]
def Xq:M:=jG [1,2] (Y2 (jW .feed (.dS (.pr (Ys "cells") (jB .list (Y1 (.qU J0 (Yi 48)))) (.pr (Ys "spot") (Yi 0) jN)))) (.new .bank 43 jN)) (jT 3 (.new .house 0 (Y1 J2)) (jT 4 (jW .state (.dS (.pr (Ys "terms") (jF 73 (Y1 J2)) (.pr (Ys "levels") (jW .levels (jP (Y1 (jW (.lvl 0) (jP jN))))) (.pr (Ys "watched") (jW .lwat .dL) (.pr (Ys "told") (jW .ltold .dL) (.pr (Ys "fresh") (jW .fresh (jP jN)) jN))))))) (jH false [5] true (jB .range (Y1 (jO .add (Yi 3) (jF 72 (Y2 J1 (Yi 4)))))) (jX (jF 84 (Y5 J1 J4 J3 J2 (jO .mul (jO .add J5 (Yi 2)) (.ite (jE .eq (jO .mod J5 (Yi 2)) (Yi 0)) (Yi 1) (.neg (Yi 1)))))) (jT 6 (jM J3 8 jN) (jI (jE .ne (jE .isnot J6 (jK .none)) (jF 77 (Y1 (jF 78 (Y1 J4))))) (Yr (jK (.bool false))) jN (jI (jE .isnot J6 (jK .none)) (jT 7 (jF 79 (Y2 J4 J6)) (jI (.or (jE .isv J7 (jK .none)) (.not (.val (jF 77 (Y1 J7))))) (Yr (jK (.bool false))) jN (jI (jE .eq (jB .len (Y1 (jS J4 (Ys "levels")))) (Yi 1)) (Yr (jE .isnot (jM J3 35 jN) (jK .none))) jN (jX (jF 82 (Y3 J4 J3 (Yi 1))) jN)))) jN (jX (jF 81 (Y1 J4)) (jI (jD (jE .eq (jF 72 (Y2 J1 (Yi 2))) (Yi 1)) (.not (.val (jF 83 (Y2 J4 J3))))) (Yr (jK (.bool false))) jN jN)))))) [0,1,2,3,4] (Yr (.DW (jF 83 (Y2 J4 J3)) (.one (jE .eq (.fz (jZ J8 [8] true (jS J4 (Ys "told")) (.not (.val (jF 80 (Y3 J4 J3 J8)))) [3,4])) (jP jN))))))))
noncomputable def Vq:dg Str:=[S "script",S "feed",S "bank",S "house",S "state",S "lap",S "clash",S "facts",S "t"]
theorem c0:p7 0 n0 2 m0=true:=by kernel_rfl
theorem c3:p7 3 n3 3 m3=true:=by kernel_rfl
theorem c5:p7 5 n5 3 m5=true:=by kernel_rfl
theorem c8:p7 8 n8 1 m8=true:=by kernel_rfl
theorem c9:p7 9 n9 2 m9=true:=by kernel_rfl
theorem Oi:p7 10 Dm 2 jk=true:=by kernel_rfl
theorem Ni:p7 11 Bm 2 ik=true:=by kernel_rfl
theorem Mi:p7 12 Am 2 gk=true:=by kernel_rfl
theorem dq:p7 13 zm 2 fk=true:=by kernel_rfl
theorem Li:p7 14 ym 4 ek=true:=by kernel_rfl
theorem Ki:p7 15 xm 1 ak=true:=by kernel_rfl
theorem Ji:p7 16 wm 4 Zl=true:=by kernel_rfl
theorem Ii:p7 17 vm 2 Yl=true:=by kernel_rfl
theorem Hi:p7 18 tm 2 Xl=true:=by kernel_rfl
theorem cq:p7 19 qm 2 Wl=true:=by kernel_rfl
theorem Wp:p7 20 pm 2 Vl=true:=by kernel_rfl
theorem Gi:p7 21 om 3 Ul=true:=by kernel_rfl
theorem Fi:p7 22 jm 4 Sl=true:=by kernel_rfl
theorem Di:p7 23 im 2 Rl=true:=by kernel_rfl
theorem Ci:p7 24 em 3 Ql=true:=by kernel_rfl
theorem Bi:p7 25 dm 3 Pl=true:=by kernel_rfl
theorem Vp:p7 26 bm 4 Ol=true:=by kernel_rfl
theorem Ai:p7 27 am 3 Nl=true:=by kernel_rfl
theorem zi:p7 29 Zn 4 Ml=true:=by kernel_rfl
theorem yi:p7 30 Yn 3 Kl=true:=by kernel_rfl
theorem bq:p7 31 Xn 2 Jl=true:=by kernel_rfl
theorem wi:p7 32 Wn 4 Il=true:=by kernel_rfl
theorem vi:p7 33 Vn 2 Hl=true:=by kernel_rfl
theorem kw:p7 34 Tn 2 Gl=true:=by kernel_rfl
theorem ui:p7 35 Sn 1 El=true:=by kernel_rfl
theorem Tp:p7 36 Rn 2 Dl=true:=by kernel_rfl
theorem si:p7 37 Qn 1 Bl=true:=by kernel_rfl
theorem ri:p7 38 Pn 2 Al=true:=by kernel_rfl
theorem VI:p7 39 On 4 zl=true:=by kernel_rfl
theorem Sp:p7 40 Nn 3 yl=true:=by kernel_rfl
theorem qi:p7 41 Mn 5 xl=true:=by kernel_rfl
theorem pi:p7 42 Ln 4 vl=true:=by kernel_rfl
theorem ni:p7 43 Jn 1 ul=true:=by kernel_rfl
theorem mi:p7 45 Hn 2 ol=true:=by kernel_rfl
theorem ki:p7 49 Gn 4 jl=true:=by kernel_rfl
theorem ji:p7 51 En 3 il=true:=by kernel_rfl
theorem gi:p7 56 Cn 2 al=true:=by kernel_rfl
theorem fi:p7 57 Bn 2 Zm=true:=by kernel_rfl
theorem ei:p7 59 An 2 Ym=true:=by kernel_rfl
theorem Rp:p7 62 zn 5 Yq=true:=by kernel_rfl
theorem Qp:p7 67 yn 1 Xm=true:=by kernel_rfl
theorem di:p7 68 xn 1 Wm=true:=by kernel_rfl
theorem ci:p7 72 wn 2 Vm=true:=by kernel_rfl
theorem bi:p7 73 tn 1 Um=true:=by kernel_rfl
theorem ai:p7 74 rn 1 Tm=true:=by kernel_rfl
theorem Zj:p7 75 qn 4 Rm=true:=by kernel_rfl
theorem Yj:p7 76 pn 4 Qm=true:=by kernel_rfl
theorem Xj:p7 77 on 1 Pm=true:=by kernel_rfl
theorem Wj:p7 78 gn 1 Om=true:=by kernel_rfl
theorem Vj:p7 79 cn 2 Nm=true:=by kernel_rfl
theorem Uj:p7 80 bn 3 Mm=true:=by kernel_rfl
theorem Tj:p7 81 Zo 1 Lm=true:=by kernel_rfl
theorem Sj:p7 82 Yo 3 Km=true:=by kernel_rfl
theorem Rj:p7 83 Xo 2 Jm=true:=by kernel_rfl
theorem Qj(i:yg):p7 84 Wo 5 (Im i)=true:=by kernel_rfl
theorem Pp:p7 85 Vq 1 Xq=true:=by kernel_rfl
end
inductive M5 where
 |mk (m:kg)
 |args
abbrev p8:=kg×kg×kg
inductive Ent where
 |enter (t:kg) (homes:dg kg)
 |table (m:dg kg) (t:gg kg)
 |join (small large:kg) (l:LK->yg) (v:kg)
 |edge (left a:kg)
 |apart (b o:kg)
 |watch (t b o:kg)
 |told (t:kg)
structure Cor where
 root:kg->gg kg
 val:kg->gg kg
 ls:LK×kg->gg (dg vg)
 up:kg->gg (kg×M5)
 tab:dg kg->gg kg
 P9:kg->gg (kg×kg)
 d8:kg->gg (gg p8)
structure G9 extends Cor where
 queue:dg (kg×kg×M5)
 news:dg kg
 clash:gg (dg kg)
 u0:kg
 trail:dg Ent
 marks:dg kg
structure R8 where
 sn:dg vg
 sw:dg vg
 ops:dg Str
 args:dg (dg kg)
 sorts:dg kg
 Q5:dg vg
 oT:dg vg
 ND:dg vg
 LD:dg vg
 num:dg KI->gg AV
 BY:kg
 mE:kg
noncomputable instance LK.dec:ef LK:=λa b=>if h:a.code=b.code then .isTrue (by cases a<;>cases b<;>first|rfl|exact absurd h (by decide)) else .isFalse λe=>h (eg _ e)
noncomputable def iv(i:kg):AV:= .a9 (.int i)
noncomputable def yZ:M5->vg
 | .mk m=> .int m
 | .args=> .str (S "arguments")
noncomputable def Vo(o:gg kg):vg:=(o.map Ó).getD .none
noncomputable def D4(c:p8):vg:= .tuple [.int c.1,.int c.2.1,.int c.2.2]
noncomputable def xY(w:kg×kg):vg:= .tuple [.int w.1,.int w.2]
noncomputable def ED(o:gg p8):vg:=(o.map λc=>PyData.tuple [.int (-1),D4 c]).getD (.tuple [.int 1,.none])
noncomputable def aw(l:LK->yg):vg:= .tuple [.int (l .mem),.int (l .use),.int (l .b8),.int (l .C9)]
noncomputable def JY:Ent->vg
 | .enter t hs=> .tuple [.str (S "enter"),.int t,.list (zs hs)]
 | .table m t=> .tuple [.str (S "table"),.tuple (zs m),Vo t]
 | .join s l c v=> .tuple [.str (S "join"),.int s,.int l,aw c,.int v]
 | .edge a b=> .tuple [.str (S "edge"),.int a,.int b]
 | .apart a b=> .tuple [.str (S "apart"),.int a,.int b]
 | .watch t a b=> .tuple [.str (S "watch"),.int t,.int a,.int b]
 | .told t=> .tuple [.str (S "told"),.int t]
noncomputable def jw(o:gg (dg kg)):vg:=(o.map λl=>PyData.list (zs l)).getD .none
noncomputable def qD(q:kg×kg×M5):vg:= .tuple [.int q.1,.int q.2.1,yZ q.2.2]
noncomputable def wC(p:kg×M5):AV:= .a9 (.tuple [.int p.1,yZ p.2])
noncomputable def H5(c:gg (dg kg))(lv:kg):dg (yg×AV):=[(0,.g9 .bank),(1,.g9 .root),(2,.g9 (.C7 .mem)),(3,.g9 (.C7 .use)),(4,.g9 .value),(5,.g9 (.C7 .b8)),(6,.g9 (.C7 .C9)),(7,.g9 .up),(8,.g9 .table),(9,.g9 .sides),(10,.g9 .told),(11,.g9 .news),(12,.g9 .queue),(13,.a9 (jw c)),(14,iv lv),(15,.g9 .trail),(16,.g9 .marks)]
noncomputable def qY(K:R8):dg (yg×AV):=[(17,.g9 (.bk 0)),(18,.g9 (.bk 1)),(19,.g9 (.bk 2)),(20,.g9 (.bk 3)),(21,.g9 (.bk 4)),(22,iv 0),(23,.g9 (.bk 5)),(24,.g9 (.bk 6)),(25,.g9 (.bk 7)),(26,.g9 (.bk 8)),(27,.g9 (.bk 9)),(28,iv K.BY),(29,iv K.mE)]
noncomputable def ls(l:dg vg):gg d9:=some (.list true (l.map .a9))
noncomputable def bW(x:KI)(k:kg->gg (dg kg)):gg (dg kg):=KI.casesOn x k (λz'=>none) λz'=>none
noncomputable def zI(l:dg KI):gg (dg kg):=List.casesOn l none λx m=>bW x λa=>List.casesOn m none λy r=>bW y λb=>List.casesOn r (some [a,b]) λz' z'=>none
noncomputable def ZW(f:dg kg->gg kg)(k:dg KI):gg AV:=(zI k).bind λl=>(f l).map iv
noncomputable def Y0(K:R8):yg->gg d9
 |0=>ls K.sn
 |1=>ls K.sw
 |2=>ls K.oT
 |3=>ls K.ND
 |4=>ls K.LD
 |5=>ls (K.ops.map .str)
 |6=>ls (K.args.map λl=> .tuple (zs l))
 |7=>ls (zs K.sorts)
 |8=>ls K.Q5
 |9=>some (.V9 K.num)
 |_=>none
structure q9 where
 ls:LK->kg->gg d9
 z:LK->kg->wg
 b:yg->gg d9
 r:Tg->gg d9
noncomputable def dD{a:Type}(h:a->AV)(f:kg->gg a):d9:= .p9 true λt=>(f t).map h
noncomputable def Mr(k:LK)(f:LK×kg->gg (dg vg)):d9:= .p9 true λt=>(f (k,t)).map λz'=> .g9 (.ls k t)
noncomputable def sT(z:wg)(g:gg d9)(o:gg (dg vg)):gg d9:=match o with
 |some l=>some (.list (!z) (l.map .a9))
 |none=>g
noncomputable def Lj(C B:yg)(g:q9)(K:R8)(E:G9):Tg->gg d9
 | .house=>some (.inst C (H5 E.clash E.u0))
 | .root=>some (dD iv E.root)
 | .value=>some (dD iv E.val)
 | .up=>some (dD wC E.up)
 | .table=>some (.V9 (ZW E.tab))
 | .sides=>some (dD (λp=> .a9 (xY p)) E.P9)
 | .told=>some (dD (λp=> .a9 (ED p)) E.d8)
 | .queue=>ls (E.queue.map qD)
 | .news=>ls (zs E.news)
 | .trail=>ls (E.trail.map JY)
 | .marks=>ls (zs E.marks)
 | .C7 k=>some (Mr k E.ls)
 | .ls k t=>sT (g.z k t) (g.ls k t) (E.ls (k,t))
 | .bank=>some (.inst B (qY K))
 | .bk k=>Y0 K k
 | .Z8 _=>none
 | .byr k=>g.b k
 |τ=>g.r τ
theorem B9{σ σ':Tg->gg d9}{τ:Tg}{o:d9}(h:∀t,t≠τ->σ t=σ' t)(q:σ' τ=some o):up σ τ o=σ':=funext λt=>by
 by_cases e:t=τ
 ·rw [e,u7,q]
 ·rw [v8 e,h t e]
theorem i7.up{P:y8}{n m:yg}{md:Md}{i:yg}{as:dg AV}{b b':Tg->gg d9}{a:AV}(h:i7 P n md i as b a b')(l:n<=m):i7 P m md i as b a b':=λI=>⟨λA G s xs h1 h2 h3=>(h I).1 A G s xs h1 (Qg (Eg (Pe 2 l) _) h2) (Qg (Eg (Pe 20 l) _) h3),(h I).2⟩
section
variable{P:y8}{n m:yg}{g:q9}{K:R8}{E:G9}{t x d:kg}{md:Md}{u:Mo}{κ:LK}{l:dg vg}
noncomputable def hp(P:y8)(g:q9)(K:R8)(E:G9):Tg->gg d9:=Lj P.C P.B g K E
noncomputable def TT:dg kg:=[1,2,3,4,5,6,7,8,9,10,11]
noncomputable def t8:dg (kg×kg):=[(6,3),(7,4),(8,6),(9,3),(10,4),(11,6)]
noncomputable def VV:dg kg:=[1,2]
def Ap(t x:kg):Prop:=(t,x)∈t8
noncomputable def sy(t:kg):kg:=ô (decide (t<9)) 0 1
noncomputable def vH(t:kg):Str:=ô (decide (t=1)) (S "true") (S "false")
structure JW(K:R8)(t:kg)(o:Str)(as:dg kg)(d:vg):Prop where
 o:r7 t (K.ops.map λo=>AV.a9 (.str o))=some (.a9 (.str o))
 a:r7 t (K.args.map λl=>AV.a9 (.tuple (zs l)))=some (.a9 (.tuple (zs as)))
 d:r7 t (K.Q5.map AV.a9)=some (.a9 d)
structure BK(K:R8):Prop where
 l:K.ops.length<=1000000/\K.args.length<=1000000/\K.Q5.length<=1000000
 a:∀t x,Ap t x->JW K t (S "app") [x] (.int (sy t))
 v:∀t∈VV,∃d,JW K t (vH t) [] d
 c:∀t∈[3,4,5],∃d,JW K t (S "app") [] d
 tr:K.BY=1
def Mg(zk:LK->wg)(n id:yg)(md:Md)(as:dg AV)(E:G9)(a:AV)(E':G9):Prop:=∀(P:y8) (g:q9) (K:R8),BK K->(∀κ t,zk κ=false->g.z κ t=false)->i7 P n md id (.g9 .house::as) (hp P g K E) a (hp P g K E')
abbrev Mz:=Mg λz'=>true
noncomputable def wa:LK->wg
 | .C9=>true
 |_=>false
abbrev Mw:=Mg wa
abbrev Me:=Mg λz'=>false
theorem Mg.mono{z c:LK->wg}{n id:yg}{m:Md}{as:dg AV}{E E':G9}{a:AV}(l:∀κ,z κ=false->c κ=false)(h:Mg z n id m as E a E'):Mg c n id m as E a E':=λP g K hB hz=>h P g K hB λκ t q=>hz _ t (l _ q)
theorem Mg.lift{z:LK->wg}{n id:yg}{m:Md}{as:dg AV}{E E':G9}{a:AV}(h:Mz n id m as E a E'):Mg z n id m as E a E':=Mg.mono (λz' q=>Bool.noConfusion q) h
theorem q8{id:yg}{as:dg AV}{b b':Tg->gg d9}{a:AV}{K:KE}{ρ:dg (yg×AV)}{tt:dg (yg×d9)}(h:i7 P m md id as b a b')(l:dc m n=true)(q:(sF u md&&(ρ.all λp=>gN md p.2)&&LF a)=true)(k:K a ⟨ρ,tt,b'⟩):Ox P n id u as ⟨ρ,tt,b⟩ K:=Y8 (h.up (vf l)) q k
theorem i9{K a:Type}[ef K]{f:K->gg a}{k:K}{u:a}:f9 f k u k=some u:=xg rfl
theorem e9{K a:Type}[ef K]{f:K->gg a}{k x:K}{u:a}(h:x≠k):f9 f k u x=f x:=og h
theorem c7{K a:Type}[ef K]{f:K->gg a}{k:K}:H9 f k k=none:=xg rfl
theorem Z9{K a:Type}[ef K]{f:K->gg a}{k x:K}(h:x≠k):H9 f k x=f x:=og h
theorem q6{a c K:Type}[ef K]{f:K->gg a}{h:a->c}{k:K}:H9 (λt=>(f t).map h) k=λt=>(H9 f k t).map h:=funext λt=>by
 unfold H9;split<;>rfl
theorem z8{a c K:Type}[ef K]{f:K->gg a}{h:a->c}{k:K}{x:a}:f9 (λt=>(f t).map h) k (h x)=λt=>(f9 f k x t).map h:=funext λt=>by
 unfold f9;split<;>rfl
theorem w7{a:Type}{f:a->vg}{l:dg a}{x:a}:(l.map f).map AV.a9++[.a9 (f x)]=((l++[x]).map f).map .a9:=by refine rL Ng (rL Ng ?_);rfl
theorem X9{l:dg kg}{x:kg}:(zs l).map AV.a9++[iv x]=(zs (l++[x])).map AV.a9:=w7
theorem FV{R:dg KI->gg (dg kg)->Prop}(h:∀k,R k none)(e:∀a b,R [.int a,.int b] (some [a,b]))(k:dg KI):R k (zI k):=by
 cases k with
 |nil=>exact h _
 |cons x m=>cases x with
  |str _=>exact h _
  |tup _=>exact h _
  |int a=>cases m with
   |nil=>exact h _
   |cons y r=>cases y with
    |str _=>exact h _
    |tup _=>exact h _
    |int b=>cases r with
     |nil=>exact e a b
     |cons _ _=>exact h _
theorem LP{f g:dg kg->gg kg}{a b:kg}(h:∀x,x≠[a,b]->f x=g x){k:dg KI}(e:k≠[.int a,.int b]):ZW f k=ZW g k:=FV (R:=λk o=>k≠[.int a,.int b]->(o.bind λl=>(f l).map _)=o.bind λl=>(g l).map _) (λz' z'=>rfl) (λc d e=>eg (kf _) (h _ λz=>e (by cases z;rfl))) k e
theorem uS{f:dg kg->gg kg}{a b:kg}:H9 (ZW f) [.int a,.int b]=ZW (H9 f [a,b]):=funext λk=>by
 by_cases e:k=[.int a,.int b]
 ·refine rL e ?_;exact(xg rfl).trans (eg (kf _) (xg rfl:H9 f [a,b] [a,b]=none)).symm
 ·exact(og e).trans (LP (λx n=>(og n).symm) e)
theorem tS{f:dg kg->gg kg}{a b x:kg}:f9 (ZW f) [.int a,.int b] (iv x)=ZW (f9 f [a,b] x):=funext λk=>by
 by_cases e:k=[.int a,.int b]
 ·refine rL e ?_;exact(xg rfl).trans (eg (kf _) (xg rfl:f9 f [a,b] x [a,b]=some x)).symm
 ·exact(og e).trans (LP (λy n=>(og n).symm) e)
theorem zR{l:dg Ent}{d:dg AV}(h:d=(l.map JY).map .a9):up (hp P g K E) .trail (.list true d)=hp P g K {E with trail:=l}:=h▸B9 (λτ n=>by cases τ<;>first|rfl|exact(n rfl).elim) rfl
theorem BR{l:dg (kg×kg×M5)}{d:dg AV}(h:d=(l.map qD).map .a9):up (hp P g K E) .queue (.list true d)=hp P g K {E with queue:=l}:=h▸B9 (λτ n=>by cases τ<;>first|rfl|exact(n rfl).elim) rfl
theorem fM{l:dg kg}{d:dg AV}(h:d=(zs l).map .a9):up (hp P g K E) .news (.list true d)=hp P g K {E with news:=l}:=h▸B9 (λτ n=>by cases τ<;>first|rfl|exact(n rfl).elim) rfl
theorem GR{l:dg kg}{d:dg AV}(h:d=(zs l).map .a9):up (hp P g K E) .marks (.list true d)=hp P g K {E with marks:=l}:=h▸B9 (λτ n=>by cases τ<;>first|rfl|exact(n rfl).elim) rfl
theorem qW{v:kg->gg kg}{f:kg->gg AV}(h:f=λt=>(v t).map iv):up (hp P g K E) .root (.p9 true f)=hp P g K {E with root:=v}:=h▸B9 (λτ n=>by cases τ<;>first|rfl|exact(n rfl).elim) rfl
theorem gJ{v:kg->gg (kg×M5)}{f:kg->gg AV}(h:f=λt=>(v t).map wC):up (hp P g K E) .up (.p9 true f)=hp P g K {E with up:=v}:=h▸B9 (λτ n=>by cases τ<;>first|rfl|exact(n rfl).elim) rfl
theorem TV{v:kg->gg kg}{f:kg->gg AV}(h:f=λt=>(v t).map iv):up (hp P g K E) .value (.p9 true f)=hp P g K {E with val:=v}:=h▸B9 (λτ n=>by cases τ<;>first|rfl|exact(n rfl).elim) rfl
theorem dM{v:kg->gg (kg×kg)}{f:kg->gg AV}(h:f=λt=>(v t).map λp=> .a9 (xY p)):up (hp P g K E) .sides (.p9 true f)=hp P g K {E with P9:=v}:=h▸B9 (λτ n=>by cases τ<;>first|rfl|exact(n rfl).elim) rfl
theorem cM{v:kg->gg (gg p8)}{f:kg->gg AV}(h:f=λt=>(v t).map λp=> .a9 (ED p)):up (hp P g K E) .told (.p9 true f)=hp P g K {E with d8:=v}:=h▸B9 (λτ n=>by cases τ<;>first|rfl|exact(n rfl).elim) rfl
theorem AR{v:dg kg->gg kg}{f:dg KI->gg AV}(h:f=ZW v):up (hp P g K E) .table (.V9 f)=hp P g K {E with tab:=v}:=h▸B9 (λτ n=>by cases τ<;>first|rfl|exact(n rfl).elim) rfl
theorem R4{c:gg (dg kg)}{v:kg}{f:dg (yg×AV)}(h:f=H5 c v):up (hp P g K E) .house (.inst P.C f)=hp P g K {E with clash:=c,u0:=v}:=h▸B9 (λτ n=>by cases τ<;>first|rfl|exact(n rfl).elim) rfl
theorem bR{s:kg}{κ':LK}(h:Tg.ls κ' s≠ .ls κ t):(κ',s)≠(κ,t):=λe=>h (by cases e;rfl)
theorem X2(hz:g.z κ t=false)(k:(E.ls (κ,t)).isSome=true){d:dg AV}(h:d=l.map .a9):up (hp P g K E) (.ls κ t) (.list true d)=hp P g K {E with ls:=f9 E.ls (κ,t) l}:=h▸B9 (λτ n=>by
 cases τ with
 |ls κ' s=>exact eg (sT (g.z κ' s) (g.ls κ' s)) (e9 (bR n)).symm
 |C7 κ'=>exact eg (λf=>some (d9.p9 true f)) (funext λs=>by
   by_cases e:(κ',s)=(κ,t)
   ·cases e
    exact(Option.isSome_iff_exists.mp k).elim λa e=>(eg (kf _) e).trans (eg (kf λz'=>AV.g9 (.ls κ t)) (i9 (u:=l))).symm
   ·exact(eg (kf _) (e9 e)).symm)
 |_=>rfl) ((eg (sT (g.z κ t) (g.ls κ t)) i9).trans (by rw [hz];rfl))
structure eS(P:y8)(K:R8)(b:Tg->gg d9):Prop where
 i:b .bank=some (.inst P.B (qY K))
 k:∀j,b (.bk j)=Y0 K j
theorem o5:eS P K (hp P g K E):=⟨rfl,λz'=>rfl⟩
theorem b9{a c:Type}{l:dg a}{f:a->c}{k:yg}(h:l.length<=k):(l.map f).length<=k:=bg (Bg (ng _)) h
variable{b:Tg->gg d9}{o:Str}{as:dg kg}{dd:vg}
theorem xx(T:JW K t o as dd)(hB:K.ops.length<=1000000)(B:eS P K b):i7 P 1 .all 56 [.g9 .bank,iv t] b (.a9 (.str o)) b:=enter gi rt rt (k9 B.i (k9 (x:=b _) (B.k 5) (k9 ((eg _ (Vg ..)).trans T.o) ⟨b9 (b9 hB),done⟩)))
theorem wx(T:JW K t o as dd)(hB:K.args.length<=1000000)(B:eS P K b):i7 P 1 .all 57 [.g9 .bank,iv t] b (.a9 (.tuple (zs as))) b:=enter fi rt rt (k9 B.i (k9 (x:=b _) (B.k 6) (k9 ((eg _ (Vg ..)).trans T.a) ⟨b9 (b9 hB),done⟩)))
theorem Fk(T:JW K t o as dd)(hB:K.Q5.length<=1000000):i7 P 1 .all 59 [.g9 .bank,iv t] (hp P g K E) (.a9 dd) (hp P g K E):=enter ei rt rt (k9 T.d ⟨b9 hB,done⟩)
theorem np(hB:BK K):i7 P 1 .all 67 [.g9 .bank] (hp P g K E) (iv 1) (hp P g K E):=enter Qp rt rt (w3 (eg _ hB.tr))
end
section
abbrev Up:=kg->gg (kg×M5)
abbrev N9:=kg×kg×M5
inductive w9(up:Up):kg->dg N9->kg->Prop
 |nil (t:kg):w9 up t [] t
 |cons {t n z:kg} {y:M5} {l:dg N9}:up t=some (n,y)->w9 up n l z->w9 up t ((t,n,y)::l) z
section
variable{up:Up}{a b c z m:kg}{l l1 l2:dg N9}
theorem w9.app(p:w9 up a l1 b)(q:w9 up b l2 c):w9 up a (l1++l2) c:=by
 induction p with
 |nil=>exact q
 |cons h _ i=>exact .cons h (i q)
theorem w9.split(p:w9 up a (l1++l2) c):∃b,w9 up a l1 b/\w9 up b l2 c:=by
 induction l1 generalizing a with
 |nil=>exact⟨a,.nil a,p⟩
 |cons e _ i=>
  cases p with
  |cons h q=>exact(i q).imp λb z=>⟨.cons h z.1,z.2⟩
theorem w9.cmp(p:w9 up a l1 b)(q:w9 up a l2 c):(∃l,l2=l1++l/\w9 up b l c)\/(∃l,l1=l2++l/\w9 up c l b):=by
 induction p generalizing l2 with
 |nil=>exact .inl ⟨l2,rfl,q⟩
 |cons h p ih=>
  cases q with
  |nil=>exact .inr ⟨_,rfl,.cons h p⟩
  |cons h' q=>
   cases ig (h.symm.trans h')
   exact(ih q).imp (λz=>z.imp λl z=>⟨eg (_::·) z.1,z.2⟩) λz=>z.imp λl z=>⟨eg (_::·) z.1,z.2⟩
theorem w9.stop(p:w9 up a l b)(h:up a=none):l=[]/\b=a:=by
 cases p with
 |nil=>exact⟨rfl,rfl⟩
 |cons g _=>haveI g:=h▸g;exact(by nomatch g)
theorem w9.ends(p:w9 up a l1 b)(q:w9 up a l2 c)(h:up b=none)(d:up c=none):l1=l2/\b=c:=by
 rcases p.cmp q with⟨l,e,r⟩|⟨l,e,r⟩
 ·obtain⟨rfl,rfl⟩:=r.stop h;exact⟨by rw [e,Fg],rfl⟩
 ·obtain⟨rfl,rfl⟩:=r.stop d;exact⟨by rw [e,Fg],rfl⟩
theorem w9.edge(p:w9 up a l b){e:N9}(h:e∈l):up e.1=some e.2:=by
 induction p with
 |nil=>cases h
 |cons g _ i=>
  rcases List.mem_cons.mp h with rfl|h
  ·exact g
  ·exact i h
def B7(up:Up):Prop:=∀t,∃l z,w9 up t l z/\up z=none
theorem B7.loop(T:B7 up)(p:w9 up a l a):l=[]:=by
 refine Z5 (T a) λL z q hz=> ?_;haveI h:=eg uc ((p.app q).ends q hz hz).1;exact Sc (Nat.add_right_cancel ((jg▸h).trans (Tf _).symm))
theorem w9.at_(p:w9 up a l b){e:N9}(h:e∈l):∃l1 l2,l=l1++e::l2/\w9 up a l1 e.1/\w9 up e.1 (e::l2) b/\w9 up e.2.1 l2 b:=by
 refine M8 (List.append_of_mem h) λl1 l2 v=> ?_;subst v;refine O8 p.split λx d f=> ?_;cases f with
 |cons g q=>exact⟨l1,l2,rfl,d,.cons g q,q⟩
theorem w9.nodup(T:B7 up)(p:w9 up a l b):(l.map (·.1)).Nodup/\b∉l.map (·.1):=by
 induction p with
 |nil=>exact⟨uf,by simp⟩
 | @cons t n z y l h q ih=>
  refine⟨?_,?_⟩
  ·rw [Cf,pc];refine⟨λz=> ?_,ih.1⟩;obtain⟨e,he,ee⟩:=List.mem_map.mp z;obtain⟨l1,l2,_,p1,_,_⟩:=q.at_ he
   have:=T.loop (w9.cons h (ee▸p1));cases this
  ·rw [Cf,jc,Ċ];refine⟨λe=> ?_,ih.2⟩;subst e;have:=T.loop (w9.cons h q);cases this
theorem w9.ups(p:w9 up a l b):a::l.map (·.2.1)=l.map (·.1)++[b]:=by
 induction p with
 |nil=>rfl
 |cons h q i=>exact eg _ i
theorem f7{d:Type}{l:dg d}{x:d}(h:l.Nodup)(g:x∉l):(l++[x]).Nodup:=
 List.nodup_append.mpr ⟨h,List.nodup_cons.mpr ⟨List.not_mem_nil,uf⟩,λa i b f e=>g (List.mem_singleton.mp f▸e▸i)⟩
theorem w9.SX(T:B7 up)(p:w9 up a l b):(a::l.map (·.2.1)).Nodup:=p.ups▸f7 (p.nodup T).1 (p.nodup T).2
end
theorem V8{α:Type}[ef α]{l T:dg α}(h:l.Nodup)(g:∀x∈l,x∈T):l.length<=T.length:=h.length_le_of_subset g
def nX(es:dg N9)(c n:kg)(y:M5):Prop:=(c,n,y)∈es\/(n,c,y)∈es
theorem nX.symm{es:dg N9}{c n:kg}{y:M5}(h:nX es c n y):nX es n c y:=Or.symm h
theorem nX.mono{es d:dg N9}(k:∀e∈es,e∈d){c n:kg}{y:M5}(h:nX es c n y):nX d c n y:=h.imp (k _) (k _)
inductive T5(es:dg N9):kg->kg->Prop
 |refl a:T5 es a a
 |step {a n b:kg} {y:M5}:nX es a n y->T5 es n b->T5 es a b
section
variable{es es':dg N9}{a b c:kg}
theorem T5.trans(p:T5 es a b)(q:T5 es b c):T5 es a c:=by
 induction p with
 |refl=>exact q
 |step h _ i=>exact .step h (i q)
theorem T5.one{y:M5}(h:nX es a b y):T5 es a b:= .step h (.refl _)
theorem T5.symm(p:T5 es a b):T5 es b a:=by
 induction p with
 |refl=>exact .refl _
 |step h _ i=>exact i.trans (.one h.symm)
theorem T5.mono(k:∀e∈es,e∈es')(p:T5 es a b):T5 es' a b:=by
 induction p with
 |refl=>exact .refl _
 |step h _ i=>exact .step (h.mono k) i
theorem T5.keep{R:kg->kg->Prop}(h0:∀x,R x x)(hs:∀x y,R x y->R y x)(ht:∀x y z,R x y->R y z->R x z)(he:∀x n y,(x,n,y)∈es->R x n)(p:T5 es a b):R a b:=by
 induction p with
 |refl=>exact h0 _
 |step h _ ih=>
  rcases h with h|h
  ·exact ht _ _ _ (he _ _ _ h) ih
  ·exact ht _ _ _ (hs _ _ (he _ _ _ h)) ih
end
structure L8(up:Up) es:Prop where
 a:∀c n y,up c=some (n,y)->nX es c n y
 b:∀x n y,(x,n,y)∈es->up x=some (n,y)\/up n=some (x,y)
 top:B7 up
section
variable{up:Up}{es p:dg N9}{a b c z m:kg}{l l1 l2:dg N9}
theorem L8.wM(F:L8 up es)(q:w9 up a l b):T5 es a b:=by
 induction q with
 |nil=>exact .refl _
 |cons h _ i=>exact .step (F.a _ _ _ h) i
theorem L8.meet(F:L8 up es)(k:∀e∈p,e∈es)(q:T5 p a b):∃z la lb,w9 up a la z/\w9 up b lb z/\(∀e∈la,nX p e.1 e.2.1 e.2.2)/\∀e∈lb,nX p e.1 e.2.1 e.2.2:=by
 refine q.keep (R:=λa b=>∃z la lb,w9 up a la z/\w9 up b lb z/\(∀e∈la,nX p e.1 e.2.1 e.2.2)/\∀e∈lb,nX p e.1 e.2.1 e.2.2) ?_ ?_ ?_ ?_
 ·exactλx=>⟨x,[],[],.nil x,.nil x,(λz' h=>by cases h),λz' h=>by cases h⟩
 ·exactλx y ⟨z,la,lb,h1,h2,h3,h4⟩=>⟨z,lb,la,h2,h1,h4,h3⟩
 ·rintro x y w ⟨z,la,lb,h1,h2,h3,h4⟩ ⟨z',la',lb',h1',h2',h3',h4'⟩;rcases h2.cmp h1' with⟨l,e,r⟩|⟨l,e,r⟩
  ·refine⟨z',la++l,lb',h1.app r,h2',λf hf=> ?_,h4'⟩;rcases List.mem_append.mp hf with hf|hf
   ·exact h3 f hf
   ·exact h3' f (e▸Rg _ hf)
  ·refine⟨z,la,lb'++l,h1,h2'.app r,h3,λf hf=> ?_⟩;rcases List.mem_append.mp hf with hf|hf
   ·exact h4' f hf
   ·exact h4 f (e▸Rg _ hf)
 ·intro x n y h;rcases F.b _ _ _ (k _ h) with g|g
  ·exact⟨n,[(x,n,y)],[],.cons g (.nil _),.nil _,(λe he=>by rw [ke] at he;subst he;exact .inl h),λz' h=>by cases h⟩
  ·exact⟨x,[],[(n,x,y)],.nil _,.cons g (.nil _),(λz' h=>by cases h),λe he=>by rw [ke] at he;subst he;exact .inr h⟩
theorem L8.within(F:L8 up es)(k:∀e∈p,e∈es)(q:T5 p a b){L1 L2:dg N9}(h1:w9 up a L1 m)(h2:w9 up b L2 m)(hn:∀e∈L2,∀l,¬w9 up a l e.1):
  ∀e,e∈L1\/e∈L2->nX p e.1 e.2.1 e.2.2:=by
 obtain⟨z,la,lb,pa,pb,ea,eb⟩:=F.meet k q;have q2:∃l,lb=L2++l/\w9 up m l z:=by
  rcases pb.cmp h2 with⟨l,e,r⟩|⟨l,e,r⟩
  ·cases r with
   |nil=>exact⟨[],by rw [e,Fg,Fg],.nil _⟩
   |cons g r=>exact absurd pa (hn _ (by rw [e];exact Rg _ (.head _)) _)
  ·exact⟨l,e,r⟩
 obtain⟨l,rfl,r⟩:=q2;have q1:∃l',la=L1++l':=by
  rcases pa.cmp h1 with⟨l',e,r'⟩|⟨l',e,r'⟩
  ·have:=F.top.loop (r'.app r);obtain⟨rfl,rfl⟩:=List.append_eq_nil_iff.mp this;exact⟨[],by rw [e,Fg,Fg]⟩
  ·exact⟨l',e⟩
 obtain⟨l',rfl⟩:=q1;rintro e (h|h)
 ·exact ea e (Kg _ h)
 ·exact eb e (Kg _ h)
end
structure oP(up:Up)(T:dg kg):Prop where
 key:∀c n y,up c=some (n,y)->c∈T/\n∈T
section
variable{up:Up}{es p:dg N9}{T:dg kg}{a b c z m:kg}{l l1 l2:dg N9}{k:yg}
theorem w9.short(p:w9 up a l b)(h:B7 up)(u:oP up T):l.length<=T.length:=by
 haveI:=V8 (p.nodup h).1 λx hx=>by
  refine O8 (List.mem_map.mp hx) λe d v=> ?_;subst v;exact(u.key _ _ _ (p.edge d)).1
 simpa using this
end
theorem IQ{m:kg}{C A:dg kg}(h:m∉A):(A++m::C).idxOf? m=some A.length:=by
 induction A with
 |nil=>rw [Õ,Zd,xg (jf m)];rfl
 |cons x A i=>
  exact rL (Zd) (rL (gf λ(e:x=m)=>h (e▸List.mem_cons_self)) (rL (i λz=>h (.tail _ z)) rfl))
end
section
variable{P:y8}{n:yg}{g:q9}{K:R8}{E:G9}{t x top:kg}{md:Md}{l:dg N9}{b:Tg->gg d9}
noncomputable def XD(e:N9):vg:= .tuple [.int e.1,.tuple [.int e.2.1,yZ e.2.2]]
theorem b4{T:IC->KT->Prop}{B:IC->KB->Prop}{a:IC->IC}{k:KB}{N:yg}{c c':IC}(q:wh T B a k N c')(h:a c=a c'):wh T B a k N c:=by
 cases N with
 |zero=>exact q
 |succ N=>exact(eg (λx=>T x λb c1=>br b (B c1 _) (k .next c1)) h).mpr q
theorem zH{t0:kg}(p:w9 E.up t l top)(h:E.up top=none):∀{acc:dg AV},acc.length+l.length<=1000000->∀{k:KB},k .next ⟨[(0,.g9 .house),(1,iv t0),(2,.g9 (.Z8 0)),(3,iv top)],[(0,.list true (acc++(l.map XD).map .a9))],hp P g K E⟩->
  wh ((A9 P n (.cmp .isin (.var 3) (.I6 (.var 0) 7))).t (md,[])) ((A9 P n (.set 4 (.sub (.I6 (.var 0) 7) (.var 3)) (.ex (.lm (.var 2) .append (.cons (.tup (.cons (.var 3) (.cons (.var 4) (.nil)))) (.nil))) (.set 3 (.sub (.var 4) (.con (.int 0))) (.nil))))).b (md,[])) (IC.keep [0,1,2,3]) k (l.length+1) ⟨[(0,.g9 .house),(1,iv t0),(2,.g9 (.Z8 0)),(3,iv t)],[(0,.list true acc)],hp P g K E⟩:=by
 induction p with
 |nil t=>
  intro acc _ k hk;exact v9 (eg (λo=>(kf wC o).isSome) h) ((Fg acc)▸hk)
 | @cons t n' z y l e _ ih=>
  intro acc hl k hk;have hl:=hl;refine D9 (eg (λo=>(kf wC o).isSome) e) (k9 (eg (kf wC) e) ?_);refine⟨bg (Cg _ _) (Pf hl),?_⟩;exact b4 (ih h (by rw [jg];exact bg (Bg (by rw [tf];rfl)) hl) ((Lg acc [.a9 (XD (t,n',y))] ((l.map XD).map .a9)).symm▸hk)) rfl
theorem E6{τ:Tg}{w:wg}:C6 τ (.list w []):=λz' m=>(by nomatch m)
noncomputable def IR(l:dg N9)(v:Up):Up:=l.foldl (λf e=>H9 f e.1) v
noncomputable def pS(l:dg N9)(v:Up):Up:=l.foldl (λf e=>f9 f e.2.1 (e.1,e.2.2)) v
theorem o8{B:IC->KB->Prop}{A:AV->IC->(IC->Prop)->Prop}{a:IC->IC}{k:KB}{vs:dg AV}{c c':IC}(q:lp B A a k vs c')(h:a c=a c'):lp B A a k vs c:=by
 cases vs with
 |nil=>exact(eg _ h).mpr q
 |cons v _=>exact(eg (λx=>A v x λc1=>B c1 _) h).mpr q
theorem BH{a b c:AV}:∀{E},(l.map (·.1)).Nodup->(∀e∈l,(E.up e.1).isSome=true)->∀{k},k .next ⟨[(0,.g9 .house),(1,a),(2,b),(3,c)],[],hp P g K {E with up:=IR l E.up}⟩->
  lp ((A9 P n (.del (.I6 (.var 0) 7) (.var 5) (.nil))).b (md,[])) (U5 false [5,4]) (IC.keep [0,1,2,3]) k ((l.map XD).map .a9) ⟨[(0,.g9 .house),(1,a),(2,b),(3,c)],[],hp P g K E⟩:=by
 induction l with
 |nil=>exactλz' z' k i=>i
 |cons e l o=>
  intro E h hs k i;have h:=List.nodup_cons.mp h;exact⟨(eg _ (rfl)).trans ((rf ..).trans (hs e (.head _))),j9 (gJ q6) (o8 (o h.2 (λf m=>(eg _ (Z9 λ(q)=>h.1 (List.mem_map.mpr ⟨f,m,q⟩))).trans (hs f (.tail _ m))) i) rfl)⟩
theorem AH{a b c:AV}(j:∀e∈l,j7 e.2.1=true):∀{E k},k .next ⟨[(0,.g9 .house),(1,a),(2,b),(3,c)],[],hp P g K {E with up:=pS l E.up}⟩->
  lp ((A9 P n (.W1 (.tup (.cons (.var 5) (.cons (.sub (.var 4) (.con (.int 1))) (.nil)))) (.I6 (.var 0) 7) (.sub (.var 4) (.con (.int 0))) (.nil))).b (md,[])) (U5 false [5,4]) (IC.keep [0,1,2,3]) k ((l.map XD).map .a9) ⟨[(0,.g9 .house),(1,a),(2,b),(3,c)],[],hp P g K E⟩:=by
 induction l with
 |nil=>exactλh=>h
 |cons e l o=>
  intro E k h;exact⟨j e (.head _),j9 (gJ (z8 (x:=(e.1,e.2.2)))) (o8 (o (λf m=>j f (.tail _ m)) h) rfl)⟩
theorem Rk(hn:(l.map (·.1)).Nodup)(hs:∀e∈l,(E.up e.1).isSome=true)(c:∀e∈l,j7 e.2.1=true)(p:w9 E.up t l top)(h:E.up top=none)(hl:l.length<=1000000):Mz 1 23 .st [iv t] E (iv top) {E with up:=pS l (IR l E.up)}:=λP g K z' z'=>by
 refine enter Di rt rt (⟨E6,?_⟩);exact⟨l.length+1,zH p h (by rw [Ø,Tf];exact hl) (⟨l.map XD,rfl,(BH hn hs (AH c done))⟩)⟩
variable{r lv:kg}{as:dg kg}{dd:vg}{cl:gg (dg kg)}
theorem zF:(lay (.str (S "app"))&&lay (.str (S "app")))=true:=by kernel_rfl
theorem Iy:gZ (.str (S "app")) (.str (S "app"))=true:=by kernel_rfl
theorem gS{Q:kg->Prop}(h:t∈VV)(a:Q 1)(c:Q 2):Q t:=(List.mem_cons.mp h).elim (λe=>e▸a) λh=>List.mem_singleton.mp h▸c
theorem wF(h:t∈VV):(lay (.str (vH t))&&lay (.str (S "app")))=true:=gS (Q:=λt=>(lay (.str _)&&lay _)=true) h (by kernel_rfl) (by kernel_rfl)
theorem Hy(h:t∈VV):gZ (.str (vH t)) (.str (S "app"))=false:=gS (Q:=λt=>gZ (.str _) _=false) h (by kernel_rfl) (by kernel_rfl)
theorem lw(T:JW K t (S "app") as dd)(hB:BK K)(B:eS P K b)(H:b .house=some (.inst P.C (H5 cl lv))):i7 P 2 .all 9 [.g9 .house,iv t] b (.a9 (.tuple (zs as))) b:=enter c9 rt rt (k9 H (k9 (x:=b .bank) B.i (Y8 (xx T hB.l.1 B) rt (N8 zF (D9 Iy (k9 H (k9 (x:=b .bank) B.i (Y8 (wx T hB.l.2.1 B) rt done))))))))
theorem Zp(h:t∈VV)(T:JW K t (vH t) as dd)(hB:BK K)(B:eS P K b)(H:b .house=some (.inst P.C (H5 cl lv))):i7 P 2 .all 9 [.g9 .house,iv t] b (.a9 (.tuple [])) b:=enter c9 rt rt (k9 H (k9 (x:=b .bank) B.i (Y8 (xx T hB.l.1 B) rt (N8 (wF h) (v9 (Hy h) done)))))
theorem QD(a:Ap t x)(c:E.root x=some r):Mz 2 12 .all [iv t] E (.a9 (.tuple [.int (sy t),.int r])) E:=λP g K hB z'=>by
 refine enter Mi rt rt (Y8 (Fk (hB.a t x a) hB.l.2.2) rt ?_);exact Y8 (wx (hB.a t x a) hB.l.2.1 o5) rt (⟨(by decide:1<=1000000),(k9 (eg (kf iv) c) (⟨(by decide:1<=1000000),(⟨⟨(λh=>(by nomatch h)),(λh=>(by nomatch h))⟩,(by decide:2<=1000),done⟩)⟩))⟩)
variable{E':G9}{d r' r'' o':kg}
theorem kV(h:j7 t=true):t∈Ah 500:=by
 haveI h:=l9 h;obtain⟨k,rfl⟩:=Ć (qg h.1);exact List.mem_map.mpr ⟨k,List.mem_range.mpr (Int.ofNat_lt.mp (qg h.2)),rfl⟩
theorem cI(a:j7 d=true)(h:j7 r=true):[KI.int d,KI.int r]∈TK:=Kg _ (List.mem_flatMap.mpr ⟨d,kV a,List.mem_map.mpr ⟨r,kV h,rfl⟩⟩)
theorem MP:j7 (sy t)=true:=by
 unfold sy;cases decide (t<9)<;>decide
theorem A8(x:Ent){a:AV}(h:a= .a9 (JY x)):up (hp P g K E) .trail (.list true ((E.trail.map JY).map .a9++[a]))=hp P g K {E with trail:=E.trail++[x]}:=zR (h▸w7)
theorem UV(x:kg×kg×M5){a:AV}(h:a= .a9 (qD x)):up (hp P g K E) .queue (.list true ((E.queue.map qD).map .a9++[a]))=hp P g K {E with queue:=E.queue++[x]}:=BR (h▸w7)
theorem Q9{f:kg->gg kg}(h:f t=some r):(f t).map iv=some (iv r):=eg _ h
theorem Q8{i j:kg}(h:i=j):gZ (.int i) (.int j)=true:=Dg h
theorem H8{i j:kg}(h:i≠j):gZ (.int i) (.int j)=false:=Ig h
theorem p6{i j:kg}(h:i=j):(!gZ (.int i) (.int j))=false:=eg _ (Q8 h)
theorem G6{i j:kg}(h:i≠j):(!gZ (.int i) (.int j))=true:=eg _ (H8 h)
theorem Nu(a:Ap t x)(i:E.root x=some r)(h:E.tab [sy t,r]=some t)(hl:E.trail.length<=1000000):Mz 3 19 .st [iv t] E (.a9 .none) {E with trail:=E.trail++[.table [sy t,r] (some t)],tab:=H9 E.tab [sy t,r]}:=λP g K hB hz=>by
 refine enter cq rt rt (Y8 (QD a i P g K hB hz) rt ?_);refine VY (Q9 (f:=λz'=>E.tab _) (t:=0) h) (D9 (Dg rfl) ?_);refine⟨b9 (b9 hl),?_⟩;exact j9 (A8 _ rfl) (⟨eg (λo=>(kf _ o).isSome) h,(j9 (AR uS) E9)⟩)
theorem Pu(a:Ap t x)(b:E.root x=some r)(h:E.tab [sy t,r]=some o')(hn:o'≠t):Mz 3 19 .st [iv t] E (.a9 .none) E:=λP g K hB hz=>by
 exact enter cq rt rt (Y8 (QD a b P g K hB hz) rt (VY (Q9 (f:=λz'=>E.tab _) (t:=0) h) (v9 (Ig hn) E9)))
theorem Ou(a:Ap t x)(b:E.root x=some r)(h:E.tab [sy t,r]=none):Mz 3 19 .st [iv t] E (.a9 .none) E:=λP g K hB hz=>by
 exact enter cq rt rt (Y8 (QD a b P g K hB hz) rt (OS (eg (kf _) h) (E9)))
theorem Tu(a:Ap t x)(c:E.root x=some r)(h:E.tab [sy t,r]=none)(i:j7 r=true)(hl:E.trail.length<=1000000):Mz 3 13 .st [iv t] E (.a9 .none) {E with trail:=E.trail++[.table [sy t,r] none],tab:=f9 E.tab [sy t,r] t}:=λP g K hB hz=>by
 refine enter dq rt rt (Y8 (QD a c P g K hB hz) rt ?_);refine OS (eg (kf _) h) (⟨b9 (b9 hl),?_⟩);exact j9 (A8 _ rfl) (⟨cI MP i,(j9 (AR tS) E9)⟩)
theorem Su(a:Ap t x)(b:E.root x=some r)(h:E.tab [sy t,r]=some o')(e:E.root o'=some r')(c:E.root t=some r'')(hn:r'≠r'')(hl:E.queue.length<=1000000):Mz 3 13 .st [iv t] E (.a9 .none) {E with queue:=E.queue++[(t,o',.args)]}:=λP g K hB hz=>by
 refine enter dq rt rt (Y8 (QD a b P g K hB hz) rt ?_);refine VY (Q9 (f:=λz'=>E.tab _) (t:=0) h) (k9 (Q9 e) (k9 (Q9 c) ?_));exact D9 (G6 hn) (⟨b9 (b9 hl),(j9 (UV _ rfl) E9)⟩)
theorem Ru(a:Ap t x)(c:E.root x=some r)(h:E.tab [sy t,r]=some o')(e:E.root o'=some r')(b:E.root t=some r'):Mz 3 13 .st [iv t] E (.a9 .none) E:=λP g K hB hz=>by
 exact enter dq rt rt (Y8 (QD a c P g K hB hz) rt (VY (Q9 (f:=λz'=>E.tab _) (t:=0) h) (k9 (Q9 e) (k9 (Q9 b) (v9 (p6 rfl) E9)))))
theorem Sk{left right:kg}{w:M5}(h:Mz 1 23 .st [iv left] E (iv top) E')(hr:j7 left=true)(hl:E'.trail.length<=1000000):Mz 2 22 .st [iv left,iv right,.a9 (yZ w)] E (.a9 .none) {E' with up:=f9 E'.up left (right,w),trail:=E'.trail++[.edge left top]}:=λP g K hB hz=>by
 refine enter Fi rt rt (Y8 (h P g K hB hz) rt ?_);refine⟨hr,?_⟩;refine j9 (gJ (z8 (x:=(right,w)))) (⟨b9 (b9 hl),?_⟩);exact j9 (A8 (.edge left top) rfl) E9
end
section
variable{P:y8}{n:yg}{g:q9}{K:R8}{E:G9}{t x a b h m top:kg}{o:Str}{l L2:dg N9}{k:KB}{line:dg kg}
noncomputable def sp(L:dg kg):kg->gg AV:=λx=>(L.idxOf? x).map λ(i:yg)=>iv (i:kg)
theorem MH:f9 (λz'=>none) a (iv 0)=sp [a]:=funext λx=>by
 unfold f9 sp;refine rL (Zd) ?_;by_cases e:x=a
 ·refine rL (xg e) ?_;refine rL e ?_;rw [jf];rfl
 ·refine rL (og e) (rL (gf (gc e)) ?_);rfl
theorem BN{L:dg kg}{y:kg}(q:y∉L):(L++[y]).idxOf? x=if x=y then some L.length else L.idxOf? x:=by
 induction L with
 |nil=>
  rw [Õ,Zd];by_cases e:x=y
  ·refine rL (xg e) ?_;refine rL e ?_;rw [jf];rfl
  ·refine rL (og e) (rL (gf (gc e)) ?_);rfl
 |cons z L i=>
  have q:=not_or.mp λw=>q (List.mem_cons.mpr w);refine rL List.cons_append (rL (Zd) ?_);rw [i q.2,Zd];by_cases e:(z==x)=true
  ·exact rL (xg e) (rL (xg e) (rL (og λw=>q.1 (w.symm.trans (eq_of_beq e).symm)) rfl))
  ·refine rL (og e) (rL (og e) ?_);by_cases w:x=y
   ·refine rL (xg w) (rL (xg w) ?_);rfl
   ·exact rL (og w) (rL (og w) rfl)
theorem UL{L:dg kg}{y:kg}(q:y∉L){v:AV}(h:v=iv L.length):f9 (sp L) y v=sp (L++[y]):=funext λx=>by
 unfold f9 sp;refine rL (BN q) (rL h ?_);split<;>rfl
theorem kI{L:dg kg}:(sp L x).isSome=decide (x∈L):=by
 exact rL rf (Bool.eq_iff_iff.mpr (List.isSome_idxOf?.trans (ae).symm))
theorem H7{L:dg kg}{k:yg}(h:L.length<=k):((zs L).map AV.a9).length<=k:=b9 (b9 h)
theorem MY{L:dg kg}:((zs L).map AV.a9).length=L.length:=(ng _).trans (ng _)
theorem sx(p:w9 E.up h l top)(j:E.up top=none)(q:∀e∈l,j7 e.2.1=true):∀{L:dg kg},(L++l.map (·.2.1)).Nodup->L.length+l.length<=1000000->∀{k:KB},
  k .next ⟨[(0,.g9 .house),(1,iv a),(2,iv b),(3,.g9 (.Z8 0)),(4,.g9 (.Z8 1)),(5,iv top)],[(0,.list true ((zs (L++l.map (·.2.1))).map .a9)),(1,.p9 true (sp (L++l.map (·.2.1))))],hp P g K E⟩->
  wh ((A9 P n (.cmp .isin (.var 5) (.I6 (.var 0) 7))).t (.all,[])) ((A9 P n (.set 5 (.sub (.sub (.I6 (.var 0) 7) (.var 5)) (.con (.int 0))) (.W1 (.blt .len (.cons (.var 3) (.nil))) (.var 4) (.var 5) (.ex (.lm (.var 3) .append (.cons (.var 5) (.nil))) (.nil))))).b (.all,[])) (IC.keep [0,1,2,3,4,5]) k (l.length+1) ⟨[(0,.g9 .house),(1,iv a),(2,iv b),(3,.g9 (.Z8 0)),(4,.g9 (.Z8 1)),(5,iv h)],[(0,.list true ((zs L).map .a9)),(1,.p9 true (sp L))],hp P g K E⟩:=by
 induction p with
 |nil t=>
  intro L _ _ k i;exact v9 (eg (λo=>(kf _ o).isSome) j) ((Fg L)▸i)
 | @cons t c z y l e _ A=>
  intro L hn hl k i;haveI s:=bg (Cg _ _) (Pf hl);refine D9 (eg (λo=>(kf _ o).isSome) e) (k9 (eg (kf _) e) ?_);refine⟨H7 s,?_⟩;refine⟨q _ (.head _),?_⟩;refine⟨H7 s,?_⟩;haveI C:f9 _ _ (.a9 (.int (((zs L).map _).length)))=sp _:=UL (λm=>(List.nodup_append.mp hn).2.2 c m c (.head _) rfl) (rL MY rfl);haveI B:(zs L).map _++[iv c]=(zs _).map AV.a9:=X9;haveI v:L++(c::l.map _)=(L++[c])++l.map (·.2.1):=by rw [Lg];rfl
  refine b4 (A j (λf m=>q f (.tail _ m)) (v▸hn) (by refine rL jg ?_;exact bg (Bg (by rw [tf];rfl)) hl) (v▸i)) ?_;exact rR C (rR B rfl)
theorem rx(p:w9 E.up h L2 m)(hm:m∈line)(hn:∀e∈L2,e.1∉line){o:d9}:∀{B:dg kg},B.length+L2.length<=1000000->∀{k:KB},
  k .next ⟨[(0,.g9 .house),(1,iv a),(2,iv b),(3,.g9 (.Z8 0)),(4,.g9 (.Z8 1)),(5,iv m),(6,.g9 (.Z8 2))],[(0,o),(1,.p9 true (sp line)),(2,.list true ((zs (B++L2.map (·.1))).map .a9))],hp P g K E⟩->
  wh ((A9 P n (.cmp .notin (.var 5) (.var 4))).t (.all,[])) ((A9 P n (.ex (.lm (.var 6) .append (.cons (.var 5) (.nil))) (.set 5 (.sub (.sub (.I6 (.var 0) 7) (.var 5)) (.con (.int 0))) (.nil)))).b (.all,[])) (IC.keep [0,1,2,3,4,5,6]) k (L2.length+1) ⟨[(0,.g9 .house),(1,iv a),(2,iv b),(3,.g9 (.Z8 0)),(4,.g9 (.Z8 1)),(5,iv h),(6,.g9 (.Z8 2))],[(0,o),(1,.p9 true (sp line)),(2,.list true ((zs B).map .a9))],hp P g K E⟩:=by
 induction p with
 |nil t=>
  intro B _ k c;exact v9 (eg _ (kI.trans (Dg hm))) ((Fg B)▸c)
 | @cons t _ z y l e _ j=>
  intro B hl k c;refine D9 (eg _ (kI.trans (Ig (hn _ (.head _))))) (⟨H7 (bg (Cg _ _) (Pf hl)),?_⟩);refine k9 (eg (kf _) e) ?_;haveI s:(zs B).map _++[iv t]=(zs _).map AV.a9:=X9;haveI q:B++(t::l.map _)=(B++[t])++l.map (·.1):=by rw [Lg];rfl
  refine b4 (j hm (λf m=>hn f (.tail _ m)) (by refine rL jg ?_;exact bg (Bg (by rw [tf];rfl)) hl) (q▸c)) ?_;exact rR s rfl
theorem K7{c:Type}{j:yg}{vs:dg c}:C3 none (some j) none vs=some (vs.take j):=by rfl
theorem Qk{j:yg}(p:w9 E.up a l top)(w:E.up top=none)(q:w9 E.up b L2 m)(A:∀e∈l,j7 e.2.1=true)(C:j7 a=true)(hn:(a::l.map (·.2.1)).Nodup)(c:(a::l.map (·.2.1)).idxOf? m=some j)(hm:∀e∈L2,e.1∉a::l.map (·.2.1))(s:l.length<=1000)(h:L2.length<=1000):
  Mz 1 24 .all [iv a,iv b] E (.a9 (.list (zs ((a::l.map (·.2.1)).take j++L2.map (·.1))))) E:=λP g K z' z'=>by
 refine enter Ci rt rt (⟨λy z=>(List.mem_singleton.mp z)▸trivial,?_⟩);refine⟨(Sg _ _).mpr ⟨C,rfl⟩,?_⟩;refine⟨M7 (λz' z' e=>(by nomatch e)) trivial,?_⟩;refine⟨l.length+1,?_⟩;refine b4 (sx (L:=[a]) p w A hn (bg (Eg s 1) (by decide)) ?_) (eg (λf=>(⟨_,[(0,_),(1,d9.p9 _ f)],_⟩:IC)) MH);refine⟨E6,?_⟩;refine⟨L2.length+1,rx (B:=[]) q (List.isSome_idxOf?.mp (c▸rfl)) hm (bg (Eg h 0) (by decide)) ?_⟩;haveI hl:(a::l.map (·.2.1)).length<=1001:=Hg (b9 s);refine k9 (eg (kf λi=>iv _) c) (⟨zs _,rfl,?_⟩);refine k9 (K7.trans (eg _ (Jb ..).symm)) (⟨b9 (bg hl (by decide)),?_⟩);refine⟨zs _,rfl,?_⟩;exact⟨(jg▸bg (mf (b9 (bg (List.length_take_le' ..) hl)) (b9 (b9 h))) (by decide)),w3 (eg (λl=>AV.a9 _) (Ng ..).symm)⟩
end
section
variable{P:y8}{n:yg}{g:q9}{K:R8}{E:G9}{t x d r r' a b:kg}{u:Mo}{κ:LK}{l:dg vg}{k:KB}{rs more:dg kg}{c:p8}
theorem fU(h:E.ls (κ,t)=some l):sT (g.z κ t) (g.ls κ t) (E.ls (κ,t))=some (.list (!g.z κ t) (l.map .a9)):=eg _ h
theorem IM(h:E.ls (κ,t)=some l)(hz:g.z κ t=false):sT (g.z κ t) (g.ls κ t) (E.ls (κ,t))=some (.list true (l.map .a9)):=(fU h).trans (rL hz rfl)
theorem Y9{Q:AV->Prop}(h:E.ls (κ,t)=some l)(q:Q (.g9 (.ls κ t))):rd ((E.ls (κ,t)).map λz'=>AV.g9 (.ls κ t)) Q:=k9 (eg (kf _) h) q
theorem PS{Q:d9->Prop}(h:E.ls (κ,t)=some l)(q:Q (.list (!g.z κ t) (l.map .a9))):rd (sT (g.z κ t) (g.ls κ t) (E.ls (κ,t))) Q:=k9 (fU h) q
theorem R9{Q:d9->Prop}(h:E.ls (κ,t)=some l)(hz:g.z κ t=false)(q:Q (.list true (l.map .a9))):rd (sT (g.z κ t) (g.ls κ t) (E.ls (κ,t))) Q:=k9 (IM h hz) q
theorem SY{τ:Tg}{o:d9}{e:dg (yg×AV)}{t:dg (yg×d9)}{b:Tg->gg d9}{k:IC->Prop}(q:τ.ti=none):put ⟨e,t,b⟩ τ o k=∃b',up b τ o=b'/\k ⟨e,t,b'⟩:=by unfold put;rw [q]
noncomputable def q9.rest(g:q9)(κ:LK)(t:kg):q9:={g with z:=λκ' s=>if(κ',s)=(κ,t) then true else g.z κ' s}
theorem EX:(g.rest κ t).z κ t=true:=xg rfl
theorem oG(h:E.ls (κ,t)=some l):up (hp P g K E) (.ls κ t) (.list false (l.map .a9))=hp P (g.rest κ t) K E:=B9 (λτ n=>by
 cases τ with
 |ls _ s=>exact eg (sT · _ _) (og (bR n)).symm
 |_=>rfl) ((fU h).trans (rL EX rfl))
theorem nG(h:E.ls (κ,t)=some l)(hz:g.z κ t=false):up (hp P (g.rest κ t) K E) (.ls κ t) (.list true (l.map .a9))=hp P g K E:=B9 (λτ n=>by
 cases τ with
 |ls _ s=>exact eg (sT · _ _) (og (bR n))
 |_=>rfl) (IM h hz)
theorem rS:(Tg.ls κ t).ti=none:=by cases κ<;>rfl
theorem gX{e:dg (yg×AV)}{K':Mo->IC->(IC->(IC->Prop)->Prop)->Prop}(h:E.ls (κ,t)=some l)(hz:g.z κ t=false)(q:K' (u.1,.ls κ t::u.2) ⟨e,[],hp P (g.rest κ t) K E⟩ λc k=>c.σ (.ls κ t)=some (.list false (l.map .a9))/\put c (.ls κ t) (.list true (l.map .a9)) k):V5 u ⟨e,[],hp P g K E⟩ K':=
 ⟨.ls _ t,_,_,(W8 rS).trans (IM h hz),K5,(SY rS).mpr ⟨_,oG h,q⟩⟩
theorem A3{e:dg (yg×AV)}{k:IC->Prop}(h:E.ls (κ,t)=some l)(hz:g.z κ t=false)(q:k ⟨e,[],hp P g K E⟩):(⟨e,[],hp P (g.rest κ t) K E⟩:IC).σ (.ls κ t)=some (.list false (l.map .a9))/\put ⟨e,[],hp P (g.rest κ t) K E⟩ (.ls κ t) (.list true (l.map .a9)) k:=
 ⟨(W8 rS).trans ((fU h).trans (rL EX rfl)),(SY rS).mpr ⟨_,nG h hz,q⟩⟩
theorem I8{U:Tg->Prop}{h:Type}{f:h->vg}{l:dg h}:∀v∈(l.map f).map AV.a9,v.keeps U:=λz' m=>(List.mem_map.mp m).elim λz' e=>e.2▸trivial
theorem l3(e:E.root a=some r)(h:E.root b=some r'):Mz 1 3 .all [iv a,iv b] E (.a9 (.bool (decide (r=r')))) E:=λP g K z' z'=>by
 exact enter c3 rt rt (k9 (Q9 e) (k9 (Q9 h) done))
theorem l8(hl:∀l,E.clash=some l->l.length<=1000000):Mz 1 8 .all [] E (.a9 (jw E.clash)) E:=λP g K z' z'=>by
 refine enter c8 rt rt ?_;cases h:E.clash with
 |none=>
  exact(eg (λz=>(A9 P 0 _).b _ _ _) ((eg _ (by cases E;subst h;rfl)):hp P g K E=hp P g K {E with clash:=none})).mpr done
 |some l=>
  exact(eg (λz=>(A9 P 0 _).b _ _ _) ((eg _ (by cases E;subst h;rfl)):hp P g K E=hp P g K {E with clash:=some l})).mpr (⟨b9 (hl l h),done⟩)
theorem fw(hm:E.marks.length<=1000000):Mz 1 17 .st [.a9 (.list (zs h))] E (.a9 .none) {E with clash:=some h,u0:=E.marks.length}:=λP g K z' z'=>by
 refine enter Ii rt rt (j9 (R4 (c:=some _) rfl) ?_);exact⟨H7 hm,(j9 (R4 (eg (λi=>H5 (some _) _) MY)) E9)⟩
theorem Uk{L:LK->dg vg}(h:∀κ,E.ls (κ,t)=some (L κ))(hl:∀κ,(L κ).length<=1000000):Mz 1 18 .all [iv t] E (.a9 (aw λκ=>(L κ).length)) E:=λP g K z' z'=>by
 refine enter Hi rt rt (Y9 (h .mem) (PS (h .mem) ⟨b9 (hl _),?_⟩));refine Y9 (h .use) (PS (h .use) ⟨b9 (hl _),?_⟩);exact Y9 (h .b8) (PS (h .b8) ⟨b9 (hl _),(Y9 (h .C9) (PS (h .C9) ⟨b9 (hl _),(w3 (by rw [ng,ng,ng,ng];rfl))⟩))⟩)
theorem Kk(e:E.marks.length<=1000000)(h:E.trail.length<=1000000):Mz 1 37 .st [] E (.a9 .none) {E with marks:=E.marks++[(E.trail.length:kg)]}:=λP g K z' z'=>by
 refine enter si rt rt (⟨b9 (b9 h),?_⟩);exact⟨H7 e,(j9 (GR (rR X9 (eg (λi=>(zs _).map _++[iv _]) ((ng _).trans (ng _))))) E9)⟩
theorem u4:CW (zs rs) (.int x)=decide (x∈rs):=by
 unfold CW zs;induction rs with
 |nil=>rfl
 |cons y l i=>
  refine rL Ue (rL i ?_);show(je _ _||decide (x∈l))=_;refine rL (show je _ _=decide (y=x) by rfl) ?_;rw [Bool.eq_iff_iff,Jf,ae,ae,ae,jc];exact or_congr_left eq_comm
theorem P6:lay (.list (zs rs))=true:=by
 haveI h:Ze (zs rs)=true:=by
  induction rs with
  |nil=>rfl
  |cons x l i=>exact(Sg _ _).mpr ⟨rfl,i⟩
 haveI e:Qc (zs rs)<=0:=by
  clear h;induction rs with
  |nil=>exact Ag _
  |cons x l i=>exact Nat.max_le.mpr ⟨Ag _,i⟩
 exact(Sg _ _).mpr ⟨h,Dg (bg (Hg e) (by decide))⟩
theorem aN:(lay (.list (zs rs))&&lay (.int x))=true:=(Sg _ _).mpr ⟨P6,rfl⟩
noncomputable def T7(rs:dg kg)(m:kg):dg kg:=if m=0\/m∈rs then rs else Ì (rs++[m])
theorem N1{a b:dg kg}:zs a++zs b=zs (a++b):=(Ng ..).symm
theorem Ku(h:rs.length<=30):Mz 1 21 .all [.a9 (.list (zs rs)),iv x] E (.a9 (.list (zs (T7 rs x)))) E:=λP g K z' z'=>by
 refine enter Gi rt rt ?_;unfold T7;by_cases e:x=0
 ·exact rL (xg (.inl e)) (D9 (Q8 e) done)
 ·refine v9 (H8 e) (N8 aN ?_);by_cases m:x∈rs
  ·exact rL (xg (.inr m)) (D9 (u4.trans (Dg m)) done)
  ·refine rL (og (not_or.mpr ⟨e,m⟩)) ?_;refine v9 (u4.trans (Ig m)) ?_;haveI hl:(rs++[x]).length<=31:=jg▸Hg h;exact⟨(N1 (b:=[x]))▸b9 (bg hl (by decide)),rs++[x],N1 (b:=[x]),Qg hl (by decide),done⟩
theorem j5{α:Type}{l:dg α}{h:α->AV}{T:IC->KT->Prop}{Ee:IC->KE->Prop}{ρ:dg (yg×AV)}{y:yg}{tt:dg (yg×d9)}{b:Tg->gg d9}(f:α->wg)(e:α->vg)
  (ht:∀x∈l,∀K:KT,K (f x) ⟨W9 ρ y (h x),tt,b⟩->T ⟨W9 ρ y (h x),tt,b⟩ K) (he:∀x∈l,f x=true->∀K:KE,K (.a9 (e x)) ⟨W9 ρ y (h x),tt,b⟩->Ee ⟨W9 ρ y (h x),tt,b⟩ K):∀{ρ0:dg (yg×AV)} {K:KL},(∀ρ',K (((l.filter f).map e).map .a9) ⟨ρ',tt,b⟩)->rJ T Ee ρ true [y] (l.map h) ⟨ρ0,tt,b⟩ K:=by
 induction l with
 |nil=>exactλk=>k _
 |cons x l ih=>
  intro ρ0 K k;have ih:= @ih (λx m=>ht x (.tail _ m)) (λx m=>he x (.tail _ m));refine ht x (.head _) _ ?_;cases q:f x with
  |true=>exact he x (.head _) q _ (ih λρ'=>by have:=k ρ';rw [Je q] at this;exact this)
  |false=>exact show rJ T Ee ρ true [y] (l.map h) _ K from ih λρ'=>by have:=k ρ';rw [Le (by rw [q];exact cf)] at this;exact this
theorem L5{ds:dg vg}{Q:dg vg->Prop}(h:Q ds):aU (ds.map .a9) Q:=by
 induction ds generalizing Q with
 |nil=>exact h
 |cons d _ i=>exact i h
theorem d6:(zs rs).map AV.a9=rs.map iv:=Vg ..
noncomputable def rh(rs more:dg kg):dg kg:=Ì (rs++more.filter λx=> !decide (x∈rs))
theorem Ok(f:rs.length<=15)(h:more.length<=15):Mz 1 30 .all [.a9 (.list (zs rs)),.a9 (.list (zs more))] E (.a9 (.list (zs (rh rs more)))) E:=λP g K z' z'=>by
 refine enter yi rt rt (⟨H7 (bg h (by decide)),?_⟩);refine rL d6 (j5 _ _ (λx m K k=>(N8 aN (u4▸k))) (λx m z' K k=>k) λi=>L5 ?_)
 ·haveI hl:(rs++more.filter λx=> !decide (x∈rs)).length<=30:=by refine rL jg ?_;exact mf f (bg (Df ..) h)
  haveI e:zs rs++(more.filter λx=> !decide (x∈rs)).map _=zs _:=N1;exact⟨e▸b9 (bg hl (by decide)),rs++more.filter λx=> !decide (x∈rs),e,Qg hl (by decide),done⟩
theorem Pk{x1 x2:dg kg}(e1:Mz 2 25 .all [iv a,iv c.1] E (.a9 (.list (zs x1))) E)(e2:Mz 2 25 .all [iv b,iv c.2.1] E (.a9 (.list (zs x2))) E)(h1:x1.length<=15)(h2:x2.length<=15)(hj:(rh x1 x2).length<=30):Mz 3 29 .all [iv a,iv b,.a9 (D4 c)] E (.a9 (.list (zs (T7 (rh x1 x2) c.2.2)))) E:=λP g K hB hz=>by
 exact enter zi rt rt (Y8 (e1 P g K hB hz) rt (Y8 (e2 P g K hB hz) rt (q8 (Ok h1 h2 P g K hB hz) rt rt (q8 (Ku hj P g K hB hz) rt rt done))))
variable{E' E1:G9}{ra rb va vb s:kg}{ts ts':dg p8}{vs:dg AV}
theorem iX{Q:d9->Prop}{l:dg vg}(h:E.ls (κ,t)=some l)(q:Q (.list false (l.map .a9))):rd (sT ((g.rest κ t).z κ t) (g.ls κ t) (E.ls (κ,t))) Q:=k9 ((fU h).trans (by rw [EX];rfl)) q
noncomputable def MA:M:=jI (jE .eq (jS (Ya 1) J2) (jS (Ya 1) J3)) (Yr (jM J0 21 (Y2 (jM J0 25 (Y2 J2 J3)) J4))) jN jN
theorem IP{L:dg AV}(o:L=(ts.map D4).map .a9++vs)(hn:∀c∈ts,∃r s,E.root c.1=some r/\E.root c.2.1=some s/\r≠s)(q:lp ((A9 P 2 MA).b (.all,[.ls .b8 t])) (U5 false [2,3,4]) (IC.keep [0,1]) k vs ⟨[(0,.g9 .house),(1,iv t)],[],hp P g K E⟩):
  lp ((A9 P 2 MA).b (.all,[.ls .b8 t])) (U5 false [2,3,4]) (IC.keep [0,1]) k L ⟨[(0,.g9 .house),(1,iv t)],[],hp P g K E⟩:=by
 subst o;induction ts with
 |nil=>exact q
 |cons c _ j=>
  exact u8 (hn c (.head _)) λr s h i f=>(k9 (Q9 h) (k9 (Q9 i) (v9 (H8 f) (o8 (j λc m=>hn c (.tail _ m)) rfl))))
theorem kH(hz:∀κ t,wa κ=false->g.z κ t=false):g.z .b8 t=false:=hz _ _ rfl
theorem Mu(h:E.ls (.b8,t)=some (ts.map D4))(hn:∀c∈ts,∃r s,E.root c.1=some r/\E.root c.2.1=some s/\r≠s):Mw 3 20 .all [iv t] E (.a9 .none) E:=λP g K z' hz=>by
 refine enter Wp rt rt (gX h (kH hz) ?_);exact Y9 h (iX h ⟨I8,(o8 (IP (Fg _).symm hn (A3 h (kH hz) done)) rfl)⟩)
theorem Lu(h:E.ls (.b8,t)=some ((ts++c::ts').map D4))(hn:∀c∈ts,∃r s,E.root c.1=some r/\E.root c.2.1=some s/\r≠s)(f:E.root c.1=some r)(e:E.root c.2.1=some r)(M:Mz 2 25 .all [iv c.1,iv c.2.1] E (.a9 (.list (zs rs))) E)(hl:rs.length<=30):Mw 3 20 .all [iv t] E (.a9 (.list (zs (T7 rs c.2.2)))) E:=λP g K hB hz=>by
 refine enter Wp rt rt (gX h (kH hz) ?_);refine Y9 h (iX h ⟨I8,?_⟩);refine o8 (IP (by rw [Ng,Ng]) hn ?_) rfl;refine k9 (Q9 f) (k9 (Q9 e) (D9 (Q8 rfl) ?_));exact Y8 (M P _ K hB λz' z' q=>Bool.noConfusion q) rt (q8 (Ku hl P _ K hB λz' z' q=>Bool.noConfusion q) rt rt (A3 h (kH hz) done))
noncomputable def Tq(o:gg p8):vg:=(o.map D4).getD .none
noncomputable def eT(ρ:kg->gg kg)(a b:kg)(c:p8):gg p8:=if ρ c.1=some a/\ρ c.2.1=some b then some c else if ρ c.1=some b/\ρ c.2.1=some a then some (c.2.1,c.1,c.2.2) else none
noncomputable def gL(e:kg->gg kg)(a b:kg)(t:dg p8):gg p8:=t.findSome? (eT e a b)
noncomputable def LA:M:=jI (jD (jE .eq (jS (Ya 1) J3) J2) (jE .eq (jS (Ya 1) J4) J1)) (Yr (jU (Y3 J4 J3 J5))) jN jN
noncomputable def au:M:=jI (jD (jE .eq (jS (Ya 1) J3) J1) (jE .eq (jS (Ya 1) J4) J2)) (Yr (jU (Y3 J3 J4 J5))) jN LA
theorem mI{x y m:kg}{K':KB}(h:E.root x=some r)(f:E.root y=some s)(i:r=b/\s=a->∀j,K' (.ret (.a9 (D4 (y,x,m)))) ⟨j,[],hp P g K E⟩)(q:¬(r=b/\s=a)->K' .next ⟨[(0,.g9 .house),(1,iv a),(2,iv b),(3,iv x),(4,iv y),(5,iv m)],[],hp P g K E⟩):(A9 P n LA).b u ⟨[(0,.g9 .house),(1,iv a),(2,iv b),(3,iv x),(4,iv y),(5,iv m)],[],hp P g K E⟩ K':=by
 refine k9 (Q9 h) ?_;by_cases e1:r=b
 ·refine D9 (Q8 e1) (k9 (Q9 f) ?_);by_cases e:s=a
  ·exact D9 (Q8 e) (i ⟨e1,e⟩ _)
  ·exact v9 (H8 e) (q λz=>e z.2)
 ·exact v9 (H8 e1) (q λz=>e1 z.1)
theorem MB(hn:∀c∈m,∃r s,E.root c.1=some r/\E.root c.2.1=some s)(q:∀o,(gL E.root a b m).elim (k .next ⟨[(0,.g9 .house),(1,iv a),(2,iv b)],[],hp P g K E⟩) λc=>k (.ret (.a9 (D4 c))) ⟨o,[],hp P g K E⟩):
  lp ((A9 P n au).b u) (U5 false [3,4,5]) (IC.keep [0,1,2]) k ((m.map D4).map .a9) ⟨[(0,.g9 .house),(1,iv a),(2,iv b)],[],hp P g K E⟩:=by
 induction m with
 |nil=>exact q []
 |cons c m i=>
  refine Z5 (hn c (.head _)) λr s h f=> ?_;haveI e:gL _ a b (c::m)=(eT _ a b c).or (gL E.root a b m):=by
   unfold gL;refine rL (List.findSome?_cons) ?_;cases eT _ a b c<;>rfl
  have q:=e▸q;unfold eT at q;haveI q:=h▸q;have q:=f▸q;haveI i:=i (λc m=>hn c (.tail _ m));refine k9 (Q9 h) ?_;by_cases e1:r=a
  ·refine D9 (Q8 e1) (k9 (Q9 f) ?_);by_cases j:s=b
   ·rw [xg ⟨eg _ e1,eg _ j⟩] at q;exact D9 (Q8 j) (q _)
   ·rw [og λz=>j (ig z.2)] at q;refine v9 (H8 j) (mI h f (λy z'=> ?_) λy=> ?_)
    ·rw [xg ⟨eg _ y.1,eg _ y.2⟩] at q;exact q _
    ·rw [og λz=>y ⟨ig z.1,ig z.2⟩] at q;exact o8 (i q) rfl
  ·rw [og λz=>e1 (ig z.1)] at q;refine v9 (H8 e1) (mI h f (λy z'=> ?_) λy=> ?_)
   ·rw [xg ⟨eg _ y.1,eg _ y.2⟩] at q;exact q _
   ·rw [og λz=>y ⟨ig z.1,ig z.2⟩] at q;exact o8 (i q) rfl
theorem rp(h:E.ls (.b8,a)=some (ts.map D4))(hn:∀c∈ts,∃r s,E.root c.1=some r/\E.root c.2.1=some s):Mw 1 27 .all [iv a,iv b] E (.a9 (Tq (gL E.root a b ts))) E:=λP g K z' hz=>by
 refine enter Ai rt rt (gX h (kH hz) ?_);refine Y9 h (iX h ⟨I8,?_⟩);refine o8 (MB hn λf=> ?_) rfl;cases gL _ a b _ with
 |none=>exact A3 h (kH hz) done
 |some c=>exact A3 h (kH hz) done
noncomputable def cause(E:G9)(r f v e:kg)(t:dg p8):gg p8:=if r=f then none else if v≠0/\e≠0 then some (v,e,0) else gL E.root r f t
theorem l5(m:E.root a=some ra)(j:E.root b=some rb)(f:E.val ra=some va)(i:E.val rb=some vb)(h:E.ls (.b8,ra)=some (ts.map D4))(hn:∀c∈ts,∃r s,E.root c.1=some r/\E.root c.2.1=some s):Mw 2 5 .all [iv a,iv b] E (.a9 (Tq (cause E ra rb va vb ts))) E:=λP g K hB hz=>by
 refine enter c5 rt rt (k9 (Q9 m) (k9 (Q9 j) ?_));unfold cause;by_cases e:ra=rb
 ·exact rL (xg e) (D9 (Q8 e) done)
 ·refine rL (og e) ?_;refine v9 (H8 e) (k9 (Q9 f) ?_);by_cases n:va=0
  ·exact rL (og λz=>z.1 n) (v9 (p6 n) (Y8 (rp h hn P g K hB hz) (by cases gL _ _ _ _<;>rfl) done))
  ·refine D9 (G6 n) (k9 (Q9 i) ?_);by_cases n2:vb=0
   ·exact rL (og λz=>z.2 n2) (v9 (p6 n2) (Y8 (rp h hn P g K hB hz) (by cases gL _ _ _ _<;>rfl) done))
   ·exact rL (xg ⟨n,n2⟩) (D9 (G6 n2) (k9 (Q9 f) (k9 (Q9 i) done)))
theorem ER{x:kg}:up (hp P g K E) .news (.list true ((zs E.news).map .a9++[iv x]))=hp P g K {E with news:=E.news++[x]}:=fM X9
theorem Cu(h:(E.d8 t).isSome=true):Mz 3 34 .all [iv t] E (.a9 .none) E:=λP g K z' z'=>by
 exact enter kw rt rt (D9 ((rf ..).trans h) done)
theorem Eu(h:E.d8 t=none)(hs:E.P9 t=some (a,b))(q:E.root a=some r)(v:E.root b=some r)(p:j7 t=true)(m:E.news.length<=1000000)(o:E.trail.length<=1000000):Mz 3 34 .all [iv t] E (.a9 .none) {E with d8:=f9 E.d8 t none,news:=E.news++[t],trail:=E.trail++[.told t]}:=λP g K hB hz=>by
 refine enter kw rt rt (v9 ((rf ..).trans (eg _ h)) ?_);refine k9 (eg (kf _) hs) (q8 (l3 q v P g K hB hz) rt rt (D9 (Dg rfl) ?_));exact⟨p,j9 (cM (z8 (x:=none))) (⟨H7 m,j9 (ER) (⟨b9 (b9 o),j9 (A8 (.told t) rfl) E9⟩)⟩)⟩
theorem Du(h:E.d8 t=none)(hs:E.P9 t=some (a,b))(f:E.root a=some ra)(e:E.root b=some rb)(hn:ra≠rb)(M:Mw 2 5 .all [iv a,iv b] E (.a9 .none) E):Mw 3 34 .all [iv t] E (.a9 .none) E:=λP g K hB hz=>by
 exact enter kw rt rt (v9 ((rf ..).trans (eg _ h)) (k9 (eg (kf _) hs) (q8 (l3 f e P g K hB λz' z' q=>Bool.noConfusion q) rt rt (v9 (Ig hn) (Y8 (M P g K hB hz) rt done)))))
theorem Fu(h:E.d8 t=none)(hs:E.P9 t=some (a,b))(p:E.root a=some ra)(v:E.root b=some rb)(hn:ra≠rb)(M:Mw 2 5 .all [iv a,iv b] E (.a9 (D4 c)) E)(o:j7 t=true)(j:E.news.length<=1000000)(m:E.trail.length<=1000000):Mw 3 34 .all [iv t] E (.a9 .none) {E with d8:=f9 E.d8 t (some c),news:=E.news++[t],trail:=E.trail++[.told t]}:=λP g K hB hz=>by
 refine enter kw rt rt (v9 ((rf ..).trans (eg _ h)) ?_);refine k9 (eg (kf _) hs) (q8 (l3 p v P g K hB λz' z' q=>Bool.noConfusion q) rt rt (v9 (Ig hn) ?_));exact Y8 (M P g K hB hz) rt (⟨o,j9 (cM (z8 (x:=some c))) (⟨H7 j,j9 (ER) (⟨b9 (b9 m),j9 (A8 (.told t) rfl) E9⟩)⟩)⟩)
inductive cZ{α:Type}(S:α->G9->G9->Prop):dg α->G9->G9->Prop
 |nil {E:G9}:cZ S [] E E
 |cons {E E1 E2:G9} {t:α} {l:dg α}:S t E E1->cZ S l E1 E2->cZ S (t::l) E E2
theorem GH{l:dg kg}(h:cZ (λt E E'=>Mw 3 34 .all [iv t] E (.a9 .none) E') l E E')(hB:BK K)(hz:∀κ t,wa κ=false->g.z κ t=false):∀{k},k .next ⟨[(0,.g9 .house),(1,iv a)],[],hp P g K E'⟩->
  lp ((A9 P 3 (.ex (.met (.var 0) 34 (.cons (.var 2) (.nil))) (.nil))).b (.all,[.ls .C9 a])) (U5 true [2]) (IC.keep [0,1]) k ((zs l).map .a9) ⟨[(0,.g9 .house),(1,iv a)],[],hp P g K E⟩:=by
 induction h with
 |nil=>exactλe=>e
 |cons h _ i=>exactλe=>Y8 (h P g K hB hz) rt (o8 (i e) rfl)
theorem qp{l:dg kg}(h:E.ls (.C9,a)=some (zs l))(c:cZ (λt E E'=>Mw 3 34 .all [iv t] E (.a9 .none) E') l E E')(h':E'.ls (.C9,a)=some (zs l)):Me 4 33 .all [iv a] E (.a9 .none) E':=λP g K hB hz=>by
 refine enter vi rt rt ?_;haveI z:g.z .C9 a=false:=hz _ _ rfl;refine gX h z (Y9 h (iX h ⟨I8,?_⟩));refine o8 (GH c hB (λκ t q=>(og λe=> ?_).trans (hz _ t rfl)) ?_) rfl
 ·cases e;exact Bool.noConfusion q
 ·exact A3 h' z E9
end
section
variable{P:y8}{n:yg}{g:q9}{K:R8}{E:G9}{x d r a b c p q y6 y7:kg}{k:KB}{fo sn:dg kg}{wk:dg (kg×kg)}
noncomputable def BY:AV:= .a9 (.bool true)
noncomputable def eL(S:dg kg):kg->gg AV:=λx=>if x∈S then some BY else none
noncomputable def Ay(S:dg kg):dg (kg×AV):=S.map λm=>(m,BY)
theorem zX:f9 (eL sn) c BY=eL (sn++[c]):=funext λx=>by
 unfold f9 eL;by_cases e:x=c
 ·exact rL (xg e) (rL (xg (e▸Rg _ (.head _))) rfl)
 ·refine rL (og e) ?_;by_cases q:x∈sn
  ·exact rL (xg q) (rL (xg (Kg _ q)) rfl)
  ·exact rL (og q) (rL (og λm=>(List.mem_append.mp m).elim q λm=>e (List.mem_singleton.mp m)) rfl)
theorem zS:(eL sn c).isSome=decide (c∈sn):=by
 unfold eL;by_cases q:c∈sn
 ·refine rL (xg q) (rL (Dg q) ?_);rfl
 ·refine rL (og q) (rL (Ig q) ?_);rfl
noncomputable def nL(f:dg kg)(m:kg):dg kg:=if m∈f then f else f++[m]
theorem eE:X6 (Ay fo) c BY=Ay (nL fo c):=by
 unfold X6 Ay nL;by_cases q:c∈fo
 ·refine rL (xg (List.any_eq_true.mpr ⟨(c,BY),List.mem_map.mpr ⟨c,q,rfl⟩,Dg rfl⟩)) ?_;refine rL (xg q) (rL Vg ?_);exact wd λx z'=>by
   show(if(x,BY).1=c then _ else _)=_;split
   ·rfl
   ·rfl
 ·exact rL (og λh=>q (by
   refine O8 (List.any_eq_true.mp h) λy m e=>(O8 (List.mem_map.mp m) λz f u=> ?_);subst u;exact(qg e)▸f)) (rL (og q) (rL Ng rfl))
noncomputable def xR(wk:dg (kg×kg))(sn fo:dg kg):dg (yg×d9):=[(0,.list true ((wk.map xY).map .a9)),(1,.p9 true (eL sn)),(2,.M9 true (Ay fo))]
noncomputable def pE(a b y6 y7:kg):dg (yg×AV):=[(0,.g9 .house),(1,iv a),(2,iv b),(3,.g9 (.Z8 0)),(4,.g9 (.Z8 1)),(5,.g9 (.Z8 2)),(6,iv y6),(7,iv y7)]
noncomputable def QO:M:=jI (jE .notin J8 J4) (jY (jK (.bool true)) J4 J8 (.n6 [9,10] (jS (Ya 7) J8) (jI (jE .eq bQ (jJ 1)) (jX (jL J3 .extend (Y1 (.zip (jM (Ya 0) 57 (Y1 J8)) (jM (Ya 0) 57 (Y1 J9))))) jN) (jI (jE .ne bQ (Yi 0)) (jY (jK (.bool true)) J5 bQ jN) jN jN) jN))) jN jN
theorem Kj(h:c∈sn)(e:∀f,IC.keep [0,1,2,3,4,5,6,7] ⟨f,xR wk sn fo,hp P g K E⟩=⟨pE a b y6 y7,xR wk sn fo,hp P g K E⟩->k .next ⟨f,xR wk sn fo,hp P g K E⟩):(A9 P n QO).b (.all,[]) ⟨pE a b y6 y7++[(8,iv c)],xR wk sn fo,hp P g K E⟩ k:=v9 (eg _ (zS.trans (Dg h))) (e _ rfl)
theorem yF:(lay (.int x)&&lay (.str (S "arguments")))=true:=by
 haveI h:lay (.str (S "arguments"))=true:=by kernel_rfl
 exact(Sg _ _).mpr ⟨rfl,h⟩
theorem sE:gZ (.int x) (.str (S "arguments"))=false:=by
 rfl
theorem xF:(lay (.str (S "arguments"))&&lay (.str (S "arguments")))=true:=by kernel_rfl
theorem rE:gZ (.str (S "arguments")) (.str (S "arguments"))=true:=by kernel_rfl
theorem Jj(h:c∉sn)(l:j7 c=true)(j:E.up c=some (d,.mk r))(hl:fo.length<=1000)
  (i:∀m,IC.keep [0,1,2,3,4,5,6,7] ⟨m,xR wk (sn++[c]) (if r=0 then fo else nL fo r),hp P g K E⟩=⟨pE a b y6 y7,xR wk (sn++[c]) (if r=0 then fo else nL fo r),hp P g K E⟩->k .next ⟨m,xR wk (sn++[c]) (if r=0 then fo else nL fo r),hp P g K E⟩):(A9 P n QO).b (.all,[]) ⟨pE a b y6 y7++[(8,iv c)],xR wk sn fo,hp P g K E⟩ k:=by
 refine D9 (eg _ (zS.trans (Ig h))) (⟨l,?_⟩);refine k9 (eg (kf _) j) (N8 yF (v9 sE ?_));by_cases e:r=0
 ·refine v9 (p6 e) ?_;rw [xg e] at i;exact(eg (λf=>k .next ⟨_,[(0,_),(1,d9.p9 _ f),(2,_)],_⟩) zX).mpr (i _ rfl)
 ·refine D9 (G6 e) ?_;rw [og e] at i;exact⟨bg (Bg (ng _)) (bg hl (by decide)),((congr (eg (λf z=>k .next ⟨_,[(0,_),(1,d9.p9 _ f),(2,d9.M9 _ z)],_⟩) zX) eE).mpr (i _ rfl))⟩
theorem Ij(hB:BK K)(h:c∉sn)(j:j7 c=true)(e:E.up c=some (d,.args))(T:Ap c p)(i:Ap d q)(hl:wk.length<=10000)
  (l:∀m,IC.keep [0,1,2,3,4,5,6,7] ⟨m,xR (wk++[(p,q)]) (sn++[c]) fo,hp P g K E⟩=⟨pE a b y6 y7,xR (wk++[(p,q)]) (sn++[c]) fo,hp P g K E⟩->k .next ⟨m,xR (wk++[(p,q)]) (sn++[c]) fo,hp P g K E⟩):(A9 P 1 QO).b (.all,[]) ⟨pE a b y6 y7++[(8,iv c)],xR wk sn fo,hp P g K E⟩ k:=by
 refine D9 (eg _ (zS.trans (Ig h))) (⟨j,?_⟩);refine k9 (eg (kf _) e) (N8 xF (D9 rE ?_));refine Y8 (wx (hB.a _ _ T) hB.l.2.1 o5) rt (Y8 (wx (hB.a _ _ i) hB.l.2.1 o5) rt ?_);refine⟨Nat.succ_le_of_lt (Qg (b9 (b9 hl)) (by decide)),?_⟩;haveI z:(wk.map _).map AV.a9++[.a9 _]=((wk++[(p,q)]).map xY).map .a9:=w7;exact(congr (eg (λf z=>k .next ⟨_,[(0,d9.list _ z),(1,d9.p9 _ f),(2,_)],_⟩) zX) z).mpr (l _ rfl)
end
section
variable{P:y8}{n:yg}{g:q9}{K:R8}{E E1:G9}{t x v r s:kg}{κ:LK}{l:dg vg}{d:vg}{as us:dg kg}{o:Str}
theorem s4(hz:g.z κ t=false){w:dg AV}(h:w=l.map .a9):up (up (hp P g K E) (.ls κ t) (.list true w)) (.C7 κ) (.p9 true (f9 (λs=>(E.ls (κ,s)).map λz'=> .g9 (.ls κ s)) t (.g9 (.ls κ t))))=hp P g K {E with ls:=f9 E.ls (κ,t) l}:=h▸B9 (λτ n=>by
 cases τ with
 |ls κ' s=>
  by_cases e:Tg.ls κ' s= .ls κ t
  ·cases e;exact u7.trans ((eg (sT (g.z κ t) (g.ls κ t)) i9).trans (by rw [hz];rfl)).symm
  ·exact(v8 e).trans (eg (sT (g.z κ' s) (g.ls κ' s)) (e9 (bR e)).symm)
 |C7 κ'=>exact(v8 Tg.noConfusion).trans (eg (λf=>some (d9.p9 true f)) (funext λs=>eg (kf _) (e9 λ(e)=>n (eg (λp:LK×kg=>Tg.C7 p.1) e)).symm))
 |_=>exact v8 Tg.noConfusion) (eg (λf=>some (d9.p9 true f)) (funext λs=>by
   by_cases e:s=t
   ·rw [e,i9];exact eg (kf _) i9
   ·rw [e9 e];exact eg (kf _) (e9 λ(z)=>e (eg (λp:LK×kg=>p.2) z))))
noncomputable def q0(f:LK×kg->gg (dg vg))(t:kg):LK×kg->gg (dg vg):=f9 (f9 (f9 (f9 f (.mem,t) (zs [t])) (.use,t) []) (.b8,t) []) (.C9,t) []
noncomputable abbrev G9.ent(E:G9)(t v:kg):G9:={E with root:=f9 E.root t t,ls:=q0 E.ls t,val:=f9 E.val t v}
noncomputable def iQ:dg vg:=[.str (S "num"),.str (S "bvnum"),.str (S "true"),.str (S "false")]
noncomputable def bu:M:= .EY 2 (jZ (jS (Ya 1) J3) [3] true (jM J0 9 (Y1 J1)) jN [0]) (jH false [4] true J2 (jX (jL (jS (Ya 3) J4) .append (Y1 J1)) jN) [0,1,2] (jX (jL (Ya 15) .append (Y1 (jU (Y3 (Ys "enter") J1 J2)))) (jI (jE .gt (jB .len (Y1 J2)) (Yi 0)) (jX (jM J0 13 (Y1 J1)) jN) jN jN)))
theorem YN{w:wg}{b:Tg->gg d9}(T:JW K t o as d)(hB:BK K)(hz:∀κ t,false=false->g.z κ t=false)(h:j7 t=true)(e:(lay (.tuple iQ)&&lay (.str o))=true)(c:CW iQ (.str o)=w)(q:(A9 P 3 bu).b (.st,[]) ⟨[(0,.g9 .house),(1,iv t)],[],hp P g K (E.ent t (ô w t 0))⟩ (Eh (.a9 .none) b)):i7 P 4 .st 11 [.g9 .house,iv t] (hp P g K E) (.a9 .none) b:=by
 refine enter Ni rt rt (⟨h,j9 (qW z8) ?_⟩);refine⟨λy z=>(List.mem_singleton.mp z)▸trivial,h,j9 (s4 (l:=zs [t]) (hz _ _ rfl) rfl) ?_⟩;refine⟨E6,h,j9 (s4 (l:=[]) (hz _ _ rfl) rfl) ?_⟩;refine⟨E6,h,j9 (s4 (l:=[]) (hz _ _ rfl) rfl) ?_⟩;refine⟨E6,h,j9 (s4 (l:=[]) (hz _ _ rfl) rfl) ?_⟩;refine q8 (xx T hB.l.1 o5) rt rt (N8 e ?_);cases w with
 |true=>exact D9 c ⟨h,j9 (TV z8) q⟩
 |false=>exact v9 c ⟨h,j9 (TV z8) q⟩
theorem vF(h:t∈VV):(lay (.tuple iQ)&&lay (.str (vH t)))=true:=gS (Q:=λt=>(lay _&&lay (.str _))=true) h (by kernel_rfl) (by kernel_rfl)
theorem hD(h:t∈VV):CW iQ (.str (vH t))=true:=gS (Q:=λt=>CW _ (.str _)=true) h (by kernel_rfl) (by kernel_rfl)
theorem bN:(lay (.tuple iQ)&&lay (.str (S "app")))=true:=by kernel_rfl
theorem OM:CW iQ (.str (S "app"))=false:=by kernel_rfl
theorem Uu(h:t∈VV)(hr:j7 t=true)(hl:E.trail.length<=1000000):Me 4 11 .st [iv t] E (.a9 .none) {E.ent t t with trail:=E.trail++[.enter t []]}:=λP g K hB hz=>by
 refine(hB.v t h).elim λd T=>YN T hB hz hr (vF h) (hD h) (q8 (Zp h T hB o5 rfl) rt rt ⟨(by decide),?_⟩);exact⟨b9 (b9 hl),j9 (A8 (.enter t []) rfl) ⟨(by decide),E9⟩⟩
theorem Vu(h:t∈[3,4,5])(hr:j7 t=true)(hl:E.trail.length<=1000000):Me 4 11 .st [iv t] E (.a9 .none) {E.ent t 0 with trail:=E.trail++[.enter t []]}:=λP g K hB hz=>by
 refine(hB.c t h).elim λd T=>YN T hB hz hr bN OM (q8 (lw T hB o5 rfl) rt rt ⟨(by decide),?_⟩);exact⟨b9 (b9 hl),j9 (A8 (.enter t []) rfl) ⟨(by decide),E9⟩⟩
theorem Wu(a:Ap t x)(hr:j7 t=true)(hx:(E.ent t 0).root x=some r)(hu:(E.ent t 0).ls (.use,r)=some (zs us))(h1:us.length<=1000000)(hl:E.trail.length<=1000000)
  (M:Me 3 13 .st [iv t] {E.ent t 0 with ls:=f9 (q0 E.ls t) (.use,r) (zs (us++[t])),trail:=E.trail++[.enter t [r]]} (.a9 .none) E1):Me 4 11 .st [iv t] E (.a9 .none) E1:=λP g K hB hz=>by
 have T:=hB.a t x a;refine YN T hB hz hr bN OM (q8 (lw T hB o5 rfl) rt rt ⟨(by decide:1<=1000000),?_⟩);refine k9 (Q9 hx) (Y9 hu (R9 hu (hz _ _ rfl) (R9 hu (hz _ _ rfl) ?_)));refine⟨H7 h1,j9 (X2 (hz _ _ rfl) (by rw [hu];rfl) X9) ?_⟩;refine⟨b9 (b9 hl),j9 (A8 (.enter t [r]) rfl) ?_⟩;exact⟨(by decide:1<=1000000),Y8 (M P g K hB hz) rt E9⟩
variable{a b c large small:kg}{k:KB}{vs:dg AV}
noncomputable def q9.put(g:q9)(κ:LK)(t:kg)(o:gg d9):q9:={g with ls:=λκ' s=>if(κ',s)=(κ,t) then o else g.ls κ' s}
theorem EE:up (hp P g K E) (.C7 κ) (.p9 true (H9 (λs=>(E.ls (κ,s)).map λz'=> .g9 (.ls κ s)) t))=hp P (g.put κ t (hp P g K E (.ls κ t))) K {E with ls:=H9 E.ls (κ,t)}:=B9 (λτ n=>by
 cases τ with
 |ls κ' s=>
  by_cases e:(κ',s)=(κ,t)
  ·cases e;exact((eg (sT _ _) c7).trans (xg rfl)).symm
  ·show sT _ _ _=sT (g.z _ s) (if(κ',s)=(κ,t) then _ else g.ls _ s) (H9 _ _ _);exact rL (Z9 e) (rL (og e) rfl)
 |C7 _=>exact eg (λf=>some (d9.p9 _ f)) (funext λs=>eg _ (Z9 λ(e)=>n (eg (λp=>Tg.C7 p.1) e)).symm)
 |_=>rfl) (eg (λf=>some (d9.p9 _ f)) (funext λs=>by
   by_cases e:s=t
   ·refine rL e (rL c7 ?_);exact eg _ c7
   ·refine rL (Z9 e) ?_;exact eg _ (Z9 λ(z)=>e (eg (λp=>p.2) z))))
noncomputable def kM(f:LK×kg->gg (dg vg))(t:kg):LK×kg->gg (dg vg):=H9 (H9 (H9 (H9 f (.mem,t)) (.use,t)) (.b8,t)) (.C9,t)
noncomputable abbrev Cor.del(E:Cor)(t:kg):Cor:={E with root:=H9 E.root t,ls:=kM E.ls t,val:=H9 E.val t}
noncomputable abbrev G9.gone(E:G9)(t:kg):G9:={E with toCor:=E.toCor.del t}
theorem BI{d e:Type}{f:gg d}{h:d->e}(q:f.isSome=true):(f.map h).isSome=true:=(rf ..).trans q
theorem lX{τ:Tg}{f:kg->gg AV}{b b':Tg->gg d9}{a2:AV}{K':KB}(q:τ.ti=none)(e:b τ=some (.p9 true f))(h:(f t).isSome=true)(z:up b τ (.p9 true (H9 f t))=b')(k:lp ((A9 P n (.del (.var 4) (.var 1) (.nil))).b (.st,[])) (U5 true [4]) (IC.keep [0,1,2]) K' vs ⟨[(0,.g9 .house),(1,iv t),(2,a2)],[],b'⟩):
  lp ((A9 P n (.del (.var 4) (.var 1) (.nil))).b (.st,[])) (U5 true [4]) (IC.keep [0,1,2]) K' (.g9 τ::vs) ⟨[(0,.g9 .house),(1,iv t),(2,a2)],[],b⟩:=by
 refine k9 ((W8 q).trans e) (⟨h,?_⟩);exact(SY q).mpr ⟨_,z,o8 k rfl⟩
noncomputable def GA:M:= .OV 4 (Y6 (Ya 1) (Ya 2) (Ya 3) (Ya 4) (Ya 5) (Ya 6)) (.del J4 J1 jN) [0,1,2] jN
noncomputable def q9.pt(P:y8)(K:R8)(κ:LK)(t:kg)(w:q9×G9):q9×G9:=(w.1.put κ t (hp P w.1 K w.2 (.ls κ t)),{w.2 with ls:=H9 w.2.ls (κ,t)})
noncomputable def q9.o2(P:y8)(K:R8)(t:kg)(g:q9)(E:G9):q9×G9:=q9.pt P K .use t (q9.pt P K .mem t (g,{E with root:=H9 E.root t}))
noncomputable def q9.o3(P:y8)(K:R8)(t:kg)(g:q9)(E:G9):q9×G9:=((g.o2 P K t E).1,{(g.o2 P K t E).2 with val:=H9 E.val t})
noncomputable def q9.out(P:y8)(K:R8)(t:kg)(g:q9)(E:G9):q9:=(q9.pt P K .C9 t (q9.pt P K .b8 t (g.o3 P K t E))).1
structure VM(g g':q9):Prop where
 r:g'.r=g.r
 b:g'.b=g.b
 z:g'.z=g.z
theorem VM.trans{g h k:q9}(a:VM g h)(b:VM h k):VM g k:=⟨b.r.trans a.r,b.b.trans a.b,b.z.trans a.z⟩
theorem BX{w:q9×G9}:VM w.1 (q9.pt P K κ t w).1:=⟨rfl,rfl,rfl⟩
theorem DS:VM g (g.out P K t E):=(((BX).trans (BX)).trans (BX (w:=g.o3 P K t E))).trans BX
theorem sW{w:q9×G9}:up (hp P w.1 K w.2) (.C7 κ) (.p9 true (H9 (λs=>(w.2.ls (κ,s)).map λz'=> .g9 (.ls κ s)) t))=hp P (q9.pt P K κ t w).1 K (q9.pt P K κ t w).2:=EE
theorem UD{f:LK×kg->gg (dg vg)}{κ':LK}(e:κ≠κ'):H9 f (κ',t) (κ,t)=f (κ,t):=Z9 λz=>e (eg (·.1) z)
theorem bz{a:AV}{K':KB}(z:(E.root t).isSome=true)(h:∀κ,(E.ls (κ,t)).isSome=true)(F:(E.val t).isSome=true)(C:K' .next ⟨[(0,.g9 .house),(1,iv t),(2,a)],[],hp P (g.out P K t E) K (E.gone t)⟩):(A9 P n GA).b (.st,[]) ⟨[(0,.g9 .house),(1,iv t),(2,a)],[],hp P g K E⟩ K':=by
 refine lX rfl rfl (BI z) (qW q6) (lX (P:=P) (n:=n) rfl rfl (BI (h .mem)) (sW (w:=(g,{E with root:=H9 _ t}))) ?_);generalize e1:q9.pt P K .mem t _=w1;haveI D:w1.2={E with root:=H9 E.root t,ls:=H9 E.ls (.mem,t)}:=e1▸rfl;refine lX rfl rfl (BI (D▸(eg _ (UD (κ':= .mem) LK.noConfusion)).trans (h .use))) (sW) ?_;haveI B:q9.pt P K .use t w1=g.o2 P K t E:=e1▸rfl;refine rL B ?_;generalize o:g.o2 P K t E=w2;haveI i:w2.2={E with root:=H9 E.root t,ls:=H9 (H9 E.ls (.mem,t)) (.use,t)}:=o▸rfl;refine lX rfl rfl (BI (i▸F)) (TV q6) ?_;haveI j:g.o3 P K t E=(w2.1,{w2.2 with val:=H9 w2.2.val t}):=by unfold q9.o3;rw [o,i]
 generalize q:(w2.1,{w2.2 with val:=H9 w2.2.val t})=d at j;haveI y:d.2={E with root:=H9 _ t,val:=H9 E.val t,ls:=H9 _ _}:=by rw [<-q,i]
 haveI H:hp P _ K {w2.2 with val:=H9 _ t}=hp P d.1 K d.2:=by rw [<-q]
 refine rL H (lX rfl rfl (BI (y▸(eg _ ((UD (κ':= .use) LK.noConfusion).trans (UD (κ':= .mem) LK.noConfusion))).trans (h .b8))) (sW) ?_);generalize p:q9.pt P K .b8 t d=w4;haveI u:w4.2={E with root:=H9 _ t,val:=H9 _ t,ls:=H9 _ _}:=by
  haveI:w4.2={d.2 with ls:=H9 d.2.ls (.b8,t)}:=p▸rfl;exact rL this (rL y rfl)
 refine lX rfl rfl (BI (u▸(eg _ ((UD (κ':= .b8) LK.noConfusion).trans ((UD (κ':= .use) LK.noConfusion).trans (UD (κ':= .mem) LK.noConfusion)))).trans (h .C9))) (sW) ?_;generalize m:q9.pt P K .C9 t _=w5;haveI G:w5.2=E.gone t:=by
  haveI:w5.2={w4.2 with ls:=H9 w4.2.ls (.C9,t)}:=m▸rfl;refine rL this (rL u ?_);rfl
 haveI A:w5.1=g.out P K t E:=by unfold q9.out;rw [j,p,m]
 haveI e:K' .next ⟨[(0,.g9 .house),(1,iv t),(2,a)],[],hp P w5.1 K w5.2⟩:=by refine rL G (rL A ?_);exact C
 exact e
theorem pu{a:AV}{c:IC}{K':KB}(e:c=⟨[(0,.g9 .house),(1,iv t),(2,a)],[],hp P g K E⟩)(f:(E.root t).isSome=true)(h:∀κ,(E.ls (κ,t)).isSome=true)(d:(E.val t).isSome=true)(i:K' .next ⟨[(0,.g9 .house),(1,iv t),(2,a)],[],hp P (g.out P K t E) K (E.gone t)⟩):IW (kB (A9 P n GA) (.st,[]) K') K' .next c:=e▸bz f h d i
def Mv(n id:yg)(as:dg AV)(E E':G9):Prop:=∀(P:y8) (g:q9) (K:R8),BK K->(∀κ t,false=false->g.z κ t=false)->∃g',VM g g'/\i7 P n .st id (.g9 .house::as) (hp P g K E) (.a9 .none) (hp P g' K E')
theorem cE{i:yg}{d k:dg yg}{o:wg}{body kk:M}{u:Mo}{c:IC}{K':KB}(e:c.ρ.lookup i=some (.a9 (.list [])))(q:(A9 P n kk).b u (IC.keep k c) K'):(A9 P n (.cY false d o (.var i) body k kk)).b u c K':=k9 e q
theorem ou(e:(E.root t).isSome=true)(h:∀κ,(E.ls (κ,t)).isSome=true)(d:(E.val t).isSome=true):Mv 1 40 [iv t,.a9 (.list (zs []))] E (E.gone t):=λP g K z' z'=>
 ⟨g.out P K t E,DS,enter Sp rt rt (cE rfl (bz e h d E9))⟩
theorem ru(d:E.ls (.use,r)=some (zs (us++[x])))(hl:us.length<=1000000)(e:(E.root t).isSome=true)(h:∀κ,((f9 E.ls (.use,r) (zs us)) (κ,t)).isSome=true)(i:(E.val t).isSome=true):Mv 1 40 [iv t,.a9 (.list (zs [r]))] E (G9.gone {E with ls:=f9 E.ls (.use,r) (zs us)} t):=λP g K z' hz=>
 ⟨g.out P K t {E with ls:=f9 _ _ _},DS,by
  refine enter Sp rt rt (Y9 d (R9 d (hz _ _ rfl) (R9 d (hz _ _ rfl) ?_)));exact⟨(zs _).map .a9,iv x,X9.symm,b9 (b9 hl),j9 (X2 (hz _ _ rfl) (rL d rfl) rfl) (pu rfl e h i E9)⟩⟩
noncomputable def t3(l:dg kg)(x:kg)(f:kg->gg kg):kg->gg kg:=l.foldl (λf t=>f9 f t x) f
theorem Q1{j:yg}:(l.map AV.a9).take j=(l.take j).map .a9:=List.map_take.symm
theorem VK{τ:Tg}{w:wg}{j:yg}:C6 τ (.list w ((l.map AV.a9).take j)):=Q1▸λz' m=>(List.mem_map.mp m).elim λz' e=>e.2▸trivial
theorem lu{d v:AV}{u:Mo}:∀{l},(∀t∈l,j7 t=true)->∀{E k},k .next ⟨[(0,.g9 .house),(1,iv small),(2,iv large),(3,d),(4,v)],[],hp P g K {E with root:=t3 l small E.root}⟩->
  lp ((A9 P n (.W1 (.var 1) (.I6 (.var 0) 1) (.var 5) (.nil))).b u) (U5 true [5]) (IC.keep [0,1,2,3,4]) k ((zs l).map .a9) ⟨[(0,.g9 .house),(1,iv small),(2,iv large),(3,d),(4,v)],[],hp P g K E⟩:=by
 intro l e;induction l with
 |nil=>exactλh=>h
 |cons t l i=>
  intro E k h;exact⟨e t (.head _),j9 (qW z8) (o8 (i (λs q=>e s (.tail _ q)) (E:={E with root:=f9 _ t _}) h) rfl)⟩
noncomputable def rM(f:LK×kg->gg (dg vg))(t:kg)(L:LK->dg vg)(ln:LK->yg):LK×kg->gg (dg vg):=f9 (f9 (f9 (f9 f (.mem,t) ((L .mem).take (ln .mem))) (.use,t) ((L .use).take (ln .use))) (.b8,t) ((L .b8).take (ln .b8))) (.C9,t) ((L .C9).take (ln .C9))
theorem TD{f:LK×kg->gg (dg vg)}{κ':LK}(e:κ≠κ'):f9 f (κ',t) l (κ,t)=f (κ,t):=e9 λz=>e (eg (·.1) z)
theorem Ik{L:LK->dg vg}{ln:LK->yg}{ms:dg kg}(hL:∀κ,E.ls (κ,large)=some (L κ))(hl:∀κ,(L κ).length<=1000000)(hg:j7 large=true)(hs:rM E.ls large L ln (.mem,small)=some (zs ms))(rg:∀t∈ms,j7 t=true):
  Me 1 41 .st [iv small,iv large,.a9 (aw ln),iv v] E (.a9 .none) {E with ls:=rM E.ls large L ln,val:=f9 E.val large v,root:=t3 ms small E.root}:=λP g K hB hz=>by
 refine enter qi rt rt (Y9 (hL .mem) (R9 (hL .mem) (hz _ _ rfl) (k9 rfl (k9 K7 ⟨b9 (hl _),?_⟩))));refine⟨VK,hg,j9 (s4 (hz _ _ rfl) Q1) ?_⟩;have h2:=(TD (κ':= .mem) (l:=(L .mem).take (ln .mem)) LK.noConfusion).trans (hL .use);refine Y9 h2 (R9 h2 (hz _ _ rfl) (k9 rfl (k9 K7 ⟨b9 (hl _),?_⟩)));refine⟨VK,hg,j9 (s4 (hz _ _ rfl) Q1) ?_⟩;have h2:=(TD (κ':= .use) (l:=(L .use).take (ln .use)) LK.noConfusion).trans ((TD (κ':= .mem) (l:=(L .mem).take (ln .mem)) LK.noConfusion).trans (hL .b8));refine Y9 h2 (R9 (E:={E with ls:=_}) h2 (hz _ _ rfl) (k9 rfl (k9 K7 ⟨b9 (hl _),?_⟩)));refine⟨VK,hg,j9 (s4 (hz _ _ rfl) Q1) ?_⟩;have h2:=(TD (κ':= .b8) (l:=(L .b8).take (ln .b8)) LK.noConfusion).trans ((TD (κ':= .use) (l:=(L .use).take (ln .use)) LK.noConfusion).trans ((TD (κ':= .mem) (l:=(L .mem).take (ln .mem)) LK.noConfusion).trans (hL .C9)));refine Y9 h2 (R9 (E:={E with ls:=_}) h2 (hz _ _ rfl) (k9 rfl (k9 K7 ⟨b9 (hl _),?_⟩)));refine⟨VK,hg,j9 (s4 (hz _ _ rfl) Q1) ?_⟩;refine⟨hg,j9 (TV z8) ?_⟩;refine gX (κ:= .mem) hs (hz _ _ rfl) (Y9 hs (iX hs ⟨I8,?_⟩));refine o8 (lu rg ?_) rfl;exact A3 hs (hz _ _ rfl) E9
theorem pp{ws us:dg kg}(h1:E.ls (.C9,a)=some (zs (us++[x])))(h2:a≠b->(f9 E.ls (.C9,a) (zs us)) (.C9,b)=some (zs (ws++[s])))(hs:(E.P9 t).isSome=true)(b1:us.length<=1000000)(b2:a≠b->ws.length<=1000000):
  Me 1 42 .st [iv t,iv a,iv b] E (.a9 .none) {E with ls:=if a=b then f9 E.ls (.C9,a) (zs us) else f9 (f9 E.ls (.C9,a) (zs us)) (.C9,b) (zs ws),P9:=H9 E.P9 t}:=λP g K hB hz=>by
 refine enter pi rt rt (Y9 h1 (R9 h1 (hz _ _ rfl) (R9 h1 (hz _ _ rfl) ?_)));refine⟨(zs us).map .a9,iv x,X9.symm,b9 (b9 b1),j9 (X2 (hz _ _ rfl) (by rw [h1];rfl) rfl) ?_⟩;by_cases e:a=b
 ·rw [xg e];exact v9 (p6 e) ⟨BI hs,j9 (dM q6) E9⟩
 ·rw [og e];have h2:=h2 e;refine D9 (G6 e) (Y9 h2 (R9 h2 (hz _ _ rfl) (R9 h2 (hz _ _ rfl) ?_)));refine⟨(zs ws).map .a9,iv s,X9.symm,b9 (b9 (b2 e)),j9 (X2 (hz _ _ rfl) (eg ë h2) rfl) ?_⟩;exact⟨BI hs,j9 (dM q6) E9⟩
end
section
variable{P:y8}{n:yg}{g g':q9}{K:R8}{E E':G9}{t x v r s a b o:kg}{k:KB}{en hs:dg kg}{wl:dg p8}{c:p8}{l l2:dg vg}{d d2:vg}
noncomputable def q9.by(g:q9)(en:dg kg)(wl:dg p8):q9:={g with b:=λk=>if k=0 then Mine.Internal.ls (zs en) else if k=1 then Mine.Internal.ls (wl.map D4) else g.b k}
theorem Ty:up (hp P (g.by en wl) K E) (.byr 0) (.list true ((zs en).map .a9++[iv t]))=hp P (g.by (en++[t]) wl) K E:=B9 (λτ h=>by
 cases τ with
 |byr k=>exact(og λe=>h (eg _ e)).trans (og λe=>h (eg _ e)).symm
 |_=>rfl) (eg (λl=>some _) X9.symm)
theorem Sy:up (hp P (g.by en wl) K E) (.byr 1) (.list true ((wl.map D4).map .a9++[.a9 (D4 c)]))=hp P (g.by en (wl++[c])) K E:=B9 (λτ h=>by
 cases τ with
 |byr k=>
  show(if k=0 then _ else if k=1 then _ else _)=(if k=0 then _ else if k=1 then _ else _);exact rL (og (λe=>h (eg _ e):¬k=1)) (rL (og (λe=>h (eg _ e):¬k=1)) rfl)
 |_=>rfl) (eg (λl=>some _) w7.symm)
theorem dx(s:VM (g.by en wl) g'):∃h,VM g h/\∀i w,h.by i w=g'.by i w/\h.by en wl=g':=
 ⟨{g' with b:=g.b},⟨s.r,rfl,s.z⟩,λi z'=>⟨by
  exact eg (λf=>({g' with b:=f}:q9)) (funext λk=>by
   refine rL s.b ?_;show _=(if k=0 then _ else if k=1 then _ else if k=0 then _ else if k=1 then _ else g.b k);by_cases e:k=0
   ·exact rL (xg e) (rL (xg e) rfl)
   ·refine rL (og e) (rL (og e) ?_);by_cases p:k=1
    ·exact rL (xg p) (rL (xg p) rfl)
    ·refine rL (og p) ?_;refine rL (og p) ?_;rw [og e,og p]),by
  show({g' with b:=(g.by _ _).b})=g';rw [<-s.b]⟩⟩
def XT(x:Ent)(E E':G9)(en:dg kg)(wl:dg p8):Prop:=∀(P:y8) (g:q9) (K:R8) (en0:dg kg) (wl0:dg p8),BK K->(∀κ t,false=false->g.z κ t=false)->en0.length<=2000->wl0.length<=2000->∃g',VM g g'/\i7 P 2 .st 39 [.g9 .house,.a9 (JY x),.g9 (.byr 0),.g9 (.byr 1)] (hp P (g.by en0 wl0) K E) (.a9 .none) (hp P (g'.by (en0++en) (wl0++wl)) K E')
variable{u:Mo}{c0:IC}{m m' kk:M}{s1 s2:Str}{K':KB}{ds:dg vg}{Q:KE}
theorem P8(h:c0.ρ.lookup 4=some (.a9 (.str s1)))(l:(lay (.str s1)&&lay (.str s2))=true)(e:gZ (.str s1) (.str s2)=false)(q:(A9 P n m').b u c0 (IW (kB (A9 P n kk) u K') K')):(A9 P n (.ifs (.cmp .eq (.var 4) (.con (.str s2))) m m' kk)).b u c0 K':=
 k9 h (N8 l (v9 e q))
theorem ZZ(h:c0.ρ.lookup 4=some (.a9 (.str s1)))(l:(lay (.str s1)&&lay (.str s2))=true)(e:gZ (.str s1) (.str s2)=true)(q:(A9 P n m).b u c0 (IW (kB (A9 P n kk) u K') K')):(A9 P n (.ifs (.cmp .eq (.var 4) (.con (.str s2))) m m' kk)).b u c0 K':=
 k9 h (N8 l (D9 e q))
theorem Z3{i:yg}(q:(A9 P n m).e u c0 λa c1=>(A9 P n kk).b u (c1.set i a) K'):(A9 P n (.set i m kk)).b u c0 K':=q
theorem uh{d:vg}(h:c0.ρ.lookup 1=some (.a9 (.tuple (d::ds))))(q:Q (.a9 d) c0):(A9 P n (.sub (.var 1) (.con (.int 0)))).e u c0 Q:=k9 h q
theorem Ov{e f:Type}{Q:dg e->dg f->Prop}{a:dg e}{b:dg f}(q:Q a b):Q (a++[]) (b++[]):=by rw [Fg,Fg];exact q
theorem P1{x:Ent}(h:∀(P:y8) (g:q9) (K:R8),BK K->(∀κ t,false=false->g.z κ t=false)->∀en wl,i7 P 2 .st 39 [.g9 .house,.a9 (JY x),.g9 (.byr 0),.g9 (.byr 1)] (hp P (g.by en wl) K E) (.a9 .none) (hp P (g.by en wl) K E')):XT x E E' [] []:=λP g K en0 wl0 hB hz z' z'=>⟨g,⟨rfl,rfl,rfl⟩,Ov (Q:=λa b=>i7 P 2 .st 39 _ _ _ (hp P (g.by a b) K E')) (h P g K hB hz en0 wl0)⟩
theorem dz(h:Mv 1 40 [iv t,.a9 (.list (zs hs))] E E'):XT (.enter t hs) E E' [t] []:=λP g K en0 wl0 hB hz hl z'=>by
 refine(h P (g.by en0 wl0) K hB hz).elim λe h=>(dx h.1).imp λi q=>⟨q.1,?_⟩;rw [Fg,(q.2 _ _).1];haveI f:=h.2;rw [((q.2 en0 wl0).2.symm.trans (q.2 _ _).1)] at f;exact enter VI rt rt (Z3 (uh rfl (ZZ rfl (by kernel_rfl) (by kernel_rfl) (Y8 f rt (⟨b9 (b9 (bg hl (by decide))),j9 Ty E9⟩)))))
theorem uu(h:(E.tab [a,b]).isSome=true):XT (.table [a,b] none) E {E with tab:=H9 E.tab [a,b]} [] []:=P1 λP g K z' z' z' z'=>by
 exact enter VI rt rt (Z3 (uh rfl (P8 rfl (by kernel_rfl) (by kernel_rfl) (ZZ rfl (by kernel_rfl) (by kernel_rfl) (⟨(rf ..).trans h,j9 (AR uS) E9⟩)))))
theorem tu(e:j7 a=true)(h:j7 b=true):XT (.table [a,b] (some o)) E {E with tab:=f9 E.tab [a,b] o} [] []:=P1 λP g K z' z' z' z'=>by
 exact enter VI rt rt (Z3 (uh rfl (P8 rfl (by kernel_rfl) (by kernel_rfl) (ZZ rfl (by kernel_rfl) (by kernel_rfl) (⟨cI e h,j9 (AR tS) E9⟩)))))
theorem vu{small large:kg}{l:LK->yg}(h:Me 1 41 .st [iv small,iv large,.a9 (aw l),iv v] E (.a9 .none) E'):XT (.join small large l v) E E' [] []:=P1 λP g K hB hz e w=>by
 exact enter VI rt rt (Z3 (uh rfl (P8 rfl (by kernel_rfl) (by kernel_rfl) (P8 rfl (by kernel_rfl) (by kernel_rfl) (ZZ rfl (by kernel_rfl) (by kernel_rfl) (Y8 (h P (g.by e w) K hB hz) rt E9))))))
theorem wu{left t:kg}{a j i:AV}{k:KB}{b:Tg->gg d9}(hs:(E.up left).isSome=true)(h:i7 P 1 .st 23 [.g9 .house,iv t] (hp P g K {E with up:=H9 E.up left}) (iv r) b)(q:(sF (.st,[]) .st&&([(0,.g9 .house),(1,.a9 (JY (.edge left t))),(2,a),(3,j),(4,i)].all λp=>gN .st p.2)&&LF (iv r))=true)(A:k .next ⟨[(0,.g9 .house),(1,.a9 (JY (.edge left t))),(2,a),(3,j),(4,i)],[],b⟩):
  (A9 P 1 (.del (.I6 (.var 0) 7) (.sub (.var 1) (.con (.int 1))) (.ex (.met (.var 0) 23 (.cons (.sub (.var 1) (.con (.int 2))) (.nil))) (.nil)))).b (.st,[]) ⟨[(0,.g9 .house),(1,.a9 (JY (.edge left t))),(2,a),(3,j),(4,i)],[],hp P g K E⟩ k:=⟨(rf ..).trans hs,j9 (gJ q6) (Y8 h q A)⟩
theorem xu{left t:kg}(hs:(E.up left).isSome=true)(h:Mz 1 23 .st [iv t] {E with up:=H9 E.up left} (iv r) E'):XT (.edge left t) E E' [] []:=P1 λP g K hB z' e w=>by
 refine enter VI rt rt (Z3 (uh rfl ?_));exact P8 rfl (by kernel_rfl) (by kernel_rfl) (P8 rfl (by kernel_rfl) (by kernel_rfl) (P8 rfl (by kernel_rfl) (by kernel_rfl) (ZZ rfl (by kernel_rfl) (by kernel_rfl) (wu hs (h P (g.by e w) K hB λz' z' q=>Bool.noConfusion q) rt E9))))
theorem yu(h:E.ls (.b8,a)=some (l++[d]))(e:f9 E.ls (.b8,a) l (.b8,b)=some (l2++[d2]))(b1:l.length<=1000000)(b2:l2.length<=1000000):XT (.apart a b) E {E with ls:=f9 (f9 E.ls (.b8,a) l) (.b8,b) l2} [] []:=P1 λP g K z' hz i w=>by
 refine enter VI rt rt (Z3 (uh rfl ?_));refine P8 rfl (by kernel_rfl) (by kernel_rfl) (P8 rfl (by kernel_rfl) (by kernel_rfl) ?_);refine P8 rfl (by kernel_rfl) (by kernel_rfl) (P8 rfl (by kernel_rfl) (by kernel_rfl) ?_);refine ZZ rfl (by kernel_rfl) (by kernel_rfl) ?_;haveI e1:∀{l d},(l++[d]).map AV.a9=l.map .a9++[.a9 d]:=λ{l d}=>Ng ..;refine Y9 h (R9 h (hz _ _ rfl) (R9 h (hz _ _ rfl) ?_));refine⟨l.map .a9,.a9 d,e1,b9 b1,j9 (X2 (g:=g.by _ _) (hz _ _ rfl) (eg _ h) rfl) ?_⟩;exact Y9 e (R9 e (hz _ _ rfl) (R9 e (hz _ _ rfl) (⟨l2.map .a9,.a9 _,e1,b9 b2,j9 (X2 (g:=g.by _ _) (hz _ _ rfl) (eg _ e) rfl) E9⟩)))
theorem cz(hs:E.P9 t=some (r,s))(h:Me 1 42 .st [iv t,iv a,iv b] E (.a9 .none) E'):XT (.watch t a b) E E' [] [(t,r,s)]:=λP g K z' z' hB hz z' hl=>⟨g,⟨rfl,rfl,rfl⟩,by
 rw [Fg];refine enter VI rt rt (Z3 (uh rfl ?_));refine P8 rfl (by kernel_rfl) (by kernel_rfl) (P8 rfl (by kernel_rfl) (by kernel_rfl) ?_);refine P8 rfl (by kernel_rfl) (by kernel_rfl) (P8 rfl (by kernel_rfl) (by kernel_rfl) ?_);refine P8 rfl (by kernel_rfl) (by kernel_rfl) (ZZ rfl (by kernel_rfl) (by kernel_rfl) ?_);refine k9 (eg (kf _) hs) (⟨b9 (b9 (bg hl (by decide))),j9 (Sy (c:=(t,r,s))) ?_⟩);exact Y8 (h P (g.by _ _) K hB hz) rt E9⟩
theorem su(h:(E.d8 t).isSome=true):XT (.told t) E {E with d8:=H9 E.d8 t} [] []:=P1 λP g K z' z' z' z'=>by
 refine enter VI rt rt (Z3 (uh rfl ?_));refine P8 rfl (by kernel_rfl) (by kernel_rfl) (P8 rfl (by kernel_rfl) (by kernel_rfl) ?_);refine P8 rfl (by kernel_rfl) (by kernel_rfl) (P8 rfl (by kernel_rfl) (by kernel_rfl) ?_);exact P8 rfl (by kernel_rfl) (by kernel_rfl) (P8 rfl (by kernel_rfl) (by kernel_rfl) (⟨(rf ..).trans h,j9 (cM q6) E9⟩))
variable{E1 E2 Ea Eb Ec:G9}{r1 r2 t0:kg}{w:M5}{spot:yg}{st:dg kg}
theorem eM{l:dg kg}:up (up (hp P g K E) .marks (.list true ((zs l).map .a9))) .house (.inst P.C (H5 E.clash E.u0))=hp P g K {E with marks:=l}:=
 (eg (λb=>up b .house _) (GR rfl)).trans (R4 rfl)
theorem WV:up (up (hp P g K E) .queue (.list true [])) .house (.inst P.C (H5 E.clash E.u0))=hp P g K {E with queue:=[]}:=
 (eg (λb=>up b .house _) (BR (l:=[]) rfl)).trans (R4 rfl)
theorem CR{l:dg kg}:up (up (hp P g K E) .news (.list true ((zs l).map .a9))) .house (.inst P.C (H5 E.clash E.u0))=hp P g K {E with news:=l}:=
 (eg (λb=>up b .house _) (fM rfl)).trans (R4 rfl)
inductive fH:yg->G9->G9->Prop
 |stop {spot:yg} {E:G9}:E.queue.length<=1000000->E.queue.length<=spot\/E.clash.isSome=true->fH spot E E
 |same {spot:yg} {E E1:G9} {a b r:kg} {w:M5}:E.queue.length<=1000000->E.clash=none->E.queue[spot]? =some (a,b,w)->E.root a=some r->E.root b=some r->fH (spot+1) E E1->fH spot E E1
 |join {spot:yg} {E E1 E2:G9} {a b r1 r2:kg} {w:M5}:E.queue.length<=1000000->E.clash=none->E.queue[spot]? =some (a,b,w)->E.root a=some r1->E.root b=some r2->r1≠r2->Me 5 16 .st [iv a,iv b,.a9 (yZ w)] E (.a9 .none) E1->fH (spot+1) E1 E2->fH spot E E2
theorem fW{c:gg (dg kg)}:isNone (jw c)=c.isNone:=by cases c<;>rfl
theorem oN{q:kg×kg×M5}{l:dg (kg×kg×M5)}(h:l[spot]? =some q):r7 spot ((l.map qD).map AV.a9)=some (.a9 (qD q)):=by
 show((l.map _).map _)[spot]? =_;refine rL (Wg) ?_;refine rL (Wg) (rL h ?_);rfl
theorem qF{l:dg (kg×kg×M5)}:(((l.map qD).map AV.a9).length:kg)=l.length:=eg _ ((ng _).trans (ng _))
theorem PA{q:kg×kg×M5}{l:dg (kg×kg×M5)}(h:l[spot]? =some q):decide (spot<(((l.map qD).map AV.a9).length:kg))=true:=Dg (by
 refine rL qF ?_;exact Int.ofNat_lt.mpr (List.getElem?_eq_some_iff.mp h).1)
theorem bx(h:fH spot E E1):∃N,∀{P g K k},BK K->(∀κ t,false=false->g.z κ t=false)->(∀x,k .next ⟨[(0,.g9 .house),(1,iv x)],[],hp P g K E1⟩)->
  wh ((A9 P 5 (.and (.cmp .lt (.var 1) (.blt .len (.cons (.I6 (.var 0) 12) (.nil)))) (.cmp .isv (.I6 (.var 0) 13) (.con .none)))).t (.st,[])) ((A9 P 5 (.n6 [2,3,4] (.sub (.I6 (.var 0) 12) (.var 1)) (.set 1 (.bin .add (.var 1) (.con (.int 1))) (.ifs (.cmp .ne (.sub (.I6 (.var 0) 1) (.var 2)) (.sub (.I6 (.var 0) 1) (.var 3))) (.ex (.met (.var 0) 16 (.cons (.var 2) (.cons (.var 3) (.cons (.var 4) (.nil))))) (.nil)) (.nil) (.nil))))).b (.st,[])) (IC.keep [0,1]) k N ⟨[(0,.g9 .house),(1,iv spot)],[],hp P g K E⟩:=by
 induction h with
 | @stop spot E hl h=>
  refine⟨1,λ{P g K k} hB z' d=>⟨b9 (b9 hl),?_⟩⟩;by_cases e:E.queue.length<=spot
  ·exact v9 (Ig (rL qF (Int.not_lt.mpr (Int.ofNat_le.mpr e)))) (d _)
  ·exact D9 (Dg (rL qF (Int.ofNat_lt.mpr (Qb e)))) (v9 (fW.trans ((h.elim (λq=>(e q).elim) λq=>by cases c:E.clash with|none=>haveI q:=c▸q;exact Bool.noConfusion q|some l=>rfl))) (d _))
 | @same _ E _ a b r w hl m f j o _ i=>
  refine i.elim λN i=>⟨N+1,λ{P g K k} hB hz d=>⟨b9 (b9 hl),D9 (PA f) (D9 (fW.trans (eg _ m)) ?_)⟩⟩;exact k9 (oN f) ⟨b9 (b9 hl),(k9 (Q9 j) (k9 (Q9 o) (v9 (p6 rfl) (b4 (i hB hz d) rfl))))⟩
 | @join _ E E1 z a b A y w hl m f j o hn M _ i=>
  refine i.elim λN i=>⟨N+1,λ{P g K k} hB hz d=>⟨b9 (b9 hl),D9 (PA f) (D9 (fW.trans (eg _ m)) ?_)⟩⟩;refine k9 (oN f) ⟨b9 (b9 hl),?_⟩;refine k9 (Q9 j) (k9 (Q9 o) ?_);refine D9 (G6 hn) (Y8 (M P g K hB hz) ?_ ?_)
  ·cases w<;>rfl
  exact b4 (i hB hz d) rfl
theorem Vk(h:fH 0 E E1):Me 6 15 .st [] E (.a9 .none) {E1 with queue:=[]}:=λP g K hB hz=>by
 exact enter Ki rt rt ((bx h).imp λN h=>h hB hz λs=>(⟨E6 (w:=true),j9 WV E9⟩))
inductive Add:dg kg->G9->G9->Prop
 |nil {E:G9}:Add [] E E
 |known {E E1:G9} {st:dg kg} {t:kg}:(st++[t]).length<=1000000->(E.root t).isSome=true->Add st E E1->Add (st++[t]) E E1
 |new {E E1 E2:G9} {st as:dg kg} {t:kg}:(st++[t]).length<=1000000->(E.root t).isSome=false->Mz 2 9 .all [iv t] E (.a9 (.tuple (zs as))) E->as=[]\/(∃x,as=[x]/\(E.root x).isSome=true)->Me 4 11 .st [iv t] E (.a9 .none) E1->Add st E1 E2->Add (st++[t]) E E2
 |more {E E1:G9} {st:dg kg} {t x:kg}:(st++[t]).length+1<=1000000->(E.root t).isSome=false->Mz 2 9 .all [iv t] E (.a9 (.tuple (zs [x]))) E->(E.root x).isSome=false->Add (st++[t]++[x]) E E1->Add (st++[t]) E E1
theorem eW{l:dg AV}{a:AV}:r7 (-1) (l++[a])=some a:=by
 unfold r7;refine rL (og (by decide)) (rL jg ?_);refine rL (Kf (Ag _)) ?_;rw [cc];rfl
theorem EV{v:wg}(h:(E.root t).isSome=v):(!((E.root t).map iv).isSome)= !v:=eg _ ((rf ..).trans h)
noncomputable abbrev eo(t:kg)(s:dg AV)(b:Tg->gg d9):IC:=⟨[(0,.g9 .house),(1,iv t),(2,.g9 (.Z8 0))],[(0,.list true s)],b⟩
theorem Lh{l:dg AV}{a:AV}:decide ((0:kg)<(l++[a]).length)=true:=Dg (rL jg (Int.ofNat_lt.mpr (ye _)))
theorem lh{c:Type}{l m:dg c}{k:yg}(h:(l++m).length<=k):l.length<=k:=bg (bg (Cg _ _) (Bg List.length_append.symm)) h
theorem Dx(h:Add st E E1):∃N,∀{P:y8} {g:q9} {K:R8} {k:KB},BK K->(∀κ t,false=false->g.z κ t=false)->k .next (eo t0 [] (hp P g K E1))->
  wh ((A9 P 6 (.cmp .gt (.blt .len (.cons (.var 2) (.nil))) (.con (.int 0)))).t (.st,[])) ((A9 P 6 (.set 3 (.sub (.var 2) (.neg (.con (.int 1)))) (.set 4 (.lst (.nil)) (.ifs (.cmp .notin (.var 3) (.I6 (.var 0) 1)) (.EY 4 (.comp (.var 5) [5] true (.met (.var 0) 9 (.cons (.var 3) (.nil))) (.cmp .notin (.var 5) (.I6 (.var 0) 1)) [0]) (.nil)) (.nil) (.ifs (.cmp .gt (.blt .len (.cons (.var 4) (.nil))) (.con (.int 0))) (.ex (.lm (.var 2) .extend (.cons (.var 4) (.nil))) (.nil)) (.ex (.lm (.var 2) .pop (.nil)) (.ifs (.cmp .notin (.var 3) (.I6 (.var 0) 1)) (.ex (.met (.var 0) 11 (.cons (.var 3) (.nil))) (.nil)) (.nil) (.nil))) (.nil)))))).b (.st,[])) (IC.keep [0,1,2]) k N (eo t0 ((zs st).map .a9) (hp P g K E)):=by
 induction h with
 |nil=>exact⟨1,λ{P g K k} z' z' c=>⟨Xg _,c⟩⟩
 | @known E E1 s t b h _ i=>
  refine i.elim λN i=>⟨N+1,λ{P g K k} hB hz c=> ?_⟩;refine rR X9 ?_;have b':((zs s).map AV.a9++[iv t]).length<=1000000:=by refine rL X9 ?_;exact H7 b
  refine⟨b',D9 Lh ?_⟩;refine k9 eW ⟨b',?_⟩;refine v9 (EV h) (⟨Xg _,?_⟩);refine⟨(zs s).map AV.a9,iv t,rfl,H7 (lh b),?_⟩;exact v9 (EV h) (b4 (i hB hz c) rfl)
 | @new E E1 l s as t b h M q f _ i=>
  refine i.elim λN i=>⟨N+1,λ{P g K k} hB hz c=> ?_⟩;refine rR X9 ?_;haveI b':((zs s).map AV.a9++[iv t]).length<=1000000:=by refine rL X9 ?_;exact H7 b
  refine⟨b',D9 Lh ?_⟩;refine k9 (a:=iv t) eW ⟨b',?_⟩;refine D9 (EV h) (q8 (M P g K hB λz' z' q=>Bool.noConfusion q) rt rt ?_);refine q.elim (λq=> ?_) λq=>q.elim λx q=> ?_
  ·refine rL q ?_;refine⟨Xg _,?_⟩;refine⟨Xg _,?_⟩;refine⟨(zs s).map AV.a9,iv t,rfl,H7 (lh b),?_⟩;refine D9 (EV h) (q8 (f P g K hB hz) rt rt ?_);exact b4 (i hB hz c) rfl
  ·refine rL q.1 ?_;refine⟨(by decide:1<=1000000),v9 (EV q.2) ?_⟩;refine⟨Xg _,?_⟩;refine⟨(zs s).map AV.a9,iv t,rfl,H7 (lh b),?_⟩;refine D9 (EV h) ?_;refine q8 (f P g K hB hz) rt rt ?_;exact b4 (i hB hz c) rfl
 | @more E E1 s t x b h M q _ i=>
  refine i.elim λN i=>⟨N+1,λ{P g K k} hB hz c=> ?_⟩;have e:(zs (s++[t]++[x])).map AV.a9=(zs s).map AV.a9++[iv t]++[iv x]:=by rw [X9,X9]
  refine rR X9 ?_;haveI b':((zs s).map AV.a9++[iv t]).length+1<=1000000:=by refine rL X9 (rL MY ?_);exact b
  refine⟨Pf b',D9 Lh ?_⟩;refine k9 eW ⟨Pf b',?_⟩;refine D9 (EV h) (q8 (M P g K hB λz' z' q=>Bool.noConfusion q) rt rt ?_);refine⟨(by decide:1<=1000000),D9 (EV q) ?_⟩;refine⟨(by decide:1<=1000000),?_⟩;refine⟨b',?_⟩;haveI:=i hB hz c;rw [e] at this;exact b4 this rfl
theorem Yk(h:Add [t] E E1)(C:Me 6 15 .st [] E1 (.a9 .none) E2):Me 7 10 .st [iv t] E (.a9 .none) E2:=λP g K hB hz=>by
 exact enter Oi rt rt (⟨λy z=>(List.mem_singleton.mp z)▸trivial,((Dx h).imp λN w=>b4 (w hB hz (Y8 (C P g K hB hz) rt E9)) rfl)⟩)
theorem Xk{m:kg}(A:Me 7 10 .st [iv a] E (.a9 .none) Ea)(B:Me 7 10 .st [iv b] Ea (.a9 .none) Eb)(hl:Eb.queue.length<=1000000)(C:Me 6 15 .st [] {Eb with queue:=Eb.queue++[(a,b,.mk m)]} (.a9 .none) Ec):Me 8 14 .st [iv a,iv b,.a9 (.int m)] E (.a9 .none) Ec:=λP g K hB hz=>by
 exact enter Li rt rt (Y8 (A P g K hB hz) rt (Y8 (B P g K hB hz) rt ⟨b9 (b9 hl),j9 (UV _ rfl) (q8 (C P g K hB hz) rt rt E9)⟩))
variable{Ed:G9}{l' sm lg va vb:kg}{us rs ms:dg kg}{κ κ':LK}{Ll Ls:LK->dg vg}
noncomputable abbrev jR(a r:kg)(d:vg)(s l:kg)(us:dg kg):dg (yg×AV):=[(0,.g9 .house),(1,iv a),(2,iv r),(3,.a9 d),(4,iv s),(5,iv l),(6,.a9 (.list (zs us)))]
noncomputable def NA:M:=jT 10 (.ite (jD (jE .ne J8 (Yi 0)) (jE .ne J9 (Yi 0))) (jM J0 25 (Y2 J8 J9)) (jM J0 20 (Y1 J4))) (jI (jE .isv bQ (jK .none)) (jX (jM J0 33 (Y1 J5)) jN) (jX (jM J0 17 (Y1 bQ)) jN) jN)
noncomputable def OA(kk:M):M:= .ex (.lm (.sub (.I6 (.var 0) 2) (.var 5)) .extend (.cons (.sub (.I6 (.var 0) 2) (.var 4)) (.nil))) (.ex (.lm (.sub (.I6 (.var 0) 3) (.var 5)) .extend (.cons (.sub (.I6 (.var 0) 3) (.var 4)) (.nil))) (.ex (.lm (.sub (.I6 (.var 0) 5) (.var 5)) .extend (.cons (.sub (.I6 (.var 0) 5) (.var 4)) (.nil))) (.ex (.lm (.sub (.I6 (.var 0) 6) (.var 5)) .extend (.cons (.sub (.I6 (.var 0) 6) (.var 4)) (.nil)))
   (.dV [8,9] (.cons (.sub (.I6 (.var 0) 4) (.var 4)) (.cons (.sub (.I6 (.var 0) 4) (.var 5)) (.nil))) (.ifs (.cmp .eq (.var 9) (.con (.int 0))) (.W1 (.var 8) (.I6 (.var 0) 4) (.var 5) (.nil)) (.nil) kk)))))
noncomputable def EK:M:=jG [4,5] (Y2 (jS (Ya 1) J1) (jS (Ya 1) J2)) (jX (jM J0 22 (Y3 J1 J2 J3)) (jT 6 (jB .list (Y1 (jS (Ya 3) J4))) (jH false [7] true J6 (jX (jM J0 19 (Y1 J7)) jN) [0,1,2,3,4,5,6] (jX (jL (Ya 15) .append (Y1 (jU (Y5 (Ys "join") J4 J5 (jM J0 18 (Y1 J5)) (jS (Ya 4) J5))))) (jH true [7] true (jS (Ya 2) J4) (jY J5 (Ya 1) J7 jN) [0,1,2,3,4,5,6] (OA (jH false [7] true J6 (jX (jM J0 13 (Y1 J7)) jN) [0,1,2,3,4,5,6,8,9] NA)))))))
theorem fy{l:dg kg}(h:cZ (λt E E'=>Mz 3 19 .st [iv t] E (.a9 .none) E') l E E1)(hB:BK K):∀{k},k .next ⟨jR l' r d sm lg us,[],hp P g K E1⟩->
  lp ((A9 P 4 (.ex (.met (.var 0) 19 (.cons (.var 7) (.nil))) (.nil))).b (.st,[])) (U5 true [7]) (IC.keep [0,1,2,3,4,5,6]) k ((zs l).map .a9) ⟨jR l' r d sm lg us,[],hp P g K E⟩:=by
 induction h with
 |nil=>exactλa=>a
 |cons h _ i=>
  intro k a;exact q8 (h P g K hB λz' z' q=>Bool.noConfusion q) rt rt (o8 (i a) rfl)
theorem er{l:dg kg}(h:cZ (λt E E'=>Mz 3 13 .st [iv t] E (.a9 .none) E') l E E1)(hB:BK K):∀{k},k .next ⟨jR l' r d sm lg us++[(8,iv va),(9,iv vb)],[],hp P g K E1⟩->
  lp ((A9 P 4 (.ex (.met (.var 0) 13 (.cons (.var 7) (.nil))) (.nil))).b (.st,[])) (U5 true [7]) (IC.keep [0,1,2,3,4,5,6,8,9]) k ((zs l).map .a9) ⟨jR l' r d sm lg us++[(8,iv va),(9,iv vb)],[],hp P g K E⟩:=by
 induction h with
 |nil=>exactλa=>a
 |cons h _ i=>
  intro k a;exact q8 (h P g K hB λz' z' q=>Bool.noConfusion q) rt rt (o8 (i a) rfl)
theorem QF{u:Mo}:∀{l},(∀t∈l,j7 t=true)->∀{E k},k .next ⟨jR l' r d sm lg us,[],hp P g K {E with root:=t3 l lg E.root}⟩->
  lp ((A9 P n (.W1 (.var 5) (.I6 (.var 0) 1) (.var 7) (.nil))).b u) (U5 true [7]) (IC.keep [0,1,2,3,4,5,6]) k ((zs l).map .a9) ⟨jR l' r d sm lg us,[],hp P g K E⟩:=by
 intro l e;induction l with
 |nil=>exactλh=>h
 |cons t l m=>
  intro E k h;exact⟨e t (.head _),j9 (qW z8) (o8 (m (λs q=>e s (.tail _ q)) (E:={E with root:=f9 _ t _}) h) rfl)⟩
def JF(l' r:kg)(d:vg)(sm lg:kg)(us:dg kg)(va vb:kg)(E E1:G9):Prop:=∀(P:y8) (g:q9) (K:R8),BK K->(∀κ t,false=false->g.z κ t=false)->(A9 P 4 NA).b (.st,[]) ⟨jR l' r d sm lg us++[(8,iv va),(9,iv vb)],[],hp P g K E⟩ (Eh (.a9 .none) (hp P g K E1))
theorem kr(h8:va≠0)(h9:vb≠0)(M:Mz 2 25 .all [iv va,iv vb] E (.a9 (.list (zs rs))) E)(hm:E.marks.length<=1000000):JF l' r d sm lg us va vb E {E with clash:=some rs,u0:=E.marks.length}:=λP g K hB hz=>by
 refine D9 (G6 h8) (D9 (G6 h9) (q8 (M P g K hB λz' z' q=>Bool.noConfusion q) rt rt ?_));exact q8 (fw hm P g K hB λz' z' q=>Bool.noConfusion q) rt rt E9
theorem ir(h:va=0\/vb=0)(M:Mw 3 20 .all [iv sm] E (.a9 .none) E)(T:Me 4 33 .all [iv lg] E (.a9 .none) E1):JF l' r d sm lg us va vb E E1:=λP g K hB hz=>by
 have z:∀κ t,wa κ=false->g.z κ t=false:=λκ t z'=>hz κ t rfl;by_cases h8:va=0
 ·refine v9 (p6 h8) (q8 (M P g K hB z) rt rt ?_);exact Y8 (T P g K hB hz) rt E9
 ·refine D9 (G6 h8) (v9 (p6 (h.elim (λe=>(h8 e).elim) id)) (q8 (M P g K hB z) rt rt ?_));exact Y8 (T P g K hB hz) rt E9
theorem gr(h:va=0\/vb=0)(M:Mw 3 20 .all [iv sm] E (.a9 (.list (zs rs))) E)(hm:E.marks.length<=1000000):JF l' r d sm lg us va vb E {E with clash:=some rs,u0:=E.marks.length}:=λP g K hB hz=>by
 have z:∀κ t,wa κ=false->g.z κ t=false:=λκ t z'=>hz κ t rfl;by_cases h8:va=0
 ·refine v9 (p6 h8) (q8 (M P g K hB z) rt rt ?_);exact q8 (fw hm P g K hB λz' z' q=>Bool.noConfusion q) rt rt E9
 ·refine D9 (G6 h8) (v9 (p6 (h.elim (λe=>(h8 e).elim) id)) (q8 (M P g K hB z) rt rt ?_));exact q8 (fw hm P g K hB λz' z' q=>Bool.noConfusion q) rt rt E9
theorem WY{F:IC->Prop}{K':KB}{c:IC}(q:F c):IW F K' .next c:=q
theorem gR{a b:dg vg}:a.map AV.a9++b.map AV.a9=(a++b).map AV.a9:=(Ng ..).symm
theorem vh{a b:dg vg}{k:yg}(h:(a++b).length<=k):(a.map AV.a9).length+b.length<=k:=by rw [ng,<-jg];exact h
theorem MI{f:LK×kg->gg (dg vg)}(e:κ≠κ'):f9 f (κ',t) l (κ,s)=f (κ,s):=e9 λz=>e (eg (·.1) z)
noncomputable def I3(f:LK×kg->gg (dg vg))(t:kg)(Ll Ls:LK->dg vg):LK×kg->gg (dg vg):=f9 (f9 (f9 (f9 f (.mem,t) (Ll .mem++Ls .mem)) (.use,t) (Ll .use++Ls .use)) (.b8,t) (Ll .b8++Ls .b8)) (.C9,t) (Ll .C9++Ls .C9)
theorem gy{kk:M}{K':KB}(hz:∀κ t,false=false->g.z κ t=false)(hl:∀κ,E.ls (κ,lg)=some (y κ))(hs:∀κ,E.ls (κ,sm)=some (L κ))(z:E.val sm=some va)(v2:E.val lg=some vb)(B:j7 lg=true)(w:∀κ,(y κ++L κ).length<=1000000)
  (q:(A9 P n kk).b (.st,[]) ⟨jR l' r d sm lg us++[(9,iv vb),(8,iv va)],[],hp P g K {E with ls:=I3 E.ls lg y L,val:=if vb=0 then f9 E.val lg va else E.val}⟩ K'):
  (A9 P n (OA kk)).b (.st,[]) ⟨jR l' r d sm lg us,[],hp P g K E⟩ K':=by
 refine Y9 (hl .mem) (Y9 (hs .mem) (R9 (hl .mem) (hz _ _ rfl) (R9 (hl .mem) (hz _ _ rfl) (R9 (hs .mem) (hz _ _ rfl) ?_))));refine⟨L .mem,rfl,vh (w _),j9 (X2 (hz _ _ rfl) (eg _ (hl .mem)) gR) ?_⟩;generalize e1:f9 E.ls _ _=f1;haveI j:=λκ h=>e1▸(MI h).trans (hl κ);haveI i:=λκ h=>e1▸(MI h).trans (hs κ);haveI e:=j .use LK.noConfusion;haveI p:=i .use LK.noConfusion;refine Y9 e (Y9 p (R9 e (hz _ _ rfl) (R9 e (hz _ _ rfl) (R9 p (hz _ _ rfl) ?_))));refine⟨L .use,rfl,vh (w _),j9 (X2 (hz _ _ rfl) (eg _ e) gR) ?_⟩;generalize e2:f9 f1 _ _=f2;haveI a:=e2▸(MI LK.noConfusion).trans (j .b8 LK.noConfusion);haveI o:=e2▸(MI LK.noConfusion).trans (i .b8 LK.noConfusion);refine Y9 a (Y9 o (R9 a (hz _ _ rfl) (R9 a (hz _ _ rfl) (R9 o (hz _ _ rfl) ?_))));refine⟨L .b8,rfl,vh (w _),j9 (X2 (hz _ _ rfl) (eg _ a) gR) ?_⟩;generalize e3:f9 f2 _ _=f3;haveI c:=e3▸(MI LK.noConfusion).trans (e2▸(MI LK.noConfusion).trans (j .C9 LK.noConfusion));haveI u:=e3▸(MI LK.noConfusion).trans (e2▸(MI LK.noConfusion).trans (i .C9 LK.noConfusion));refine Y9 c (Y9 u (R9 c (hz _ _ rfl) (R9 c (hz _ _ rfl) (R9 u (hz _ _ rfl) ?_))));refine⟨L .C9,rfl,vh (w _),j9 (X2 (hz _ _ rfl) (eg _ c) gR) ?_⟩;generalize e4:f9 f3 _ _=f4;haveI A:I3 _ _ _ _=f4:=by refine rR e4 (rR e3 (rR e2 (rR e1 ?_)));rfl
 haveI q:=A▸q;refine k9 (eg (kf _) z) (k9 (eg (kf _) v2) ?_);by_cases h:vb=0
 ·rw [xg h] at q;exact D9 (Q8 h) ⟨B,j9 (TV z8) q⟩
 ·rw [og h] at q;exact v9 (H8 h) q
noncomputable abbrev G9.jn(E:G9)(sm lg:kg)(ms:dg kg)(Ll Ls:LK->dg vg)(va vb:kg):G9:={E with trail:=E.trail++[.join sm lg (λκ=>(Ll κ).length) vb],root:=t3 ms lg E.root,ls:=I3 E.ls lg Ll Ls,val:=if vb=0 then f9 E.val lg va else E.val}
theorem Qu(m:E.root l'=some sm)(i:E.root r=some lg)(c:Mz 2 22 .st [iv l',iv r,.a9 d] E (.a9 .none) Ea)(e:Ea.ls (.use,sm)=some (zs us))(a:cZ (λt E E'=>Mz 3 19 .st [iv t] E (.a9 .none) E') us Ea Eb)
  (hl:∀κ,Eb.ls (κ,lg)=some (Ll κ)) (hs:∀κ,Eb.ls (κ,sm)=some (Ls κ)) (h:Ls .mem=zs ms) (v:Eb.val sm=some va) (v2:Eb.val lg=some vb) (o:∀t∈ms,j7 t=true) (p:j7 lg=true)
  (f:∀κ,(Ll κ++Ls κ).length<=1000000) (b2:us.length<=1000000) (j:Eb.trail.length<=1000000)
  (H:cZ (λt E E'=>Mz 3 13 .st [iv t] E (.a9 .none) E') us (Eb.jn sm lg ms Ll Ls va vb) Ed) (u:JF l' r d sm lg us va vb Ed E1) (hB:BK K) (hz:∀κ t,false=false->g.z κ t=false):
  (A9 P 4 EK).b (.st,[]) ⟨[(0,.g9 .house),(1,iv l'),(2,iv r),(3,.a9 d)],[],hp P g K E⟩ (Eh (.a9 .none) (hp P g K E1)):=by
 haveI z:∀κ t,true=false->g.z κ t=false:=λz' z' q=>Bool.noConfusion q;refine k9 (Q9 m) (k9 (Q9 i) ?_);refine q8 (c P g K hB z) rt rt (Y9 e (R9 e (hz _ _ rfl) ?_));refine⟨zs _,rfl,b9 b2,?_⟩;refine o8 (fy a hB ?_) rfl;refine WY (q8 (Uk hl (λκ=>lh (f _)) P g K hB z) rt rt ?_);refine k9 (eg (kf _) v2) (⟨b9 (b9 j),j9 (A8 (.join _ _ _ vb) rfl) ?_⟩);haveI hm:=(hs .mem).trans (eg _ h);refine gX hm (hz _ _ rfl) (Y9 hm (iX hm ⟨I8,?_⟩));refine o8 (QF o ?_) rfl;exact A3 hm (hz _ _ rfl) (WY (gy hz hl hs v v2 p f (o8 (er H hB (u P g K hB hz)) rfl)))
theorem vp{a b l:kg}{e c:dg vg}(i:E.root l=some a)(f:E.root r=some b)(m:E.ls (.mem,a)=some e)(m2:E.ls (.mem,b)=some c)(b1:e.length<=1000000)(b2:c.length<=1000000)
  (s:∀x y,(c.length<e.length/\x=r/\y=l)\/(¬c.length<e.length/\x=l/\y=r)->∀P g K,BK K->(∀κ t,false=false->g.z κ t=false)->(A9 P 4 EK).b (.st,[]) ⟨[(0,.g9 .house),(1,iv x),(2,iv y),(3,.a9 d)],[],hp P g K E⟩ (Eh (.a9 .none) (hp P g K E1))):
  Me 5 16 .st [iv l,iv r,.a9 d] E (.a9 .none) E1:=λP g K hB hz=>by
 refine enter Ji rt rt (k9 (Q9 i) (Y9 m (R9 m (hz _ _ rfl) ⟨b9 b1,?_⟩)));refine k9 (Q9 f) (Y9 m2 (R9 m2 (hz _ _ rfl) ⟨b9 b2,?_⟩));by_cases h:c.length<e.length
 ·exact D9 (Dg (by rw [ng,ng];exact Int.ofNat_lt.mpr h)) (s r l (.inl ⟨h,rfl,rfl⟩) P g K hB hz)
 ·exact v9 (Ig (by rw [ng,ng];exactλq=>h (Int.ofNat_lt.mp q))) (s l r (.inr ⟨h,rfl,rfl⟩) P g K hB hz)
variable{y m one other:kg}{dd:vg}{vs:dg kg}{l1:dg vg}
theorem zM(h:E.clash=none):(!isNone (jw E.clash))=false:=eg _ (fW.trans (eg _ h))
theorem Iu(A:Me 7 10 .st [iv a] E (.a9 .none) Ea)(B:Me 7 10 .st [iv b] Ea (.a9 .none) Eb)(hc:Eb.clash=none)(ha:Eb.root a=some r)(hb:Eb.root b=some r)(M:Mz 2 25 .all [iv a,iv b] Eb (.a9 (.list (zs rs))) Eb)(hl:rs.length<=30)(hm:Eb.marks.length<=1000000):Me 8 26 .st [iv a,iv b,iv m] E (.a9 .none) {Eb with clash:=some (T7 rs m),u0:=Eb.marks.length}:=λP g K hB hz=>by
 have zz:∀κ t,true=false->g.z κ t=false:=λz' z' q=>Bool.noConfusion q;refine enter Vp rt rt (Y8 (A P g K hB hz) rt (Y8 (B P g K hB hz) rt (v9 (zM hc) ?_)));refine k9 (Q9 ha) (k9 (Q9 hb) (D9 (Q8 rfl) ?_));exact q8 (M P g K hB zz) rt rt (q8 (Ku hl P g K hB zz) rt rt (q8 (fw hm P g K hB zz) rt rt E9))
theorem Ju(A:Me 7 10 .st [iv a] E (.a9 .none) Ea)(B:Me 7 10 .st [iv b] Ea (.a9 .none) Eb)(w:Eb.clash=none)(u:Eb.root a=some one)(C:Eb.root b=some other)(hn:one≠other)(j:Eb.ls (.b8,one)=some l1)(q:Eb.ls (.b8,other)=some l2)(b1:l1.length<=1000000)(b2:l2.length<=1000000)(D:Eb.trail.length<=1000000)
  (T:Me 4 33 .all [iv one] {Eb with ls:=f9 (f9 Eb.ls (.b8,one) (l1++[D4 (a,b,m)])) (.b8,other) (l2++[D4 (a,b,m)]),trail:=Eb.trail++[.apart one other]} (.a9 .none) Ec):Me 8 26 .st [iv a,iv b,iv m] E (.a9 .none) Ec:=λP g K hB hz=>by
 refine enter Vp rt rt (Y8 (A P g K hB hz) rt (Y8 (B P g K hB hz) rt (v9 (zM w) ?_)));refine k9 (Q9 u) (k9 (Q9 C) (v9 (H8 hn) ?_));haveI e1:∀{l d},l.map AV.a9++[.a9 d]=(l++[d]).map .a9:=λ{l d}=>by refine rL Ng ?_;rfl
 haveI h:f9 Eb.ls (.b8,one) (l1++[D4 (a,b,m)]) _=some l2:=(e9 λe=>hn (eg (·.2) e).symm).trans q;refine Y9 j (R9 j (hz _ _ rfl) (R9 j (hz _ _ rfl) ?_));refine⟨b9 b1,j9 (X2 (hz _ _ rfl) (eg _ j) e1) ?_⟩;refine Y9 h (R9 h (hz _ _ rfl) (R9 h (hz _ _ rfl) ?_));refine⟨b9 b2,j9 (X2 (hz _ _ rfl) (eg _ h) e1) ?_⟩;exact⟨b9 (b9 D),j9 (A8 _ rfl) (q8 (T P g K hB hz) rt rt E9)⟩
theorem Nk(ha:E.root a=some one)(hb:E.root b=some other)(ht:j7 t=true)(h1:E.ls (.C9,one)=some (zs us))(h2:one≠other->E.ls (.C9,other)=some (zs vs))(b1:us.length<=1000000)(b2:one≠other->vs.length<=1000000)(b3:E.trail.length<=1000000)
  (T:Mw 3 34 .all [iv t] {E with P9:=f9 E.P9 t (a,b),ls:=if one=other then f9 E.ls (.C9,one) (zs (us++[t])) else f9 (f9 E.ls (.C9,one) (zs (us++[t]))) (.C9,other) (zs (vs++[t])),trail:=E.trail++[.watch t one other]} (.a9 .none) Ec):Me 4 32 .st [iv t,iv a,iv b] E (.a9 .none) Ec:=λP g K hB hz=>by
 have z:∀κ t,wa κ=false->g.z κ t=false:=λκ t z'=>hz κ t rfl;refine enter wi rt rt (k9 (Q9 ha) (k9 (Q9 hb) ⟨ht,j9 (dM (z8 (x:=(a,b)))) ?_⟩));refine Y9 h1 (R9 h1 (hz _ _ rfl) (R9 h1 (hz _ _ rfl) ?_));refine⟨H7 b1,j9 (X2 (E:={E with P9:=f9 E.P9 t (a,b)}) (hz _ _ rfl) (eg ë h1) X9) ?_⟩;by_cases e:one=other
 ·rw [xg e] at T;refine v9 (p6 e) (⟨b9 (b9 b3),j9 (A8 (.watch t one other) rfl) ?_⟩);exact Y8 (T P g K hB z) rt E9
 ·rw [og e] at T;have h2':f9 E.ls (.C9,one) (zs (us++[t])) (.C9,other)=some (zs vs):=(e9 λq=>e (eg (·.2) q).symm).trans (h2 e);refine D9 (G6 e) (Y9 h2' (R9 h2' (hz _ _ rfl) (R9 h2' (hz _ _ rfl) ?_)));refine⟨H7 (b2 e),j9 (X2 (hz _ _ rfl) (eg ë h2') X9) ?_⟩;refine⟨b9 (b9 b3),j9 (A8 (E:={E with P9:=f9 E.P9 t (a,b),ls:=_}) (.watch t one other) rfl) ?_⟩;exact Y8 (T P g K hB z) rt E9
theorem ez(hs:(E.P9 t).isSome=true):Me 8 31 .st [iv t] E (.a9 .none) E:=λP g K hB hz=>by
 exact enter bq rt rt (D9 ((rf ..).trans hs) E9)
theorem Hu{as:dg kg}(T:JW K t (S "=") [x,y] dd)(hs:E.P9 t=none)(A:Me 7 10 .st [iv x] E (.a9 .none) Ea)(B:Me 7 10 .st [iv y] Ea (.a9 .none) Eb)(W:Me 4 32 .st [iv t,iv x,iv y] Eb (.a9 .none) Ec)(hB:BK K)(hz:∀κ t,false=false->g.z κ t=false):i7 P 8 .st 31 [.g9 .house,iv t] (hp P g K E) (.a9 .none) (hp P g K Ec):=by
 haveI d:(lay (.str (S "="))&&lay (.str (S "=")))=true:=by kernel_rfl
 haveI q:gZ (.str (S "=")) (.str (S "="))=true:=by kernel_rfl
 exact enter bq rt rt (v9 ((rf ..).trans (eg _ hs)) (q8 (np hB) rt rt (q8 (xx T hB.l.1 o5) rt rt (N8 d (D9 q (q8 (wx T hB.l.2.1 o5) rt rt (Y8 (A P g K hB hz) rt (Y8 (B P g K hB hz) rt (q8 (W P g K hB hz) rt rt E9)))))))))
theorem Gu(q:Ap t x)(hs:E.P9 t=none)(A:Me 7 10 .st [iv t] E (.a9 .none) Ea)(B:Me 7 10 .st [iv 1] Ea (.a9 .none) Eb)(W:Me 4 32 .st [iv t,iv t,iv 1] Eb (.a9 .none) Ec):Me 8 31 .st [iv t] E (.a9 .none) Ec:=λP g K hB hz=>by
 haveI e:(lay (.str (S "app"))&&lay (.str (S "=")))=true:=by kernel_rfl
 haveI d:gZ (.str (S "app")) (.str (S "="))=false:=by kernel_rfl
 exact enter bq rt rt (v9 ((rf ..).trans (eg _ hs)) (q8 (np hB) rt rt (q8 (xx (hB.a t x q) hB.l.1 o5) rt rt (N8 e (v9 d (Y8 (A P g K hB hz) rt (Y8 (B P g K hB hz) rt (q8 (W P g K hB hz) rt rt E9))))))))
theorem zu(hs:E.P9 t=some (a,b))(h:E.d8 t=some none)(M:Mz 2 25 .all [iv a,iv b] E (.a9 (.list (zs rs))) E):Mz 4 36 .all [iv t] E (.a9 (.list (zs rs))) E:=λP g K hB hz=>by
 refine enter Tp rt rt (k9 (eg (kf _) hs) ?_);refine k9 (eg (kf λp=>AV.a9 (ED p)) h) (q8 (M P g K hB hz) rt rt ?_);exact done
theorem Au(hs:E.P9 t=some (a,b))(h:E.d8 t=some (some c))(M:Mz 3 29 .all [iv a,iv b,.a9 (D4 c)] E (.a9 (.list (zs rs))) E):Mz 4 36 .all [iv t] E (.a9 (.list (zs rs))) E:=λP g K hB hz=>by
 exact enter Tp rt rt (k9 (eg (kf _) hs) (k9 (eg (kf λp=>AV.a9 (ED p)) h) (Y8 (M P g K hB hz) rt done)))
end
section
variable{P:y8}{n:yg}{g:q9}{K:R8}{E:G9}{t m:kg}{k:KB}{l sn:dg kg}{f:kg->gg p8}{out:dg vg}
theorem hX{u:Mo}{τ:Tg}{o o':d9}{a:dg (yg×AV)}{t:dg (yg×d9)}{b:Tg->gg d9}{K:Mo->IC->(IC->(IC->Prop)->Prop)->Prop}(e:(L4 t b) τ=some o)(z:Fz o o')(q:τ.ti=none)(k:K (u.1,τ::u.2) ⟨a,t,up b τ o'⟩ λc k=>c.σ τ=some o'/\put c τ o k):V5 u ⟨a,t,b⟩ K:=
 ⟨τ,o,o',e,z,(SY q).mpr ⟨_,rfl,k⟩⟩
theorem GZ{τ:Tg}{o o':d9}{c:dg (yg×AV)}{a:dg (yg×d9)}{b:Tg->gg d9}{k:IC->Prop}(q:τ.ti=none)(e:b τ=some o)(h:k ⟨c,a,b⟩):(⟨c,a,up b τ o'⟩:IC).σ τ=some o'/\put ⟨c,a,up b τ o'⟩ τ o k:=
 ⟨(W8 q).trans u7,(SY q).mpr ⟨b,B9 (λt n=>v8 n) e,h⟩⟩
noncomputable def tv(o:gg p8):kg:=Å o 1 λz'=> -1
theorem CC{o:gg p8}:∃d,ED o= .tuple [.int (tv o),d]:=by cases o<;>exact⟨_,rfl⟩
noncomputable def Zv:M:=jI (jD (jE .isin J3 (Ya 10)) (jE .notin J3 J2)) (jY (jK (.bool true)) J2 J3 (jX (jL J1 .append (Y1 (jU (Y2 J3 (jS (jS (Ya 10) J3) (Yi 0)))))) jN)) jN jN
noncomputable def EI(f:kg->gg p8)(t:kg):vg:=xY (t,tv (f t))
theorem jy{o':d9}{u:Mo}(h:∀t∈l,E.d8 t=some (f t)/\j7 t=true):∀{out sn},(sn++l).Nodup->out.length+l.length<=1000000->∀{k},(∀a,k .next ⟨[(0,.g9 .house),(1,.g9 (.Z8 0)),(2,.g9 (.Z8 1))],[(0,.list true ((out++l.map (EI f)).map .a9)),(1,.p9 true (eL a))],up (hp P g K E) .news o'⟩)->
  lp ((A9 P n Zv).b u) (U5 true [3]) (IC.keep [0,1,2]) k ((zs l).map .a9) ⟨[(0,.g9 .house),(1,.g9 (.Z8 0)),(2,.g9 (.Z8 1))],[(0,.list true (out.map .a9)),(1,.p9 true (eL sn))],up (hp P g K E) .news o'⟩:=by
 induction l with
 |nil=>
  intro out sn _ _ k e;haveI:=e sn;rw [List.map_nil,Fg] at this;exact this
 |cons t l w=>
  intro out sn hn hl k e;haveI i:=h t (.head _);refine(CC (o:=f t)).elim λd hd=> ?_;haveI c:(E.d8 t).map (λp=>AV.a9 _)=some _:=(eg _ i.1).trans (eg (λz=>some _) hd);refine D9 ((eg _ c)) (D9 (eg _ (zS.trans (Ig (λm=>(List.nodup_append.mp hn).2.2 t m t (.head _) rfl)))) ?_);refine⟨i.2,?_⟩;refine k9 c (⟨b9 (bg (Cg _ _) hl),?_⟩);haveI y:f9 (eL sn) t _=eL _:=zX;haveI r:out.map AV.a9++[.a9 _]=(out++[EI f t]).map .a9:=by refine rL Ng ?_;rfl
  haveI v:out++EI f t::l.map _=(out++[EI f t])++l.map (EI f):=by rw [Lg];rfl
  refine o8 (w (λs q=>h s (.tail _ q)) (out:=out++[EI f t]) (sn:=sn++[t]) (by rw [Lg];exact hn) (by rw [jg,Hf];exact(Mf _ 1)▸hl) (λa=> ?_)) ?_
  ·haveI:=e a;exact(v▸this)
  ·refine rR y (rR r ?_);rfl
theorem Bu(h:∀t∈E.news,E.d8 t=some (f t)/\j7 t=true)(hn:E.news.Nodup)(hl:E.news.length<=1000000):Mz 1 35 .st [] E (.a9 (.list (E.news.map (EI f)))) {E with news:=[]}:=λP g K z' z'=>by
 refine enter ui rt rt (⟨E6,?_⟩);refine⟨(λz' z' e=>(by nomatch e)),?_⟩;refine hX (τ:= .news) rfl K5 rfl (⟨I8,?_⟩);refine o8 (jy (sn:=[]) h hn (by rw [Ø,Tf];exact hl) λs=> ?_) rfl;refine GZ rfl rfl (WY ⟨E.news.map _,rfl,?_⟩);refine⟨E6 (w:=true),j9 (CR (l:=[])) done⟩
end
section
noncomputable abbrev G9.at(E:G9)(C:Cor):G9:={E with toCor:=C}
def Kn(f:kg->gg kg)(t:kg):Prop:=∃r,f t=some r
inductive cH(C1 C2:Cor)(en:dg kg)(wl:dg p8):Prop
 |no (k:∀z,Kn C2.root z↔Kn C1.root z) (s:C2.P9=C1.P9) (e:en=[]) (w:wl=[])
 |en (t:kg) (e:en=[t]) (w:wl=[]) (s:C2.P9=C1.P9) (k:∀z,Kn C2.root z↔Kn C1.root z\/z=t) (h:C1.root t=none) (a:t∈TT) (x:∀x,Ap t x->Kn C1.root x)
 |wt (t a b:kg) (e:en=[]) (w:wl=[(t,a,b)]) (s:C2.P9=f9 C1.P9 t (a,b)) (k:∀z,Kn C2.root z↔Kn C1.root z) (h:C1.P9 t=none)
def Un(x:Ent)(C1 C0:Cor)(en:dg kg)(wl:dg p8):Prop:=∀E:G9,XT x (E.at C1) (E.at C0) en wl
inductive vU C:Cor->dg Ent->dg kg->dg p8->Prop
 |same:vU C C [] [] []
 |snoc {k d:Cor} {s:dg Ent} {h e:dg kg} {l w:dg p8} {x:Ent}:vU C k s h l->Un x d k e w->cH k d e w->vU C d (s++[x]) (h++e) (l++w)
inductive t5(E E':G9):Prop
 |mk (seg:dg Ent) (ent:dg kg) (wt:dg p8) (h:E'.trail=E.trail++seg) (b:vU E.toCor E'.toCor seg ent wt)
variable{P:y8}{g:q9}{K:R8}{C C1 C2:Cor}{E E1 E2 E3:G9}{seg s1 s2 tr:dg Ent}{ent en e1 e2 mk0 mk1:dg kg}{wt wl w1 w2:dg p8}{x:Ent}{n spot:yg}{t a b o v m:kg}
theorem vU.trans(a:vU C C1 s1 e1 w1)(b:vU C1 C2 s2 e2 w2):vU C C2 (s1++s2) (e1++e2) (w1++w2):=by
 induction b with
 |same=>rw [Fg,Fg,Fg];exact a
 |snoc b u h i=>rw [<-Lg,<-Lg,<-Lg];exact .snoc i u h
theorem t5.refl:t5 E E:=⟨[],[],[],(Fg _).symm,.same⟩
theorem t5.trans(a:t5 E E1)(b:t5 E1 E2):t5 E E2:=
 a.rec λh e1 w1 t b1=>b.rec λs e w d b2=>⟨h++s,e1++e,w1++w,d.trans (t▸Lg ..),b1.trans b2⟩
theorem t5.from(s:t5 E1 E2)(h:E1.toCor=E.toCor)(t:E1.trail=E.trail):t5 E E2:=s.rec λd k w e b=>⟨d,k,w,t▸e,h▸b⟩
theorem Un.l6(u:Un x E1.toCor E.toCor en wl)(h:E1.trail=E.trail++[x])(q:cH E.toCor E1.toCor en wl):t5 E E1:=⟨[x],en,wl,h,.snoc .same u q⟩
theorem cH.rev(h:cH C C1 en wl):en.reverse=en/\wl.reverse=wl:=by
 cases h with
 |no _ _ e w=>refine rL e (rL w ?_);exact⟨rfl,rfl⟩
 |en _ e w _ _ _ _ _=>refine rL e (rL w ?_);exact⟨rfl,rfl⟩
 |wt _ _ _ e w _ _ _=>refine rL e (rL w ?_);exact⟨rfl,rfl⟩
theorem cH.len(h:cH C C1 en wl):en.length<=1/\wl.length<=1:=by
 cases h with
 |no _ _ e w=>refine rL e (rL w ?_);exact⟨Xg _,Xg _⟩
 |en _ e w _ _ _ _ _=>refine rL e (rL w ?_);exact⟨Ag _,Xg _⟩
 |wt _ _ _ e w _ _ _=>refine rL e (rL w ?_);exact⟨Xg _,Ag _⟩
theorem cH.mono(h:cH C C1 en wl)(z:kg)(k:Kn C.root z):Kn C1.root z:=by
 cases h with
 |no q _ _ _=>exact(q z).mpr k
 |en _ _ _ _ q _ _ _=>exact(q z).mpr (.inl k)
 |wt _ _ _ _ _ _ q _=>exact(q z).mpr k
theorem vU.mono(b:vU C C1 seg ent wt):∀z,Kn C.root z->Kn C1.root z:=by
 induction b with
 |same=>exactλz' h=>h
 |snoc _ _ q i=>exactλz h=>q.mono z (i z h)
theorem vU.len(b:vU C C1 seg ent wt):ent.length<=seg.length/\wt.length<=seg.length:=by
 induction b with
 |same=>exact⟨Ag _,Ag _⟩
 |snoc _ _ q i=>refine rL jg (rL jg (rL jg ?_));exact⟨mf i.1 q.len.1,mf i.2 q.len.2⟩
theorem WA{l:dg Ent}:(((l.map JY).map AV.a9).length:kg)=l.length:=eg _ ((ng _).trans (ng _))
noncomputable abbrev bL(n:AV)(spot:yg)(b:Tg->gg d9):IC:=⟨[(0,.g9 .house),(1,n),(2,iv spot),(3,.g9 (.byr 0)),(4,.g9 (.byr 1))],[],b⟩
theorem yH(b:vU C C1 seg ent wt):∀{P g K en0 wl0},BK K->(∀κ t,false=false->g.z κ t=false)->en0.length+ent.length<=2000->wl0.length+wt.length<=2000->(tr++seg).length<=1000000->∃s,VM g s/\∀{k},k .next (bL (iv m) tr.length (hp P (s.by (en0++ent.reverse) (wl0++wt.reverse)) K {E with toCor:=C,trail:=tr}))->
  wh ((A9 P 6 (.cmp .gt (.blt .len (.cons (.I6 (.var 0) 15) (.nil))) (.var 2))).t (.s2,[])) ((A9 P 6 (.ex (.met (.var 0) 39 (.cons (.lm (.I6 (.var 0) 15) .pop (.nil)) (.cons (.var 3) (.cons (.var 4) (.nil))))) (.nil))).b (.s2,[])) (IC.keep [0,1,2,3,4]) k (seg.length+1) (bL (iv m) tr.length (hp P (g.by en0 wl0) K {E with toCor:=C1,trail:=tr++seg})):=by
 induction b with
 |same=>
  intro P g K _ _ _ _ _ _ hl;refine⟨g,⟨rfl,rfl,rfl⟩,λ{k} p=>⟨b9 (b9 hl),v9 (Ig ?_) ?_⟩⟩
  ·rw [Fg,WA];exact Int.lt_irrefl _
  ·rw [Fg];rw [List.reverse_nil,Fg,List.reverse_nil,Fg] at p;exact p
 | @snoc _ _ seg _ A _ G x b u q i=>
  intro P g K en0 wl0 hB hz h h' hl;rw [jg] at h h';refine rL (jg) ?_;rw [<-Lg] at hl⊢;refine(u {E with trail:=tr++seg} P g K _ _ hB hz (bg (Cg _ _) h) (bg (Cg _ _) h')).elim λs f=> ?_;have y:=λκ t e=>f.1.z▸hz κ t e;refine(i (P:=P) (en0:=en0++A) (wl0:=wl0++G) hB y (by rw [jg,Hf,Mf A.length];exact h) (by rw [jg,Hf,Mf G.length];exact h') (lh hl)).imp λI w=>⟨f.1.trans w.1,λ{k} p=> ?_⟩;refine⟨b9 (b9 hl),D9 (Dg ?_) ?_⟩
  ·refine rL WA ?_;rw [Lg,jg];exact Int.ofNat_lt.mpr (se (jg▸ye _))
  refine⟨((tr++seg).map _).map .a9,.a9 _,w7.symm,b9 (b9 (lh hl)),j9 (zR rfl) ?_⟩;refine q8 f.2 rt rt (b4 (w.2 ?_) rfl);rw [ğ,ğ,q.rev.1,q.rev.2,<-Lg,<-Lg] at p;exact p
theorem pN{s:kg}(h:m=mk1.length+1):(((zs (mk0++s::mk1)).map AV.a9).length-m)=mk0.length:=by
 refine rL MY (rL jg ?_);rw [Yd,h,å];exact Ua ..
theorem nr{s:kg}:r7 mk0.length ((zs (mk0++s::mk1)).map AV.a9)=some (iv s):=by
 unfold r7 zs;refine rL (xg (me _)) (rL Vg ?_);refine rL (Wg) ?_;refine rL (Kf (Ag _)) ?_;rw [cc];rfl
theorem Uy:up (up (hp P g K E) (.byr 0) (.list true [])) (.byr 1) (.list true [])=hp P (g.by [] []) K E:=funext λτ=>by
 cases τ with
 |byr k=>cases k with
  |zero=>rfl
  |succ k=>cases k<;>rfl
 |ls k t=>cases k<;>rfl
 |C7 k=>cases k<;>rfl
 |_=>rfl
theorem XN{l:dg kg}(h:cZ (λt E E'=>Me 4 11 .st [iv t] E (.a9 .none) E') l E E1)(hB:BK K)(hz:∀κ t,false=false->g.z κ t=false):∀{k},k .next (bL (iv m) spot (hp P g K E1))->
  lp ((A9 P 6 (.ex (.met (.var 0) 11 (.cons (.var 5) (.nil))) (.nil))).b (.s2,[])) (U5 true [5]) (IC.keep [0,1,2,3,4]) k ((zs l).map .a9) (bL (iv m) spot (hp P g K E)):=by
 induction h with
 |nil=>exactλd=>d
 |cons h _ i=>
  intro k d;exact q8 (h P g K hB hz) rt rt (o8 (i d) rfl)
theorem BL{l:dg p8}(h:cZ (λc E E'=>Me 4 32 .st [iv c.1,iv c.2.1,iv c.2.2] E (.a9 .none) E') l E E1)(hB:BK K)(hz:∀κ t,false=false->g.z κ t=false):∀{k},k .next (bL (iv m) spot (hp P g K E1))->
  lp ((A9 P 6 (.ex (.met (.var 0) 32 (.cons (.var 5) (.cons (.var 6) (.cons (.var 7) (.nil))))) (.nil))).b (.s2,[])) (U5 false [5,6,7]) (IC.keep [0,1,2,3,4]) k ((l.map D4).map .a9) (bL (iv m) spot (hp P g K E)):=by
 induction h with
 |nil=>exactλd=>d
 |cons h _ i=>
  intro k d;exact q8 (h P g K hB hz) rt rt (o8 (i d) rfl)
theorem cV{d:Type}{vs:dg d}:C3 none none (some (-1)) vs=some vs.reverse:=(og λh=>(by nomatch h.2)).trans (xg ⟨rfl,rfl,rfl⟩)
section
variable{u:Mo}{c:IC}{vs ws:dg AV}{Q:KE}{D:yg}{cl:gg (dg kg)}{v j:kg}{m1 m2 kk:M}{K':KB}{KO':KO}{f:dg (yg×AV)}{i:yg}{a:AV}
theorem iA(q:(A9 P n kk).b u c K'):(A9 P n .nil).b u c (IW (kB (A9 P n kk) u K') K'):=q
theorem gA(q:(A9 P n kk).b u c K'):IW (kB (A9 P n kk) u K') K' .next c:=q
theorem DC(q:(A9 P n m1).e u c λa c1=>(A9 P n m2).e (hold a u) c1 λb d=>Mh d a b λr=>Q r d):(A9 P n (.sub m1 m2)).e u c Q:=q
theorem HC(q:(A9 P n m1).e u c λa c1=>(A9 P n m2).e (hold a u) c1 λb d=>rd b.int? λk=>uI d a λvs=>rd (C3 none (some k) none vs) λw=>vs.length<=1000000/\KO' (.list true w) d):(A9 P n (.qU m1 m2)).o u c KO':=q
theorem WU{y:yg}{τ:Tg}(q:(A9 P n m1).o u c λo c1=>Lq c1 u y i τ o λd=>(A9 P n kk).b u d K'):(A9 P n (.eV y i τ m1 kk)).b u c K':=q
theorem ZI(k:c.ρ.lookup 0=some (.g9 .house))(d:c.σ .house=some (.inst D f))(h:f.lookup i=some a)(q:Q a c):(A9 P n (.I6 (.var 0) i)).e u c Q:=k9 k (k9 (x:=c.σ .house) d (k9 (x:=f.lookup i) h q))
theorem VA(d:c.ρ.lookup 0=some (.g9 .house))(k:c.ρ.lookup 1=some (iv m))(h:c.σ .house=some (.inst D (H5 cl v)))(hm:c.σ .marks=some (.list true vs))(hl:vs.length<=1000000)(e:vs.length-m=j)(q:Q (iv j) c):
  (A9 P n (.bin .sub (.blt .len (.cons (.I6 (.var 0) 16) (.nil))) (.var 1))).e u c Q:=by
 refine k9 d (k9 (x:=c.σ .house) h (k9 (x:=c.σ .marks) hm ⟨hl,k9 k ?_⟩));subst e;exact q
theorem FC{R:dg AV->Prop}(hm:c.σ .marks=some (.list true vs))(e:C3 none (some j) none vs=some ws)(hl:vs.length<=1000000)(q:R ws):rd (iv j).int? λk=>uI c (.g9 .marks) λvs=>rd (C3 none (some k) none vs) λws=>vs.length<=1000000/\R ws:=
 k9 (x:=c.σ .marks) hm (k9 (x:=C3 _ _ _ _) e ⟨hl,q⟩)
theorem qr{R:AV->Prop}(hm:c.σ .marks=some (.list true vs))(e:r7 j vs=some a)(hl:vs.length<=1000000)(q:R a):Mh c (.g9 .marks) (iv j) R:=
 k9 hm (k9 e ⟨hl,q⟩)
end
theorem DN{τ:Tg}{w:wg}{l:dg kg}:C6 τ (.list w ((zs l).map .a9)):=λz' m=>(List.mem_map.mp m).elim λz' e=>e.2▸trivial
noncomputable def IA:M:=jH false [5] true (.fL J3 (.neg (Yi 1))) (jX (jM J0 11 (Y1 J5)) jN) [0,1,2,3,4] (jX (jM J0 15 jN) (jH false [5,6,7] false (.fL J4 (.neg (Yi 1))) (jX (jM J0 32 (Y3 J5 J6 J7)) jN) [0,1,2,3,4] jN))
noncomputable def iF:M:=jQ 0 11 .news (.fz (jZ J5 [5] true (Ya 11) (jE .isin J5 (Ya 10)) [0])) IA
noncomputable def JA:M:=jI (jD (jE .isnot (Ya 13) (jK .none)) (jE .lt (jB .len (Y1 (Ya 16))) (Ya 14))) (.V4 0 13 (jK .none) jN) jN iF
noncomputable def HA:M:=jQ 0 12 .queue (jP jN) JA
noncomputable def Yv:M:=jQ 0 16 .marks (.qU (Ya 16) (jO .sub (jB .len (Y1 (Ya 16))) J1)) (jG [3,4] (Y2 (jW (.byr 0) (jP jN)) (jW (.byr 1) (jP jN))) (.CU (jE .gt (jB .len (Y1 (Ya 15))) J2) (jX (jM J0 39 (Y3 (jL (Ya 15) .pop jN) J3 J4)) jN) [0,1,2,3,4] HA))
noncomputable def Xv:M:=jT 2 (jS (Ya 16) (jO .sub (jB .len (Y1 (Ya 16))) J1)) Yv
theorem uJ{u:Mo}{p:gg (dg kg)}{K':KB}(hl:E.marks.length<=1000000)(q:(A9 P n iF).b u (bL (iv m) spot (hp P g K {E with clash:=if E.marks.length<E.u0 then none else p})) K'):(A9 P n JA).b u (bL (iv m) spot (hp P g K {E with clash:=p})) K':=by
 cases p with
 |none=>
  rw [Oa] at q;exact q
 |some l=>
  refine⟨H7 hl,?_⟩;by_cases h:(E.marks.length)<E.u0
  ·rw [xg h] at q;exact D9 (Dg (rL MY h)) (j9 (R4 rfl) q)
  ·rw [og h] at q;exact v9 (Ig (rL MY h)) (q)
noncomputable def NZ(C:Cor)(l:dg kg):dg kg:=l.filter λt=>(C.d8 t).isSome
theorem TG{K':KB}(hl:E.news.length<=1000000)(q:(A9 P n IA).b (.s2,[]) (bL (iv m) spot (hp P g K {E with news:=NZ E.toCor E.news})) K'):(A9 P n iF).b (.s2,[]) (bL (iv m) spot (hp P g K E)) K':=by
 refine WU (hX (τ:= .news) rfl K5 rfl ?_);refine⟨I8,H7 hl,?_⟩;refine rL d6 (j5 (λt=>(E.d8 t).isSome) _ (λx m K k=> ?_) (λx m z' K k=>k) λy=> ?_)
 ·haveI e:((E.d8 x).map λp=>AV.a9 (ED p)).isSome=(E.d8 x).isSome:=rf ..;exact(eg (λb=>K b _) e).mpr k
 exact GZ rfl (eg (λl=>some _) d6) (⟨DN (w:=true),j9 CR q⟩)
theorem Jk(hm:m=mk1.length+1)(b:vU C E.toCor seg ent wt)(he:ent.length<=1000)(hw:wt.length<=1000)(b1:(mk0++(tr.length:kg)::mk1).length<=1000000)(b2:(tr++seg).length<=1000000)(b3:E.news.length<=1000000)
  (h1:cZ (λt E E'=>Me 4 11 .st [iv t] E (.a9 .none) E') ent {E with toCor:=C,trail:=tr,marks:=mk0,queue:=[],news:=NZ C E.news,clash:=if(mk0.length:kg)<E.u0 then none else E.clash} E1) (h2:Me 6 15 .st [] E1 (.a9 .none) E2)
  (h3:cZ (λc E E'=>Me 4 32 .st [iv c.1,iv c.2.1,iv c.2.2] E (.a9 .none) E') wt E2 E3) (hB:BK K) (hz:∀κ t,false=false->g.z κ t=false):
  ∃g':q9,g'.r=g.r/\g'.z=g.z/\i7 P 7 .s2 38 [.g9 .house,iv m] (hp P g K {E with marks:=mk0++(tr.length:kg)::mk1,trail:=tr++seg}) (.a9 .none) (hp P g' K E3):=by
 refine(yH (P:=P) (m:=m) (E:={E with marks:=mk0}) b (en0:=[]) (wl0:=[]) hB hz (bg (Bg (Tf _)) (bg he (by decide))) (bg (Bg (Tf _)) (bg hw (by decide))) b2).imp' (λg'=>g'.by ent.reverse wt.reverse) λg' w=>⟨w.1.r,w.1.z,?_⟩;have hz':∀κ t,false=false->(g'.by ent.reverse wt.reverse).z κ t=false:=λκ t e=>(eg (λz:LK->kg->wg=>z κ t) w.1.z).trans (hz κ t e);refine enter ri rt rt (v9 (Ig (by rw [hm];exact Int.not_le.mpr (Ģ (me _)))) ?_);refine iA (kk:=Xv) ((Z3 (DC (ZI rfl rfl rfl (VA rfl rfl rfl rfl (H7 b1) (pN hm) (qr rfl nr (H7 b1) ?_))))));refine WU (HC (ZI rfl rfl rfl (VA rfl rfl rfl rfl (H7 b1) (pN hm) (FC rfl (K7.trans (eg some (Q1.trans (eg (λl=>l.map AV.a9) ((List.map_take.symm).trans (eg zs List.take_left)))))) (H7 b1) ?_))));refine⟨DN (w:=true),j9 eM ?_⟩;refine⟨E6,j9 rfl ?_⟩;refine⟨E6,j9 Uy ?_⟩;refine⟨seg.length+1,b4 (w.2 ?_) rfl⟩;refine gA (kk:=HA) (WU ?_);refine⟨E6 (w:=true),j9 WV ?_⟩;refine uJ (E:={E with toCor:=C,queue:=[],trail:=tr,marks:=mk0}) (lh b1) (TG b3 ?_);refine⟨zs ent.reverse,rfl,?_⟩;refine k9 (cV.trans (eg some (by unfold zs;rw [<-Xd,Rc]))) ⟨?_,?_⟩
 ·exact bg (Bg ((ng _).trans (Yc))) (bg he (by decide))
 refine o8 (XN h1 hB hz' ?_) rfl;refine WY (Y8 (h2 P _ K hB hz') rt ?_);refine⟨wt.reverse.map D4,rfl,k9 (cV.trans (eg some (by rw [<-Xd,Rc]))) ⟨?_,?_⟩⟩
 ·exact bg (Bg ((ng _).trans (Yc))) (bg hw (by decide))
 exact o8 (BL h3 hB hz' E9) rfl
end
section
variable{P:y8}{K:R8}{b σ:Tg->gg d9}{τ:Tg}{o y x:d9}
noncomputable def G9.nul:G9:=⟨⟨λz'=>none,λz'=>none,λz'=>none,λz'=>none,λz'=>none,λz'=>none,λz'=>none⟩,[],[],none,0,[],[]⟩
noncomputable def iq(b:Tg->gg d9):q9:=⟨λk t=>b (.ls k t),λz' z'=>false,λk=>b (.byr k),b⟩
theorem M2(h:τ≠ .house):up (up (up σ .house y) τ o) .house x=up (up σ τ o) .house x:=funext λt=>by
 by_cases e:t= .house
 ·refine rL e ?_;rw [u7,u7]
 ·refine rL (v8 e) (rL (v8 e) ?_);by_cases q:t=τ
  ·exact rL q (rL u7 (rL u7 rfl))
  ·exact rL (v8 q) (rL (v8 q) (rL (v8 e) rfl))
theorem tA:up (up σ .house y) .house x=up σ .house x:=funext λt=>by
 by_cases e:t= .house
 ·refine rL e ?_;rw [u7,u7]
 ·exact rL (v8 e) (rL (v8 e) (rL (v8 e) rfl))
noncomputable def Ir(b:Tg->gg d9):Tg->gg d9:=up b .root (.p9 true λz'=>none)
noncomputable def qy(b:Tg->gg d9):Tg->gg d9:=up (Ir b) (.C7 .mem) (.p9 true λz'=>none)
noncomputable def Hr(b:Tg->gg d9):Tg->gg d9:=up (qy b) (.C7 .use) (.p9 true λz'=>none)
noncomputable def Er(b:Tg->gg d9):Tg->gg d9:=up (Hr b) .value (.p9 true λz'=>none)
noncomputable def Dr(b:Tg->gg d9):Tg->gg d9:=up (Er b) (.C7 .b8) (.p9 true λz'=>none)
noncomputable def Cr(b:Tg->gg d9):Tg->gg d9:=up (Dr b) (.C7 .C9) (.p9 true λz'=>none)
noncomputable def Br(b:Tg->gg d9):Tg->gg d9:=up (Cr b) .up (.p9 true λz'=>none)
noncomputable def Ar(b:Tg->gg d9):Tg->gg d9:=up (Br b) .table (.V9 λz'=>none)
noncomputable def zr(b:Tg->gg d9):Tg->gg d9:=up (Ar b) .sides (.p9 true λz'=>none)
noncomputable def wy(b:Tg->gg d9):Tg->gg d9:=up (zr b) .told (.p9 true λz'=>none)
noncomputable def vy(b:Tg->gg d9):Tg->gg d9:=up (wy b) .news (.list true [])
noncomputable def uy(b:Tg->gg d9):Tg->gg d9:=up (vy b) .queue (.list true [])
noncomputable def ty(b:Tg->gg d9):Tg->gg d9:=up (uy b) .trail (.list true [])
noncomputable def ry(b:Tg->gg d9):Tg->gg d9:=up (ty b) .marks (.list true [])
theorem GF(B:eS P K b)(h:∀k,b (.Z8 k)=none):up (ry b) .house (.inst P.C [(0,.g9 .bank),(1,.g9 .root),(2,.g9 (.C7 .mem)),(3,.g9 (.C7 .use)),(4,.g9 .value),(5,.g9 (.C7 .b8)),(6,.g9 (.C7 .C9)),(7,.g9 .up),(8,.g9 .table),(9,.g9 .sides),(10,.g9 .told),(11,.g9 .news),(12,.g9 .queue),(13,(.a9 .none)),(14,(iv 0)),(15,.g9 .trail),(16,.g9 .marks)])=hp P (iq b) K G9.nul:=funext λt=>by
 cases t with
 |bank=>exact B.i
 |bk k=>exact B.k k
 |Z8 k=>exact h k
 |C7 k=>cases k<;>rfl
 |ls k t=>cases k<;>rfl
 |table=>exact eg (λf=>some _) (funext (FV (R:=λ_ o=>none=o.bind λ_=>none) (λ_=>rfl) λ_ _=>rfl))
 |_=>rfl
theorem l0(h:b .house=some (.inst P.C []))(B:eS P K b)(a:∀k,b (.Z8 k)=none):i7 P 1 .sU 0 [.g9 .house,.g9 .bank] b (.a9 .none) (hp P (iq b) K G9.nul):=by
 refine enter c0 rt rt (k9 h ?_);refine j9 rfl (⟨(λt v e=>(by nomatch e)),j9 (M2 Tg.noConfusion) ?_⟩);refine⟨rfl,j9 (σ':=up (qy b) .house (.inst P.C [(0,.g9 .bank),(1,.g9 .root),(2,.g9 (.C7 .mem))])) (M2 Tg.noConfusion) ?_⟩;refine⟨rfl,j9 (M2 Tg.noConfusion) ?_⟩;refine⟨(λt v e=>(by nomatch e)),j9 (M2 Tg.noConfusion) ?_⟩;refine⟨rfl,j9 (M2 Tg.noConfusion) ?_⟩;refine⟨rfl,j9 (M2 Tg.noConfusion) ?_⟩;refine⟨(λt v e=>(by nomatch e)),j9 (M2 Tg.noConfusion) ?_⟩;refine⟨(λt v e=>(by nomatch e)),j9 (M2 Tg.noConfusion) ?_⟩;refine⟨(λt v e=>(by nomatch e)),j9 (M2 Tg.noConfusion) ?_⟩;refine⟨(λt v e=>(by nomatch e)),j9 (M2 Tg.noConfusion) ?_⟩;refine⟨E6 (w:=true),j9 (M2 Tg.noConfusion) ?_⟩;refine⟨E6 (w:=true),j9 (M2 Tg.noConfusion) ?_⟩;refine j9 tA (j9 tA ?_);refine⟨E6 (w:=true),j9 (M2 Tg.noConfusion) ?_⟩;refine⟨E6 (w:=true),j9 ((M2 Tg.noConfusion).trans (GF B a)) ?_⟩;exact E9
end
section
noncomputable def T8(up:Up)(l:dg N9):Up:=λz=>match l.find? (λe=>e.2.1==z) with
 |some e=>some (e.1,e.2.2)
 |none=>if z∈l.map (·.1) then none else up z
noncomputable def rl(l:dg N9):dg N9:=(l.map λe=>(e.2.1,e.1,e.2.2)).reverse
section
variable{up up':Up}{es p:dg N9}{T:dg kg}{a b c z t top:kg}{l l1:dg N9}{k:yg}
theorem fh{l:dg N9}(h:z∉l.map (·.2.1)):l.find? (λe=>e.2.1==z)=none:=by
 rw [List.find?_eq_none];exactλe d g=>h (List.mem_map.mpr ⟨e,d,by simpa using g⟩)
theorem Dh{l:dg N9}{e:N9}(h:(l.map (·.2.1)).Nodup)(d:e∈l):l.find? (λf=>f.2.1==e.2.1)=some e:=by
 induction l with
 |nil=>exact(List.not_mem_nil d).elim
 |cons x l i=>
  have h:=List.nodup_cons.mp h;refine rL (jd) ?_;rcases List.mem_cons.mp d with rfl|d
  ·rw [jf]
  ·exact rL (gf λ(g)=>h.1 (List.mem_map.mpr ⟨e,d,g.symm⟩)) (i h.2 d)
theorem Wy{z:kg}:IR l up z=if z∈l.map (·.1) then none else up z:=by
 induction l generalizing up with
 |nil=>exact(og (λh=>(by nomatch h))).symm
 |cons e l i=>
  refine rL i (rL Cf ?_);by_cases q:z∈l.map (·.1)
  ·exact rL (xg q) (rL (xg (.tail _ q)) rfl)
  ·refine rL (og q) ?_;by_cases d:z=e.1
   ·refine rL (xg (List.mem_cons.mpr (.inl d))) (rL d ?_);exact c7
   ·refine rL (og λh=>(List.mem_cons.mp h).elim d q) ?_;exact Z9 d
theorem zC{z:kg}(h:(l.map (·.2.1)).Nodup):pS l up z=match l.find? (λe=>e.2.1==z) with
  |some e=>some (e.1,e.2.2)
  |none=>up z:=by
 induction l generalizing up with
 |nil=>rfl
 |cons e l i=>
  have h:=List.nodup_cons.mp h;refine rL (i h.2) (rL (jd) ?_);by_cases q:e.2.1=z
  ·refine rL (fh (q▸h.1)) (rL (beq_iff_eq.mpr q) (rR q ?_));exact i9
  ·refine rL (gf q) ?_;cases l.find? _ with
   |some f=>rfl
   |none=>exact e9 (gc q)
theorem mG(T:B7 up)(p:w9 up t l top):pS l (IR l up)=T8 up l:=funext λz=>by
 refine rL (zC (List.nodup_cons.mp (p.SX T)).2) ?_;unfold T8;cases l.find? _ with
 |some f=>rfl
 |none=>exact Wy
theorem mS{E:G9}(T:B7 E.up)(p:w9 E.up t l top)(g:E.up top=none)(d:l.length<=1000)(f:∀e∈l,j7 e.2.1=true):Mz 1 23 .st [iv t] E (iv top) {E with up:=T8 E.up l}:=
 mG T p▸Rk (p.nodup T).1 (λe h=>by refine rL (p.edge h) ?_;rfl) f p g (bg d (by decide))
theorem lV(T:B7 up)(p:w9 up t l top){e:N9}(h:e∈l):T8 up l e.2.1=some (e.1,e.2.2):=by
 haveI:=p.SX T;rw [pc] at this;unfold T8;exact rL (Dh this.2 h) rfl
theorem GS(T:B7 up)(p:w9 up t l top)(d:up top=none):T8 up l t=none:=by
 haveI:=p.SX T;rw [pc] at this;unfold T8;refine rL (fh this.1) ?_;cases p with
 |nil=>simpa using d
 |cons h q=>simp
theorem g0(p:w9 up t l top)(h:z∉t::l.map (·.2.1)):T8 up l z=up z:=by
 unfold T8;refine rL (fh λq=>h (.tail _ q)) ?_;exact rL (og λq=>(p.ups▸h) (Kg _ q)) rfl
theorem w9.rev(p:w9 up a l b)(h:∀e∈l,up' e.2.1=some (e.1,e.2.2)):w9 up' b (rl l) a:=by
 induction p with
 |nil=>exact .nil _
 | @cons t n z y l g q i=>
  show w9 _ z ((((t,n,y)::l).map λe=>(e.2.1,e.1,e.2.2)).reverse) t;exact rL Cf (rL Nd ((i λe d=>h e (.tail _ d)).app (.cons (h _ (.head _)) (.nil _))))
theorem w9.mono(p:w9 up a l b)(h:∀e∈l,up' e.1=up e.1):w9 up' a l b:=by
 induction p with
 |nil=>exact .nil _
 |cons g _ i=>exact .cons ((h _ (.head _)).trans g) (i λe d=>h e (.tail _ d))
theorem w9.hit{N:dg kg}(p:w9 up a l b):((∀e∈l,e.1∉N)/\b∉N)\/∃l1 w,w9 up a l1 w/\w∈N/\∀e∈l1,e.1∉N:=by
 induction p with
 |nil t=>
  by_cases h:t∈N
  ·exact .inr ⟨[],t,.nil _,h,λz' h=>by cases h⟩
  ·exact .inl ⟨(λz' h=>by cases h),h⟩
 | @cons t n z y l g q ih=>
  by_cases h:t∈N
  ·exact .inr ⟨[],t,.nil _,h,λz' h=>by cases h⟩
  ·rcases ih with⟨h1,h2⟩|⟨l1,w,h1,h2,h3⟩
   ·exact .inl ⟨λe he=>(List.mem_cons.mp he).elim (λq=>q▸h) (h1 e),h2⟩
   ·exact .inr ⟨(t,n,y)::l1,w,.cons g h1,h2,λe he=>(List.mem_cons.mp he).elim (λq=>q▸h) (h3 e)⟩
theorem ZU(T:B7 up)(p:w9 up t l top)(v:up top=none):B7 (T8 up l):=by
 intro z;refine Z5 (T z) λL r q o=> ?_;rcases q.hit with⟨n,s⟩|⟨l1,w,d,hw,j⟩
 ·exact⟨L,r,q.mono λe h=>g0 p (n e h),by refine rL (g0 p s) ?_;exact o⟩
 ·have d:=d.mono λe h=>g0 p (j e h);haveI:∃f g,l=f++g/\w9 _ t f w:=by
   have hw:=p.ups▸hw;rcases List.mem_append.mp hw with hw|hw
   ·refine O8 (List.mem_map.mp hw) λe h A=> ?_;subst A;exact u8 (p.at_ h) λx y e1 u p'=>zA p' λz' z'=>(⟨x,_,e1,u⟩)
   ·rw [ke] at hw;subst hw;exact⟨l,[],by simp,p⟩
  obtain⟨f,g,rfl,i⟩:=this;exact⟨_,t,d.app (i.rev λe h=>lV T p (Kg _ h)),GS T p v⟩
theorem L8.rev(F:L8 up es)(p:w9 up t l top)(f:up top=none):L8 (T8 up l) es:=by
 refine⟨λc n y h=> ?_,λx n y h=> ?_,ZU F.top p f⟩
 ·by_cases j:c∈l.map (·.2.1)
  ·refine O8 (List.mem_map.mp j) λe d v=> ?_;subst v;have h:=lV F.top p d▸h;cases h;exact(F.a _ _ _ (p.edge d)).symm
  ·by_cases i:c=t
   ·subst i;have h:=GS F.top p f▸h;cases h
   ·haveI h:=g0 p (by rw [jc,Ċ];exact⟨i,j⟩)▸h;exact F.a _ _ _ h
 ·have g:∀{x n},up x=some (n,y)->T8 up l x=some (n,y)\/T8 up l n=some (x,y):=by
   intro x n q;by_cases hx:x∈l.map (·.1)
   ·refine O8 (List.mem_map.mp hx) λe d v=> ?_;subst v;haveI:=p.edge d;haveI r:=lV F.top p d;haveI r:=(ig (q▸this)).symm▸r;exact .inr r
   ·refine .inl ?_;rw [g0 p,q];refine rL p.ups ?_;intro z;rcases List.mem_append.mp z with z|z
    ·exact hx z
    ·rw [ke] at z;subst z;have q:=f▸q;cases q
  rcases F.b _ _ _ h with q|q
  ·exact g q
  ·exact(g q).symm
theorem oP.rev(u:oP up T)(p:w9 up t l top)(g:B7 up)(j:up top=none):oP (T8 up l) T:=by
 refine⟨λc n y h=> ?_⟩;by_cases i:c∈l.map (·.2.1)
 ·refine O8 (List.mem_map.mp i) λe d v=> ?_;subst v;have h:=lV g p d▸h;cases h;exact(u.key _ _ _ (p.edge d)).symm
 ·by_cases f:c=t
  ·subst f;have h:=GS g p j▸h;cases h
  ·haveI h:=g0 p (by rw [jc,Ċ];exact⟨f,i⟩)▸h;exact u.key _ _ _ h
theorem zQ{d:Type}{l:dg d}(h:l.Nodup):l.reverse.Nodup:=by
 unfold List.Nodup;rw [List.pairwise_reverse];exact h.imp λq=>gc q
theorem Oh(T0:B7 up)(p:w9 up t l top)(ht:up top=none):T8 (T8 up l) (rl l)=up:=by
 funext z;have hn:(rl l).map (·.2.1)=(l.map (·.1)).reverse:=by unfold rl;rw [Xd,Vg];rfl
 have hc:(rl l).map (·.1)=(l.map (·.2.1)).reverse:=by unfold rl;rw [Xd,Vg];rfl
 by_cases h:z∈l.map (·.1)
 ·obtain⟨e,he,rfl⟩:=List.mem_map.mp h;have h1:(e.2.1,e.1,e.2.2)∈rl l:=by unfold rl;rw [Pb];exact List.mem_map.mpr ⟨e,he,rfl⟩
  have:=Dh (by rw [hn];exact zQ (p.nodup T0).1) h1
  conv=>lhs;unfold T8
  simp only at this;rw [this,p.edge he]
 ·have h0:z∉(rl l).map (·.2.1):=by rw [hn,Pb];exact h
  by_cases h2:z∈l.map (·.2.1)
  ·have:z=top:=by
    have:z∈t::l.map (·.2.1):= .tail _ h2;rw [p.ups] at this;rcases List.mem_append.mp this with q|q
    ·exact absurd q h
    ·simpa using q
   subst this
   conv=>lhs;unfold T8
   rw [fh h0,ht];simp only;rw [xg (by rw [hc,Pb];exact h2)]
  ·conv=>lhs;unfold T8
   rw [fh h0];simp only;rw [og (by rw [hc,Pb];exact h2)];rw [fh h2];simp only;rw [og h]
theorem L8.add{left right:kg}{w:M5}(F:L8 up es)(h0:up left=none)(hn:¬T5 es left right):L8 (f9 up left (right,w)) (es++[(left,right,w)]):=by
 refine⟨λc n y h=> ?_,λx n y h=> ?_,λz=> ?_⟩
 ·by_cases e:c=left
  ·subst e;rw [i9] at h;cases h;exact .inl (by simp)
  ·rw [e9 e] at h;exact(F.a _ _ _ h).mono λe he=>Kg _ he
 ·rcases List.mem_append.mp h with h|h
  ·have g:∀{x n},up x=some (n,y)->f9 up left (right,w) x=some (n,y):=by
    intro x n q;rw [e9 λe=>by subst e;rw [h0] at q;cases q];exact q
   exact(F.b _ _ _ h).imp g g
  ·rw [ke] at h;cases h;exact .inl i9
 ·have g:∀{z L r},w9 up z L r->w9 (f9 up left (right,w)) z L r:=λq=>q.mono λe he=>e9 λh=>by
   have:=q.edge he;rw [h,h0] at this;cases this
  obtain⟨L,r,q,hr⟩:=F.top z;by_cases e:r=left
  ·subst e;obtain⟨L2,r2,q2,hr2⟩:=F.top right;refine⟨L++(r,right,w)::L2,r2,(g q).app (.cons i9 (g q2)),?_⟩;rw [e9,hr2];intro h;subst h;exact hn (F.wM q2).symm
  ·exact⟨L,r,g q,by rw [e9 e];exact hr⟩
theorem oP.add{left right:kg}{w:M5}(u:oP up T)(f:left∈T)(d:right∈T):oP (f9 up left (right,w)) T:=by
 refine⟨λc n y h=> ?_⟩;by_cases e:c=left
 ·subst e;rw [i9] at h;cases h;exact⟨f,d⟩
 ·rw [e9 e] at h;exact u.key _ _ _ h
theorem P7{K d:Type}[ef K]{f:K->gg d}{k:K}{u:d}(h:f k=none):H9 (f9 f k u) k=f:=by
 funext z;by_cases e:z=k
 ·subst e;rw [c7,h]
 ·exact rL (Z9 e) (rL (e9 e) rfl)
theorem tQ:(rl l).length=l.length:=by unfold rl;simp
theorem YK{E:G9}{left right:kg}{w:M5}(F:L8 E.up es)(u:oP E.up T)(hT:∀t∈T,j7 t=true)(hk:T.length<=1000)(h1:left∈T)(h2:right∈T)(hn:¬T5 es left right)(hl:E.trail.length<=1000000):
  ∃up' top,Mz 2 22 .st [iv left,iv right,.a9 (yZ w)] E (.a9 .none) {E with up:=up',trail:=E.trail++[.edge left top]}/\L8 up' (es++[(left,right,w)])/\oP up' T/\(up' left).isSome=true/\
   ∀{E2:G9},E2.up=up'->Mz 1 23 .st [iv top] {E2 with up:=H9 E2.up left} (iv left) {E2 with up:=E.up}:=by
 obtain⟨l,top,p,ht⟩:=F.top left;have hr:∀e∈l,j7 e.2.1=true:=λe he=>hT _ (u.key _ _ _ (p.edge he)).2;have hs:=bg (p.short F.top u) hk;have F1:=F.rev p ht;have u1:=u.rev p F.top ht;have t1:=GS F.top p ht;refine⟨f9 (T8 E.up l) left (right,w),top,Sk (mS F.top p ht hs hr) (hT _ h1) hl,F1.add t1 hn,u1.add h1 h2,by rw [i9];rfl,λ{E2} h=> ?_⟩;rw [h,P7 t1];have q:=p.rev λe he=>lV F.top p he;have:=mS (E:={E2 with up:=T8 E.up l}) F1.top q t1 (bg (Bg tQ) hs) λe he=>hT _ (u1.key _ _ _ (q.edge he)).2;rw [Oh F.top p ht] at this;exact this
end
end
section
section
variable{E:G9}{up:Up}{es p:dg N9}{T:dg kg}{a b c z m:kg}{l l1 l2:dg N9}
theorem QT(F:L8 E.up es)(u:oP E.up T)(q:T5 es a b)(hT:∀t∈T,j7 t=true)(ha:j7 a=true)(hk:T.length<=1000):
  ∃L1 L2 m,w9 E.up a L1 m/\w9 E.up b L2 m/\Mz 1 24 .all [iv a,iv b] E (.a9 (.list (zs (L1.map (·.1)++L2.map (·.1))))) E/\(∀p,(∀e∈p,e∈es)->T5 p a b->∀e,e∈L1\/e∈L2->nX p e.1 e.2.1 e.2.2):=by
 obtain⟨La,za,pa,ta⟩:=F.top a;obtain⟨Lb,zb,pb,tb⟩:=F.top b;have hz:zb=za:=by
  obtain⟨z,la,lb,qa,qb,_,_⟩:=F.meet (λz' h=>h) q;have g:∀{x L t l},w9 E.up x L t->E.up t=none->w9 E.up x l z->∃l',w9 E.up z l' t:=by
   intro x L t l h1 h2 h3;rcases h1.cmp h3 with⟨l',e,r⟩|⟨l',e,r⟩
   ·obtain⟨rfl,rfl⟩:=r.stop h2;exact⟨[],.nil _⟩
   ·exact⟨_,r⟩
  obtain⟨l1,g1⟩:=g pa ta qa;obtain⟨l2,g2⟩:=g pb tb qb;exact((g1.ends g2 ta tb).2).symm
 subst hz;have hzl:zb∈a::La.map (·.2.1):=by rw [pa.ups];exact Rg _ (.head _)
 obtain⟨L2,m,h1,h2,h3⟩:∃L2 m,w9 E.up b L2 m/\m∈a::La.map (·.2.1)/\∀e∈L2,e.1∉a::La.map (·.2.1):=(pb.hit).elim (λh=>absurd hzl h.2) id;have hm:∃L1 L3,La=L1++L3/\w9 E.up a L1 m/\w9 E.up m L3 zb:=by
  have h2':=h2;rw [pa.ups] at h2';rcases List.mem_append.mp h2' with h2|h2
  ·obtain⟨e,he,rfl⟩:=List.mem_map.mp h2;obtain⟨l1,l2,e1,p1,p2,_⟩:=pa.at_ he
   exact⟨l1,_,e1,p1,p2⟩
  ·exact⟨La,[],(Fg _).symm,List.mem_singleton.mp h2▸pa,List.mem_singleton.mp h2▸ .nil _⟩
 obtain⟨L1,L3,e0,p1,p3⟩:=hm;have line:a::La.map (·.2.1)=L1.map (·.1)++m::L3.map (·.2.1):=by
  rw [pa.ups,p3.ups,e0,Ng,Lg]
 have M:=Qk pa ta h1 (λe he=>hT _ (u.key _ _ _ (pa.edge he)).2) ha (pa.SX F.top) (by rw [line];exact IQ (p1.nodup F.top).2) h3 (bg (pa.short F.top u) hk) (bg (h1.short F.top u) hk);refine⟨L1,L2,m,p1,h1,?_,λp hp hq=>F.within hp hq p1 h1 λe he l hl=>h3 e he ?_⟩
 ·rw [line,List.take_left'] at M
  ·exact M
  ·rfl
 ·rw [pa.ups];rcases hl.cmp pa with⟨l',e',r⟩|⟨l',e',r⟩
  ·rw [e'];cases r with
   |nil=>exact Rg _ (.head _)
   |cons g r=>exact Kg _ (List.mem_map.mpr ⟨_,Rg _ (.head _),rfl⟩)
  ·exact Rg _ (List.mem_singleton.mpr (r.stop ta).2)
end
theorem z1{t x y:kg}(h:Ap t x)(g:Ap t y):x=y:=(by decide:∀p∈t8,∀q∈t8,p.1=q.1->p.2=q.2) _ h _ g rfl
theorem A0{t x:kg}(h:Ap t x):t∈TT/\x∈TT/\x<t:=(by decide:∀p∈t8,p.1∈TT/\p.2∈TT/\p.2<p.1) _ h
theorem f0:∀t∈TT,j7 t=true:=by decide
def Cl(R:kg->kg->Prop)(a b:kg):Prop:=∀(α:Type) (f:kg->α),(∀x y,R x y->f x=f y)->(∀a b x y,Ap a x->Ap b y->sy a=sy b->f x=f y->f a=f b)->f a=f b
abbrev u9:=kg×kg×kg
def Fs(fs:dg u9)(M:dg kg)(a b:kg):Prop:=∃m,(a,b,m)∈fs/\(m=0\/m∈M)
noncomputable def aS(fs:dg u9)(R:kg->kg->Prop)(x z:kg):M5->Prop
 | .mk m=>(x,z,m)∈fs\/(z,x,m)∈fs
 | .args=>∃a b,Ap x a/\Ap z b/\sy x=sy z/\R a b
theorem aS.mono{fs d:dg u9}{R e:kg->kg->Prop}{x z:kg}{y:M5}(g:∀f∈fs,f∈d)(h:∀a b,R a b->e a b)(j:aS fs R x z y):aS d e x z y:=match y,j with
 | .mk _,j=>j.imp (g _) (g _)
 | .args,⟨a,b,k,n,o,i⟩=>⟨a,b,k,n,o,h a b i⟩
theorem aS.symm{fs:dg u9}{R:kg->kg->Prop}{x z:kg}{y:M5}(h:∀a b,R a b->R b a)(j:aS fs R x z y):aS fs R z x y:=match y,j with
 | .mk _,j=>Or.symm j
 | .args,⟨a,b,e,f,g,d⟩=>⟨b,a,f,e,g.symm,h a b d⟩
def EJ(fs:dg u9)(es:dg N9):Prop:=∀p e q,es=p++e::q->aS fs (T5 p) e.1 e.2.1 e.2.2
structure Ex where
 work:dg (kg×kg)
 seen:dg kg
 found:dg kg
structure tY fs up es:Prop where
 F:L8 up es
 u:oP up TT
 j:EJ fs es
section
variable{fs:dg u9}{E:G9}{es:dg N9}{a b a0 b0:kg}{x:Ex}{rest:dg kg}{y6 y7:kg}
theorem EJ.of(j:EJ fs es){c n:kg}{y:M5}(h:nX es c n y):aS fs (T5 es) c n y:=by
 have g:∀{c n},(c,n,y)∈es->aS _ (T5 es) c n y:=λh=>M8 (List.append_of_mem h) λp q e=>(j p _ q e).mono (λz' h=>h) λa b c=>c.mono λf d=>by refine rL e ?_;exact Kg _ d
 exact h.elim g λh=>(g h).symm λz' z'=>T5.symm
inductive eH(up:Up)(es:dg N9)(a b:kg)(S:kg->Prop):Prop
 |mk (L1 L2:dg N9) (m:kg) (p1:w9 up a L1 m) (p2:w9 up b L2 m) (hin:∀p,(∀e∈p,e∈es)->T5 p a b->∀e,e∈L1\/e∈L2->nX p e.1 e.2.1 e.2.2) (hs:∀e,e∈L1\/e∈L2->S e.1)
theorem eH.mono{up:Up}{S d:kg->Prop}(h:∀c,S c->d c)(c:eH up es a b S):eH up es a b d:=c.casesOn λi L m f p g hs=>⟨i,L,m,f,p,g,λe q=>h _ (hs e q)⟩
def Wk(E:G9)(es:dg N9)(rest:dg kg)(x:Ex)(p q:kg):Prop:=(p,q)∈x.work\/eH E.up es p q λc=>c∈x.seen\/c∈rest
noncomputable def Ix(f:dg kg)(W:kg->kg->Prop)(c n:kg):M5->Prop
 | .mk m=>m=0\/m∈f
 | .args=>∃a b,Ap c a/\Ap n b/\W a b
theorem Ix.mono{f d:dg kg}{W e:kg->kg->Prop}{c n:kg}{y:M5}(k:∀m∈f,m∈d)(h:∀a b,W a b->e a b)(t:Ix f W c n y):Ix d e c n y:=match y,t with
 | .mk _,t=>t.imp id (k _)
 | .args,⟨a,b,i,j,g⟩=>⟨a,b,i,j,h a b g⟩
structure H1(fs:dg u9) E es(a0 b0) rest(x:Ex):Prop where
 s1:x.seen.Nodup/\∀c∈x.seen,c∈TT
 s2:x.found.Nodup/\x.found.length<=x.seen.length/\∀m∈x.found,m≠0/\∃u v,(u,v,m)∈fs
 s3:∀w∈x.work,T5 es w.1 w.2/\w.1∈TT/\w.2∈TT
 s5:∀c∈x.seen,∀n y,E.up c=some (n,y)->Ix x.found (Wk E es rest x) c n y
 s6:Wk E es rest x a0 b0
noncomputable def Ex.mu(x:Ex):yg:=x.work.length+(11-x.seen.length)
noncomputable def oL(f:dg kg)(r:kg):dg kg:=if r=0 then f else nL f r
theorem PJ{f:dg kg}{r z:kg}(h:z∈oL f r):z∈f\/(z=r/\r≠0):=by
 unfold oL nL at h;split at h
 ·exact .inl h
 ·rename_i e;split at h
  ·exact .inl h
  ·exact(List.mem_append.mp h).imp id λm=>⟨List.mem_singleton.mp m,e⟩
theorem NJ{f:dg kg}{r z:kg}(h:z∈f):z∈oL f r:=by
 unfold oL nL;split
 ·exact h
 ·split
  ·exact h
  ·exact Kg _ h
theorem OJ{f:dg kg}{r:kg}:r=0\/r∈oL f r:=by
 unfold oL nL;split
 ·rename_i e;exact .inl e
 ·split
  ·rename_i h;exact .inr h
  ·exact .inr (Rg _ (.head _))
theorem nD{f:dg kg}{r:kg}(h:f.Nodup):(oL f r).Nodup/\(oL f r).length<=f.length+1:=by
 unfold oL nL;split
 ·exact⟨h,Gf _⟩
 ·split
  ·exact⟨h,Gf _⟩
  ·rename_i q;exact⟨f7 h q,Bg jg⟩
noncomputable def Ip(P:y8)(g:q9)(K:R8)(E:G9)(a b y6 y7:kg)(x:Ex):IC:=⟨pE a b y6 y7,xR x.work x.seen x.found,hp P g K E⟩
theorem j8{d:Type}{l:dg d}{x y:d}(h:x∈l++[y]):x∈l\/x=y:=(List.mem_append.mp h).imp id List.mem_singleton.mp
theorem H1.skip{c:kg}{cs:dg kg}(I:H1 fs E es a0 b0 (c::cs) x)(f:c∈x.seen):H1 fs E es a0 b0 cs x:=
 have m:=λz' z'=> .imp id (eH.mono λd q=>q.elim .inl λq=>(List.mem_cons.mp q).elim (λe=> .inl (e▸f)) .inr)
 ⟨I.s1,I.s2,I.s3,λd hd n y h=>(I.s5 d hd n y h).mono (λz' h=>h) m,m _ _ I.s6⟩
theorem H1.step{c m:kg}{cs fo:dg kg}{y:M5}{wk:dg (kg×kg)}(I:H1 fs E es a0 b0 (c::cs) x)(hc:c∉x.seen)(hT:c∈TT)(hu:E.up c=some (m,y))(f1:fo.Nodup/\fo.length<=x.found.length+1)(f2:∀m∈fo,m∈x.found\/m≠0/\∃u v,(u,v,m)∈fs)(f3:∀m∈x.found,m∈fo)(w1:∀w∈wk,w∈x.work\/T5 es w.1 w.2/\w.1∈TT/\w.2∈TT)(w2:∀w∈x.work,w∈wk)
  (t:Ix fo (λp q=>(p,q)∈wk) c m y):H1 fs E es a0 b0 cs ⟨wk,x.seen++[c],fo⟩:=
 have mo:∀p q,Wk E es (c::cs) x p q->Wk E es cs ⟨wk,x.seen++[c],fo⟩ p q:=λz' z'=> .imp (w2 _) (eH.mono λd q=>q.elim (λq=> .inl (Kg _ q)) λq=>(List.mem_cons.mp q).elim (λe=> .inl (e▸Rg _ (.head _))) .inr)
 ⟨⟨f7 I.s1.1 hc,λd hd=>(j8 hd).elim (I.s1.2 d) λe=>e▸hT⟩,⟨f1.1,bg f1.2 (bg (Hg I.s2.2.1) (Bg (jg (bs:=[c])).symm)),λz h=>(f2 z h).elim (I.s2.2.2 z) id⟩,λw h=>(w1 w h).elim (I.s3 w) id,
  λd hd n w h=>(j8 hd).elim (λhd=>(I.s5 d hd n w h).mono f3 mo) λe=>by
   rw [e,hu] at h;have h:=Zf (ig h);rw [e,<-h.1,<-h.2];exact t.mono (λz' h=>h) λz' z'=> .inl,mo _ _ I.s6⟩
theorem cK{c:kg}{s:dg kg}(h:s.Nodup/\∀d∈s,d∈TT)(f:c∉s)(g:c∈TT):s.length+1<=11:=
 V8 (List.nodup_cons.mpr ⟨f,h.1⟩) λd hd=>(List.mem_cons.mp hd).elim (λe=>e▸g) (h.2 d)
theorem OQ(R:tY fs E.up es):∀{x},H1 fs E es a0 b0 rest x->(∀c∈rest,∃e,E.up c=some e)->x.mu<=1000->∃s,H1 fs E es a0 b0 [] s/\s.mu<=x.mu/\∀{P g K k},BK K->k .next (Ip P g K E a b y6 y7 s)->
  lp ((A9 P 1 QO).b (.all,[])) (U5 true [8]) (IC.keep [0,1,2,3,4,5,6,7]) k (rest.map iv) (Ip P g K E a b y6 y7 x):=by
 induction rest with
 |nil=>exactλI z' z'=>⟨_,I,Ag _,λz' n=>n⟩
 |cons c _ v=>
  intro x I A hm;have o:=λd (hd)=>A d (.tail _ hd);by_cases r:c∈x.seen
  ·refine(v (I.skip r) o hm).imp λs h=>⟨h.1,h.2.1,λ{P g K k} hB n=>Kj r λB e=> ?_⟩;exact o8 (h.2.2 hB n) e
  ·refine(A c (.head _)).elim λe t=> ?_;have j:=R.u.key _ _ _ t;have f:=R.j.of (R.F.a _ _ _ t);have u:=cK I.s1 r j.1;have hsz:(x.seen++[c]).length=x.seen.length+1:=jg;have hw:=bg (Cg _ _) hm;cases e with|mk d y=>cases y with
   |mk m=>
    haveI i:(⟨x.work,x.seen++[c],oL x.found m⟩:Ex).mu<=x.mu:=by
     show x.work.length+(11-(x.seen++[c]).length)<=x.work.length+_;refine rL hsz ?_;exact Eg (Nat.sub_le_sub_left (Gf _) _) _
    refine(v (I.step r j.1 t (nD I.s2.1) (λz hz=>(PJ hz).imp id λ(e:z=m/\m≠0)=>e.1▸⟨e.2,f.elim (λh=>⟨_,_,h⟩) λh=>⟨_,_,h⟩⟩) (λz'=>NJ) (λz'=> .inl) (λz' h=>h) OJ) o (bg i hm)).imp λs h=>
     ⟨h.1,bg h.2.1 i,λ{P g K k} hB n=>Jj r (f0 c j.1) t (bg I.s2.2.1 (bg (Pf u) (by decide))) λB e=> ?_⟩
    exact o8 (h.2.2 hB n) e
   |args=>
    refine M8 f λp q f=> ?_;have i:(⟨x.work++[(p,q)],x.seen++[c],x.found⟩:Ex).mu<=x.mu:=by
     show(x.work++[(p,q)]).length+(11-(x.seen++[c]).length)<=x.work.length+(11-x.seen.length);refine rL hsz (rL jg ?_);show x.work.length+1+_<=_;rw [Hf,Mf 1];exact Eg (Nat.sub_lt_sub_left u (be _)) _
    refine(v (I.step r j.1 t ⟨I.s2.1,Gf _⟩ (λz'=> .inl) (λz' h=>h) (λw hw=>(j8 hw).imp id λ(e:w=(p,q))=>e▸⟨f.2.2.2,(A0 f.1).2.1,(A0 f.2.1).2.1⟩) (λz'=>Kg _) ⟨p,q,f.1,f.2.1,Rg _ (.head _)⟩) o (bg i hm)).imp λs h=>
     ⟨h.1,bg h.2.1 i,λ{P g K k} hB n=>Ij hB r (f0 c j.1) t f.1 f.2.1 (bg hw (by decide)) λB e=> ?_⟩
    exact o8 (h.2.2 hB n) e
noncomputable def Hp(P:y8)(g:q9)(K:R8)(E:G9)(a b:kg)(x:Ex):IC:=⟨[(0,.g9 .house),(1,iv a),(2,iv b),(3,.g9 (.Z8 0)),(4,.g9 (.Z8 1)),(5,.g9 (.Z8 2))],xR x.work x.seen x.found,hp P g K E⟩
theorem GX{l:dg (kg×kg)}:((l.map xY).map AV.a9).length=l.length:=(ng _).trans (ng _)
theorem PQ(R:tY fs E.up es):∀{N x},H1 fs E es a0 b0 [] x->x.mu<=1000->x.mu<N->∃s,H1 fs E es a0 b0 [] s/\s.work=[]/\∀{P g K k},BK K->k .next (Hp P g K E a b s)->
  wh ((A9 P 1 (.cmp .gt (.blt .len (.cons (.var 3) (.nil))) (.con (.int 0)))).t (.all,[])) ((A9 P 1 (.n6 [6,7] (.lm (.var 3) .pop (.nil)) (.cY false [8] true (.met (.var 0) 24 (.cons (.var 6) (.cons (.var 7) (.nil)))) QO [0,1,2,3,4,5,6,7] (.nil)))).b (.all,[])) (IC.keep [0,1,2,3,4,5]) k N (Hp P g K E a b x):=by
 intro N;induction N with
 |zero=>exactλz' z' h=>absurd h (Wc _)
 |succ N O=>
  intro x I hm J;have o:=bg (Cg _ _) hm;have G:((x.work.map _).map _).length<=1000000:=bg (Bg GX) (bg o (by decide));refine(ď _).elim (λhw=>⟨x,I,hw,λ{P g K k} hB v=>⟨G,v9 (Ig (by refine rL GX (rL hw ?_);decide)) v⟩⟩) λhw=>M8 hw λr w hw=> ?_;have hw:=Đ▸hw;have f:=hw▸jg;have j:=I.s3 w (hw▸Rg _ (.head _));refine f8 (QT R.F R.u j.1 f0 (f0 _ j.2.1) (by decide)) λH L m D p'=>eP p' λC M B=> ?_;have F:∀p q,Wk E _ [] x p q->Wk E es (H.map (·.1)++L.map (·.1)) ⟨r,x.seen,x.found⟩ p q:=λp q h=>h.elim (λh=>(j8 (hw▸h)).imp id λh=>by
   subst h;exact⟨H,L,m,D,C,B,λe i=> .inr (i.elim (λi=>Kg _ (ya i)) λi=>Rg _ (ya i))⟩) λh=> .inr (h.mono λd q=>q.imp id λq=>(by nomatch q))
  haveI Q:H1 _ E _ _ _ _ ⟨r,x.seen,x.found⟩:=
   ⟨I.s1,I.s2,λV h=>I.s3 _ (hw▸Kg _ h),λd hd S y h=>(I.s5 d hd _ y h).mono (λz' h=>h) F,F _ _ I.s6⟩
  have n:(⟨r,x.seen,x.found⟩:Ex).mu+1=x.mu:=by
   show r.length+(11-x.seen.length)+1=x.work.length+_;refine rL f ?_;exact tf ..
  refine(OQ (a:=a) (b:=b) (y6:=w.1) (y7:=w.2) R Q (λc j=>(List.mem_append.mp j).elim (λj=>(List.mem_map.mp j).elim λe i=>i.2▸⟨_,D.edge i.1⟩) λj=>(List.mem_map.mp j).elim λe i=>i.2▸⟨_,C.edge i.1⟩) (bg (Gf _) (bg (Bg n) hm))).elim λU A=> ?_;haveI hx:=A.2.1;refine(O A.1 (bg hx (bg (Gf _) (bg (Bg n) hm))) (Qg hx (ze (Qg (Bg n) J)))).imp λs u=>⟨u.1,u.2.1,λ{P g K k} hB v=>⟨G,?_⟩⟩;refine D9 (Dg (rL GX (rL f (Int.natCast_pos.mpr (ye _))))) (⟨(r.map _).map .a9,.a9 _,by refine rL hw ?_;exact w7.symm,bg (Bg GX) (bg (Pf (f▸o)) (by decide)),?_⟩);refine Y8 (M P g K hB λz' z' q=>Bool.noConfusion q) rt ?_;show lp _ _ _ _ _ _;exact d6▸A.2.2 hB (b4 (u.2.2 hB v) rfl)
theorem w9.ZA{d:Type}{f:kg->d}{up:Up}{m:kg}{L:dg N9}(p:w9 up a L m)(h:∀e∈L,f e.1=f e.2.1):f a=f m:=by
 induction p with
 |nil=>rfl
 |cons g _ i=>exact(h _ (.head _)).trans (i λe j=>h e (.tail _ j))
theorem eH.ZA{k:Type}{f:kg->k}{S:kg->Prop}{p:dg N9}{up:Up}(c:eH up es a b S)(hp:∀e∈p,e∈es)(q:T5 p a b)(h:∀c n y,S c->up c=some (n,y)->nX p c n y->f c=f n):f a=f b:=c.casesOn λL z' m i g j hs=>
 (i.ZA λe d=>h _ _ _ (hs e (.inl d)) (i.edge d) (j p hp q e (.inl d))).trans (g.ZA λe d=>h _ _ _ (hs e (.inr d)) (g.edge d) (j p hp q e (.inr d))).symm
theorem H1.Jy{α:Type}{f:kg->α}(P:tY fs E.up es)(I:H1 fs E es a0 b0 [] x)(hw:x.work=[])(h1:∀u v,Fs fs x.found u v->f u=f v)(h2:∀a b x y,Ap a x->Ap b y->sy a=sy b->f x=f y->f a=f b){r:dg N9}:∀(p:dg N9),es=r.reverse++p->∀c n y,(c∈x.seen\/c∈([]:dg kg))->E.up c=some (n,y)->nX r.reverse c n y->f c=f n:=by
 induction r with
 |nil=>exactλz' z' z' z' z' z' z' h=>h.elim (λh=>(by nomatch h)) λh=>(by nomatch h)
 |cons e r ih=>
  intro p he c n y hc hu h;rw [Nd] at h;rw [Nd,Lg] at he;have hc':=hc.elim id λh=>(by nomatch h);have J:∀{c n},(c,n,y)∈r.reverse++[e]->nX r.reverse c n y\/aS fs (T5 r.reverse) c n y:=λh=>(j8 h).imp .inl λq=>by
   have:=P.j _ _ _ he;rw [<-q] at this;exact this
  refine(h.elim J λh=>(J h).imp Or.symm λh=>h.symm λz' z'=>T5.symm).elim (ih _ he c n y hc hu) λJ=> ?_;have t:=I.s5 c hc' n y hu;cases y with
  |mk m=>exact J.elim (λg=>h1 _ _ ⟨m,g,t⟩) λg=>(h1 _ _ ⟨m,g,t⟩).symm
  |args=>exact J.elim λa J=>J.elim λb J=>t.elim λa' t=>t.elim λb' t=>h2 c n a b J.1 J.2.1 J.2.2.1 (by
    rw [z1 J.1 t.1,z1 J.2.1 t.2.1] at*;exact t.2.2.elim (λz=>by rw [hw] at z;exact(by nomatch z)) λc=>c.ZA (λf hf=>by rw [he];exact Kg _ hf) J.2.2.2 (ih _ he))
def Told(fs:dg u9)(a b:kg)(l:dg kg):Prop:=∃found:dg kg,l=Ì found/\found.Nodup/\found.length<=11/\(∀m∈found,m≠0/\∃u v,(u,v,m)∈fs)/\Cl (Fs fs found) a b
theorem aJ(l:dg kg):(Ay l).map (·.1)=l:=(Vg ..).trans (Î l)
theorem M3(R:tY fs E.up es){r:kg}(u:E.root a=some r)(v:E.root b=some r)(k:T5 es a b)(j:a∈TT)(i:b∈TT):∃l,Mz 2 25 .all [iv a,iv b] E (.a9 (.list (zs l))) E/\Told fs a b l:=by
 haveI I:H1 fs E es a b [] {work:=[(a,b)],seen:=[],found:=[]}:=
  ⟨⟨uf,(λz' h=>(by nomatch h))⟩,⟨uf,Ag _,(λz' h=>(by nomatch h))⟩,λw hw=>List.mem_singleton.mp hw▸⟨k,j,i⟩,(λz' h=>(by nomatch h)),.inl (.head _)⟩
 refine(PQ (a:=a) (b:=b) R I (by decide:1+(11-0)<=1000) (by decide:1+(11-0)<52)).elim λx h=> ?_;haveI d:=bg h.1.s2.2.1 (V8 h.1.s1.1 h.1.s1.2);refine⟨Ì _,λP g K hB z'=> ?_,x.found,rfl,h.1.s2.1,d,h.1.s2.2.2,λA f s q=> ?_⟩
 ·refine enter Bi rt rt ?_;refine k9 (Q9 u) (k9 (Q9 v) ?_);refine v9 (p6 rfl) (⟨λy z=>(List.mem_singleton.mp z)▸trivial,?_⟩);refine⟨(λz' z' e=>(by nomatch e)),?_⟩;refine⟨(λz' m=>(by nomatch m)),?_⟩;exact⟨52,b4 (h.2.2 hB (⟨bg (Bg (ng _)) (bg d (by decide)),(⟨x.found,eg zs (aJ x.found),Qg d (by decide),done⟩)⟩)) rfl⟩
 ·haveI e:es=es.reverse.reverse++[]:=by rw [Rc,Fg]
  exact h.1.s6.elim (λz=>by rw [h.2.1] at z;exact(by nomatch z)) λc=>c.ZA (λz' h=>h) k λc n y hs o t=>h.1.Jy R h.2.1 s q [] e c n y hs o (by rw [Rc];exact t)
end
end
section
variable{C:Cor}{E:G9}{x:Ent}{n:yg}{t a b o v r s:kg}{κ:LK}{f:LK×kg->gg (dg vg)}{Ll Ls:LK->dg vg}{ln:LK->yg}{l1 l2:dg vg}{d:vg}
theorem LQ{K c:Type}[ef K]{f:K->gg c}{k:K}{u:c}(h:f k=some u):f9 (H9 f k) k u=f:=funext λz=>by
 by_cases e:z=k
 ·exact rL e (rL i9 (rL h rfl))
 ·exact rL (e9 e) (rL (Z9 e) rfl)
theorem N7{K c:Type}[ef K]{f:K->gg c}{k:K}{u v:c}(h:f k=some u):f9 (f9 f k v) k u=f:=funext λz=>by
 by_cases e:z=k
 ·exact rL e (rL i9 (rL h rfl))
 ·exact rL (e9 e) (rL (e9 e) rfl)
theorem KQ{K c:Type}[ef K]{f:K->gg c}{k:K}{u:c}(h:f k=some u):f9 f k u=f:=funext λz=>by
 by_cases e:z=k
 ·exact rL e (rL i9 (rL h rfl))
 ·exact rL (e9 e) rfl
theorem fX{K c:Type}[ef K]{f:K->gg c}{k j:K}{u v:c}(n:k≠j):f9 (f9 f k u) j v=f9 (f9 f j v) k u:=funext λz=>by
 by_cases e:z=k
 ·exact rL (e9 (e▸n)) (rL e (rL i9 (rL i9 rfl)))
 ·refine rL (e9 e) ?_;by_cases g:z=j
  ·exact rL g (rL i9 (rL i9 rfl))
  ·exact rL (e9 g) (rL (e9 g) (rL (e9 e) rfl))
theorem HX{κ κ':LK}(e:s≠t):(κ,s)≠(κ',t):=λz=>e (eg (·.2) z)
theorem DV{κ κ':LK}(e:κ≠κ'):(κ,s)≠(κ',t):=λz=>e (eg (·.1) z)
theorem mW{A:LK->dg vg}:f9 (f9 (f9 (f9 f (.mem,t) (A .mem)) (.use,t) (A .use)) (.b8,t) (A .b8)) (.C9,t) (A .C9) (κ,s)=if s=t then some (A κ) else f (κ,s):=by
 by_cases e:s=t
 ·rw [xg e,e];cases κ with
  |mem=>rw [e9 (DV LK.noConfusion),e9 (DV LK.noConfusion),e9 (DV LK.noConfusion),i9]
  |use=>rw [e9 (DV LK.noConfusion),e9 (DV LK.noConfusion),i9]
  |b8=>rw [e9 (DV LK.noConfusion),i9]
  |C9=>rw [i9]
 ·rw [og e,e9 (HX e),e9 (HX e),e9 (HX e),e9 (HX e)]
theorem W2:I3 f t Ll Ls (κ,s)=if s=t then some (Ll κ++Ls κ) else f (κ,s):=mW (A:=λκ=>Ll κ++Ls κ)
theorem qJ:rM f t Ll ln (κ,s)=if s=t then some ((Ll κ).take (ln κ)) else f (κ,s):=mW (A:=λκ=>(Ll κ).take _)
noncomputable def xK(t:kg):LK->dg vg
 | .mem=>zs [t]
 |_=>[]
theorem Q4:q0 f t (κ,s)=if s=t then some (xK t κ) else f (κ,s):=mW (A:=xK t)
theorem oJ:kM f t (κ,s)=if s=t then none else f (κ,s):=by
 unfold kM;by_cases e:s=t
 ·refine rL (xg e) (rL e ?_);cases κ with
  |mem=>rw [Z9 (DV LK.noConfusion),Z9 (DV LK.noConfusion),Z9 (DV LK.noConfusion),c7]
  |use=>rw [Z9 (DV LK.noConfusion),Z9 (DV LK.noConfusion),c7]
  |b8=>rw [Z9 (DV LK.noConfusion),c7]
  |C9=>rw [c7]
 ·refine rL (og e) ?_;refine rL (Z9 (HX e)) ?_;rw [Z9 (HX e),Z9 (HX e),Z9 (HX e)]
theorem GL(h:C.tab [a,b]=none):Un (.table [a,b] none) {C with tab:=f9 C.tab [a,b] t} C [] []:=λE=>by
 haveI q:=uu (E:=E.at {C with tab:=f9 C.tab [a,b] t}) (eg _ i9);haveI q:=P7 h▸q;exact q
theorem FL(h:C.tab [a,b]=some t)(e:j7 a=true)(g:j7 b=true):Un (.table [a,b] (some t)) {C with tab:=H9 C.tab [a,b]} C [] []:=λE=>by
 haveI q:=tu (E:=E.at {C with tab:=H9 C.tab [a,b]}) (o:=t) e g;haveI q:=LQ h▸q;exact q
theorem LL{left t:kg}{up':Up}(hs:(up' left).isSome=true)(h:∀{c:G9},c.up=up'->Mz 1 23 .st [iv t] {c with up:=H9 c.up left} (iv left) {c with up:=C.up}):Un (.edge left t) {C with up:=up'} C [] []:=λE=>xu hs (h rfl)
noncomputable abbrev Cor.new(C:Cor)(t v:kg):Cor:={C with root:=f9 C.root t t,ls:=q0 C.ls t,val:=f9 C.val t v}
theorem LR(c:C.root t=none)(hm:∀κ,C.ls (κ,t)=none)(h:C.val t=none):(C.new t v).del t=C:=by
 show({C with root:=H9 _ t,ls:=kM _ t,val:=H9 _ t})=C;refine rL (P7 c) ?_;rw [P7 h,show kM (q0 _ t) t=C.ls from funext λp=>by
  cases p with|mk _ s=>
  refine rL oJ (rL Q4 ?_);by_cases e:s=t
  ·refine rL (xg e) ?_;rw [e,hm]
  ·refine rL (og e) ?_;rw [og e]]
theorem SV:(q0 f t (κ,t)).isSome=true:=by refine rL Q4 (rL (xg rfl) ?_);rfl
theorem JL(e:C.root t=none)(hm:∀κ,C.ls (κ,t)=none)(h:C.val t=none):Un (.enter t []) (C.new t v) C [t] []:=λE=>by
 haveI q:=dz (ou (E:=E.at (C.new t v)) (eg _ i9) (λz'=>SV) (eg _ i9));exact(eg (λc=>XT _ _ _ _ _) (LR e hm h)).mp q
theorem IL{h:kg}{l:dg kg}(u:C.root t=none)(hm:∀κ,C.ls (κ,t)=none)(w:C.val t=none)(hn:h≠t)(p:C.ls (.use,h)=some (zs l))(hl:l.length<=1000000):Un (.enter t [h]) {C.new t v with ls:=f9 (q0 C.ls t) (.use,h) (zs (l++[t]))} C [t] []:=λE=>by
 haveI e:f9 (f9 _ _ (zs (l++[t]))) _ _=q0 _ t:=N7 (Q4.trans ((og hn).trans p));have q:=dz (ru (E:=E.at {C.new t v with ls:=f9 _ _ _}) i9 hl (eg _ i9) (λκ=>(eg (λf=>(f (κ,t)).isSome) e).trans SV) (eg _ i9));exact(eg (λc=>XT _ _ _ _ _) (LR u hm w)).mp (e▸q)
noncomputable def Z0(f:kg->gg kg)(l:dg kg)(x:kg):kg->gg kg:=λz=>if z∈l then some x else f z
theorem XU{x:kg}{l:dg kg}:∀{f},t3 l x f=Z0 f l x:=by
 induction l with
 |nil=>exactλ{f}=>funext λz=>(og (λh=>(by nomatch h))).symm
 |cons t g i=>
  exactλ{f}=>(i (f:=f9 f t x)).trans (funext λz=>by
   unfold Z0;by_cases q:z∈g
   ·exact rL (xg q) (rL (xg (pd _ q)) rfl)
   ·refine rL (og q) ?_;by_cases e:z=t
    ·exact rL e (rL i9 (rL (xg (List.mem_cons_self)) rfl))
    ·refine rL (e9 e) ?_;rw [og λh=>(List.mem_cons.mp h).elim e q])
theorem KJ{f:kg->gg kg}{l:dg kg}{x y:kg}(h:∀t∈l,f t=some y):t3 l y (Z0 f l x)=f:=XU.trans (funext λz=>by
 unfold Z0;by_cases q:z∈l
 ·exact rL (xg q) (rL (h z q) rfl)
 ·refine rL (og q) ?_;rw [og q])
theorem HL{small large v:kg}{m2:dg kg}{V:kg->gg kg}(y:small≠large)(B:∀κ,C.ls (κ,large)=some (L κ))(w:f9 V large v=C.val)(l:C.ls (.mem,small)=some (zs m2))(u:∀t∈m2,C.root t=some small)
  (z:j7 large=true) (m:∀t∈m2,j7 t=true) (A:∀κ,(L κ++D κ).length<=1000000):
  Un (.join small large (λκ=>(L κ).length) v) {C with root:=Z0 C.root m2 large,ls:=I3 C.ls large L D,val:=V} C [] []:=λE=>by
 haveI e:rM (I3 _ _ L D) _ (λκ=>L _++D κ) _=C.ls:=funext λp=>by
  cases p with|mk _ s=>
  rw [qJ,W2];by_cases e:s=large
  ·refine rL (xg e) ?_;refine rL e ?_;rw [B,List.take_left]
  ·exact rL (og e) (rL (og e) rfl)
 haveI q:=vu (Ik (E:=E.at {C with root:=Z0 C.root m2 large,ls:=I3 _ _ _ _,val:=V}) (v:=v) (λκ=>W2.trans (xg rfl)) A z (e.symm▸l) m);exact(eg (λc=>XT _ _ _ [] []) (show({C with root:=t3 _ _ _,ls:=rM _ _ _ λκ=>(L _).length,val:=f9 V _ v})=C by rw [e,w,KJ u])).mp q
theorem FP(hn:a≠b)(i:C.ls (.b8,a)=some l1)(h:C.ls (.b8,b)=some l2)(b1:l1.length<=1000000)(b2:l2.length<=1000000):Un (.apart a b) {C with ls:=f9 (f9 C.ls (.b8,a) (l1++[d])) (.b8,b) (l2++[d])} C [] []:=λE=>by
 haveI n:((LK.b8,a))≠(.b8,b):=HX hn;haveI q:=yu (E:=E.at {C with ls:=f9 (f9 C.ls _ (l1++[d])) _ (l2++[d])}) ((e9 n).trans i9) ((e9 n.symm).trans i9) b1 b2;haveI e:f9 (f9 (f9 (f9 _ _ (l1++[d])) _ (l2++[d])) _ _) _ _=C.ls:=by
  exact rL (fX n) (rL (N7 ((e9 n.symm).trans h)) (rL (N7 i) rfl))
 haveI q:=e▸q;exact q
noncomputable def U4(f:LK×kg->gg (dg vg))(t a b:kg)(us vs:dg kg):LK×kg->gg (dg vg):=if a=b then f9 f (.C9,a) (zs (us++[t])) else f9 (f9 f (.C9,a) (zs (us++[t]))) (.C9,b) (zs (vs++[t]))
theorem EP{us vs:dg kg}(z:C.ls (.C9,a)=some (zs us))(A:a≠b->C.ls (.C9,b)=some (zs vs))(hs:C.P9 t=none)(b1:us.length<=1000000)(b2:a≠b->vs.length<=1000000):Un (.watch t a b) {C with P9:=f9 C.P9 t (r,s),ls:=U4 C.ls t a b us vs} C [] [(t,r,s)]:=λE=>by
 by_cases e:a=b
 ·have e1:U4 _ t a b us vs=f9 C.ls _ _:=xg e;have q:=cz i9 (pp (s:=t) (E:=E.at {C with P9:=f9 C.P9 t (r,s),ls:=U4 _ t a b _ _}) ((eg (λf=>f (LK.C9,a)) e1).trans i9) (λn=>(n e).elim) (eg _ i9) b1 b2);rw [xg e] at q;exact(eg (λc=>XT _ _ _ _ _) (show({C with P9:=H9 (f9 _ t _) t,ls:=f9 (U4 _ t a b _ _) _ _})=C by rw [e1,N7 z,P7 hs])).mp q
 ·haveI y:((LK.C9,a))≠(.C9,b):=HX e;have e1:U4 C.ls t a b us vs=f9 _ _ _:=og e;have q:=cz i9 (pp (E:=E.at {C with P9:=f9 C.P9 t (r,s),ls:=U4 _ t a b _ _}) ((eg (λf=>f (LK.C9,a)) e1).trans ((e9 y).trans i9)) (λz'=>(eg (λf=>f9 f _ _ _) e1).trans ((e9 y.symm).trans i9)) (eg _ i9) b1 b2);rw [og e] at q;exact(eg (λc=>XT _ _ _ _ _) (show({C with P9:=H9 (f9 _ t _) t,ls:=f9 _ _ _})=C by rw [e1,fX y,N7 ((e9 y.symm).trans (A e)),N7 z,P7 hs])).mp q
theorem EL{o:gg p8}(h:C.d8 t=none):Un (.told t) {C with d8:=f9 C.d8 t o} C [] []:=λE=>by
 haveI q:=su (E:=E.at {C with d8:=f9 C.d8 t o}) (eg _ i9);haveI q:=P7 h▸q;exact q
end
section
variable{E:G9}{fs:dg u9}{ρ ρ':kg->gg kg}{Q Q':dg N9}{t x r a b o s y:kg}{us:dg kg}{tb:dg kg->gg kg}
def L6(c:kg->gg kg)(a b:kg):Prop:=∃r,c a=some r/\c b=some r
theorem L6.symm(h:L6 ρ a b):L6 ρ b a:=h.imp λz' h=>⟨h.2,h.1⟩
theorem L6.of(h:Kn ρ a)(e:ρ a=ρ b):L6 ρ a b:=h.imp λz' h=>⟨h,e.symm.trans h⟩
def Tab(d:kg->gg kg)(c:dg kg->gg kg):Prop:=∀m t,c m=some t->Kn d t/\∃x r,Ap t x/\d x=some r/\m=[sy t,r]
def Pq(ρ:kg->gg kg)(Q:dg N9)(a b:kg):Prop:=∀(α:Type) (f:kg->α),(∀x y,L6 ρ x y->f x=f y)->(∀e∈Q,f e.1=f e.2.1)->f a=f b
theorem Pq.mono(h:∀x y,L6 ρ x y->L6 ρ' x y)(g:∀e∈Q,Pq ρ' Q' e.1 e.2.1)(p:Pq ρ Q a b):Pq ρ' Q' a b:=λi f c d=>p _ f (λx y e=>c x y (h x y e)) λe m=>g e m _ f c d
theorem Pq.app(p:Pq ρ Q a b):Pq ρ (Q++Q') a b:=p.mono (λz' z' h=>h) λe m z' z' z' c=>c e (Kg _ m)
theorem Pq.gD(p:Pq ρ Q' a b):Pq ρ (Q++Q') a b:=p.mono (λz' z' h=>h) λe m z' z' z' c=>c e (Rg _ m)
def QJ(fs:dg u9)(c:kg->gg kg)(e:N9):Prop:=Kn c e.1/\Kn c e.2.1/\aS fs (L6 c) e.1 e.2.1 e.2.2
theorem QJ.mono{c:dg u9}{e:N9}(d:∀f∈fs,f∈c)(hs:∀a,Kn ρ a->Kn ρ' a)(h:∀x y,L6 ρ x y->L6 ρ' x y)(q:QJ fs ρ e):QJ c ρ' e:=⟨hs _ q.1,hs _ q.2.1,q.2.2.mono d h⟩
def tD(ρ:kg->gg kg)(r:kg)(us:dg kg):Prop:=∀t∈us,Kn ρ t/\∃x,Ap t x/\ρ x=some r
theorem tD.tl(h:tD ρ r (t::us)):tD ρ r us:=λs m=>h s (.tail _ m)
noncomputable def b1(o:gg kg):yg:=ô o.isSome 1 0
noncomputable def cT(tab:dg kg->gg kg)(r:kg):yg:=b1 (tab [0,r])+b1 (tab [1,r])
theorem YI{o:gg kg}:b1 o<=1:=by cases o<;>exact vf rfl
theorem UR{t:dg kg->gg kg}:cT t r<=2:=mf YI YI
theorem PP{a b t c c1 d:yg}(e:a+c<=t+c1)(h:b+c1<=a+d):b+c<=t+d:=ö (by
 rw [xa,Mf b a,<-xa,Mf a c1,xa t,Mf _ a];exact mf e h)
theorem Wq{b:yg}:1+b=0+b+1:=(Mf 1 b).trans (eg _ (Tf b).symm)
theorem gI:sy t=0\/sy t=1:=by
 unfold sy;cases decide (t<9)<;>decide
theorem Zh:[0,r]≠[1,r]:=λe=>absurd (qf e).1 (by decide)
theorem UE{c:dg kg->gg kg}(h:c [sy t,r]=none):cT (f9 c [sy t,r] o) r=cT c r+1:=by
 unfold cT b1;exact gI.elim (λe=>by rw [e] at h⊢;refine rL i9 (rL h ?_);exact Wq) λe=>by rw [e] at h⊢;refine rL i9 (rL h ?_);rfl
theorem VE{c:dg kg->gg kg}(h:c [sy t,r]=some o):cT (H9 c [sy t,r]) r+1=cT c r:=by
 unfold cT b1;exact gI.elim (λe=>by rw [e] at h⊢;refine rL c7 (rL h ?_);exact Wq.symm) λe=>by rw [e] at h⊢;refine rL c7 (rL h ?_);rfl
theorem Tab.key{tab:dg kg->gg kg}(tb:Tab ρ tab)(ha:Ap t x)(hx:ρ x=some r){m:dg kg}(h:tab m=some t):m=[sy t,r]:=(tb m t h).2.elim λx' h=>h.elim λr' h=>by
 rw [h.2.2,<-z1 ha h.1,hx] at*;rw [ig h.2.1]
noncomputable abbrev G9.off(E:G9)(c:dg Ent)(d:dg kg->gg kg):G9:={E with trail:=c,tab:=d}
theorem yv(ha:Ap t x)(hx:E.root x=some r)(hr:j7 r=true)(tb:Tab E.root E.tab)(hl:E.trail.length<=1000):∃tr tb',Mz 3 19 .st [iv t] E (.a9 .none) (E.off tr tb')/\t5 E (E.off tr tb')/\tr.length+cT tb' r<=E.trail.length+cT E.tab r/\∀m o,tb' m=some o↔E.tab m=some o/\o≠t:=by
 have hl:E.trail.length<=1000000:=bg hl (by decide);have no:E.tab [sy t,r]≠some t->∀m o,E.tab m=some o↔E.tab m=some o/\o≠t:=λn m o=>⟨λq=>⟨q,λe=>n (by rw [<-tb.key ha hx (e▸q)];exact e▸q)⟩,ù⟩;cases h:E.tab [sy t,r] with
 |none=>exact⟨E.trail,E.tab,Ou ha hx h,.refl,Ag _,no λe=>by rw [h] at e;exact(by nomatch e)⟩
 |some o=>
  by_cases e:o=t
  ·rw [e] at h;refine⟨E.trail++[.table [sy t,r] (some t)],H9 E.tab [sy t,r],Nu ha hx h hl,(FL h MP hr).l6 rfl (.no (λz'=>Ef) rfl rfl rfl),?_,λm o=> ?_⟩
   ·rw [jg,Hf,Mf _ (cT _ r)];exact Eg (Bg (VE h)) _
   ·by_cases g:m=[sy t,r]
    ·rw [g,c7,h];exact⟨(λq=>(by nomatch q)),λq=>(q.2 (ig q.1).symm).elim⟩
    ·rw [Z9 g];exact⟨λq=>⟨q,λe=>g (tb.key ha hx (e▸q))⟩,ù⟩
  ·exact⟨E.trail,E.tab,Pu ha hx h e,.refl,Ag _,no λg=>e (ig (h.symm.trans g))⟩
theorem xv(hr:j7 r=true):∀{E:G9},tD E.root r us->Tab E.root E.tab->E.trail.length+2<=1000->∃tr tb',cZ (λt E E'=>Mz 3 19 .st [iv t] E (.a9 .none) E') us E (E.off tr tb')/\t5 E (E.off tr tb')/\tr.length+cT tb' r<=E.trail.length+cT E.tab r/\∀m o,tb' m=some o↔E.tab m=some o/\o∉us:=by
 have go:∀{k:yg} {E:G9},tD E.root r us->Tab E.root E.tab->E.trail.length+cT E.tab r<=1000->∃tr tb',cZ (λt E E'=>Mz 3 19 .st [iv t] E (.a9 .none) E') us E (E.off tr tb')/\t5 E (E.off tr tb')/\tr.length+cT tb' r<=E.trail.length+cT E.tab r/\∀m o,tb' m=some o↔E.tab m=some o/\o∉us:=by
  induction us with
  |nil=>exactλ{k E} z' z' z'=>⟨E.trail,E.tab,.nil,.refl,Ag _,λm o=>(â (λh=>(by nomatch h))).symm⟩
  |cons t us ih=>
   intro k E hu tb hl;refine(hu t (.head _)).2.elim λx hx=>(yv hx.1 hx.2 hr tb (bg (Cg _ _) hl)).elim λtr1 h=>h.elim λtb1 h=>((ih (k:=k) (E:=E.off tr1 tb1) hu.tl (λm o q=>tb m o ((h.2.2.2 m o).mp q).1) (bg h.2.2.1 hl)).imp λtr q=>q.imp λtb' q=>⟨.cons h.1 q.1,h.2.1.trans q.2.1,bg q.2.2.1 h.2.2.1,λm o=>(q.2.2.2 m o).trans ?_⟩);rw [h.2.2.2,jc,Ċ];exact and_assoc
 exactλ{E} hu tb hl=>go (k:=0) hu tb (bg (Eg UR _) hl)
noncomputable abbrev G9.lk(E:G9)(d:dg kg->gg kg)(c:dg Ent)(Q:dg N9):G9:={E with tab:=d,trail:=c,queue:=E.queue++Q}
inductive Lk(fs:dg u9)(E:G9)(r:kg)(us:dg kg):Prop
 |mk (tb:dg kg->gg kg) (tr:dg Ent) (Q:dg N9) (c:cZ (λt E E'=>Mz 3 13 .st [iv t] E (.a9 .none) E') us E (E.lk tb tr Q)) (s:t5 E (E.lk tb tr Q)) (len:tr.length+cT E.tab r<=E.trail.length+cT tb r) (l1:tr.length<=E.trail.length+us.length) (ql:Q.length<=us.length) (tab:Tab E.root tb)
  (ext:∀m t,E.tab m=some t->tb m=some t) (qj:∀e∈Q,QJ fs E.root e) (fd:∀t∈us,∃o,tb [sy t,r]=some o/\Pq E.root Q t o)
theorem YX:E.lk E.tab E.trail []=E:=by
 show({E with queue:=E.queue++[]})=E;rw [Fg]
theorem ap(l:Kn E.root t)(i:Ap t x)(hx:E.root x=some r)(D:j7 r=true)(c:Tab E.root E.tab)(hl:E.trail.length<=1000)(B:E.queue.length<=1000):Lk fs E r [t]:=by
 cases h:E.tab [sy t,r] with
 |some o=>
   refine(c _ _ h).1.elim λs j=>(c _ _ h).2.elim λy q=>q.elim λH q=>l.elim λs' p=> ?_;haveI k:=qf q.2.2;haveI e:=(qf k.2).1;by_cases g:s=s'
   ·exact⟨E.tab,E.trail,[],.cons (Ru i hx h j (g▸p)) (YX.symm▸ .nil),YX.symm▸ .refl,Ag _,Gf _,Xg _,c,λz' z' h=>h,(λz' h=>(by nomatch h)),λz m=>by refine rL (List.mem_singleton.mp m) ?_;exact⟨o,h,λC f A z'=>A _ _ ⟨s,g▸p,j⟩⟩⟩
   ·exact⟨E.tab,E.trail,[(t,o,.args)],.cons (Su i hx h j p g (bg B (by decide))) .nil,⟨[],[],[],(Fg _).symm,.same⟩,Ag _,Gf _,Ag _,c,λz' z' h=>h,λG m=>List.mem_singleton.mp m▸⟨l,⟨s,j⟩,x,y,i,q.1,k.1,r,hx,e▸q.2.1⟩,λz m=>by refine rL (List.mem_singleton.mp m) ?_;exact⟨o,h,λC f z' w=>w _ (.head _)⟩⟩
 |none=>
  refine⟨f9 E.tab [sy t,r] t,E.trail++[.table [sy t,r] none],[],.cons (Tu i hx h D (bg hl (by decide))) ?_,?_,?_,Bg jg,Xg _,λm z hm=> ?_,λm z hm=> ?_,(λz' h=>(by nomatch h)),λz m=>by refine rL (List.mem_singleton.mp m) ?_;exact⟨t,i9,λz' z' z' z'=>rfl⟩⟩
  ·show cZ _ [] _ {E with tab:=_,trail:=_,queue:=E.queue++[]};rw [Fg];exact .nil
  ·exact(GL h).l6 rfl (.no (λz'=>Ef) rfl rfl rfl)
  ·refine rL jg ?_;refine rL (UE h) ?_;rw [Hf];exact Bg (eg _ (Mf ..))
  ·by_cases e:m=[sy t,r]
   ·rw [e,i9] at hm;exact ig hm▸⟨l,x,r,i,hx,e⟩
   ·rw [e9 e] at hm;exact c m z hm
  ·refine rL (e9 λe=>by rw [e,h] at hm;exact(by nomatch hm)) ?_;exact hm
theorem rk(R:j7 r=true):∀{E},Tab E.root E.tab->tD E.root r us->E.trail.length+2<=1000->E.queue.length+us.length<=1000->Lk fs E r us:=by
 haveI T:∀{E},Tab E.root E.tab->tD E.root r us->E.trail.length+2<=1000+cT E.tab r->E.queue.length+us.length<=1000->Lk fs E r us:=by
  induction us with
  |nil=>exactλ{E} k z' z' z'=>⟨E.tab,E.trail,[],YX.symm▸ .nil,YX.symm▸ .refl,Ag _,Ag _,Ag _,k,λz' z' h=>h,(λz' h=>(by nomatch h)),λz' h=>(by nomatch h)⟩
  |cons t us P=>
   intro E k C hl B;haveI M:=C t (.head _);refine M.2.elim λx hx=>(ap (fs:=fs) M.1 hx.1 hx.2 R k (ö (bg hl (Eg UR _))) (bg (Cg _ _) B)).casesOn λj i Q c1 S l N q u w K G=> ?_;have w1:Mz 3 13 .st [iv t] E (.a9 .none) (E.lk j i Q):=by cases c1 with|cons c1 A=>cases A;exact c1
   refine(P (E:=E.lk j i Q) u C.tl (PP hl l) ?_).casesOn λc d D A s p m2 H n f F I=> ?_
   ·show(E.queue++Q).length+us.length<=1000;refine rL jg ?_;rw [Hf];exact bg (Eg (bg (Qf q _) (Bg (Mf 1 _))) _) B
   ·haveI e:(E.lk j i Q).lk c d D=E.lk c d (Q++D):=by show({E with tab:=c,trail:=d,queue:=E.queue++Q++D})=_;rw [Lg]
    rw [e] at A s;exact⟨c,d,Q++D,.cons w1 A,S.trans s,PP l p,bg m2 (bg (Qf N _) (Bg (by rw [Hf,Mf [t].length];rfl))),jg▸bg (mf q H) (Bg (Mf ..)),n,λm z h=>f m z (w m z h),λe m=>(List.mem_append.mp m).elim (K e) (F e),λz m=>(List.mem_cons.mp m).elim (λg=>g▸(G t (.head _)).imp λo h=>⟨f _ _ h.1,h.2.app⟩) λm=>(I z m).imp λo h=>⟨h.1,h.2.gD⟩⟩
 exactλ{E} k C hl B=>T k C (bg hl (Cg _ _)) B
end
section
noncomputable def Pa(ps:dg u9):dg u9:=(1,2,0)::ps
noncomputable def UW:dg kg:=[9,10,11,12,13,14,15,16,17,18,19,20]
noncomputable def nS{c:Type}(σ:kg->gg c):yg:=(UW.filter λt=>(σ t).isSome).length
section
variable{α:Type}{ρ ρ':kg->gg kg}{f:kg->gg α}{p p':kg->α->Prop}{k s l t r a b:kg}{x:α}{l1 l2:dg kg}{p1 p2:kg->Prop}{T:dg kg}{q q':kg->wg}{A B:dg vg}{ps:dg u9}{σ:kg->gg (kg×kg)}{g:LK×kg->gg (dg vg)}{κ:LK}{Ll Ls:LK->dg vg}
def Of(ρ:kg->gg kg)(f:kg->gg α)(p:kg->α->Prop):Prop:=(∀t,ρ t=none->f t=none)/\∀r,ρ r=some r->∃a,f r=some a/\p r a
theorem Of.at(h:Of ρ f p)(c:ρ r=some r)(e:f r=some x):p r x:=(h.2 r c).elim λa q=>ig (q.1.symm.trans e)▸q.2
theorem Of.set(h:Of ρ f p)(j:p' k x)(c:∀t,ρ' t=none->ρ t=none/\t≠k)(d:∀r,ρ' r=some r->r≠k->ρ r=some r/\∀a,p r a->p' r a):Of ρ' (f9 f k x) p':=
 ⟨λt q=>(e9 (c t q).2).trans (h.1 t (c t q).1),λr q=>by
  by_cases e:r=k
  ·exact⟨x,(eg _ e).trans i9,e.symm▸j⟩
  ·exact(h.2 r (d r q e).1).imp λb i=>⟨(e9 e).trans i.1,(d r q e).2 b i.2⟩⟩
def tL(l:dg kg)(p:kg->Prop):Prop:=l.Nodup/\∀t,t∈l↔p t
theorem tL.app(c:tL l1 p1)(h:tL l2 p2)(d:∀t,p1 t->p2 t->False):tL (l1++l2) λt=>p1 t\/p2 t:=
 ⟨List.nodup_append.mpr ⟨c.1,h.1,λa i b j e=>d a ((c.2 a).mp i) ((h.2 a).mp (e▸j))⟩,λt=>List.mem_append.trans (Na (c.2 t) (h.2 t))⟩
theorem tL.congr(h:tL l1 p1)(e:∀t,p1 t↔p2 t):tL l1 p2:=⟨h.1,λt=>(h.2 t).trans (e t)⟩
theorem tL.len(h:tL l1 p1)(e:∀t,p1 t->t∈TT):l1.length<=11:=V8 h.1 λt m=>e t ((h.2 t).mp m)
def Lz(l:dg vg)(p:kg->Prop):Prop:=∃m,l=zs m/\tL m p
theorem wU{a b:dg kg}(h:zs a=zs b):a=b:=(List.map_inj_right λz' z' e=>PyData.int.inj e).mp h
theorem Lz.app(c:Lz A p1)(h:Lz B p2)(d:∀t,p1 t->p2 t->False):Lz (A++B) λt=>p1 t\/p2 t:=c.elim λm c=>h.elim λn h=>⟨m++n,c.1▸h.1▸N1,c.2.app h.2 d⟩
theorem Lz.congr(h:Lz A p1)(e:∀t,p1 t↔p2 t):Lz A p2:=h.imp λz' h=>⟨h.1,h.2.congr e⟩
def sq(c:kg->gg kg)(r:kg)(l:dg vg):Prop:=Lz l λt=>c t=some r
def UM(c:kg->gg kg)(r:kg)(l:dg vg):Prop:=Lz l λt=>Kn c t/\∃x,Ap t x/\c x=some r
def sY(c:kg->gg kg)(r v:kg):Prop:=(v=0/\∀t∈VV,c t≠some r)\/(v∈VV/\c v=some r)
def I1(ps:dg u9)(ρ:kg->gg kg)(r:kg)(l:dg vg):Prop:=∃ts:dg p8,l=ts.map D4/\∀c,c∈ts↔c∈ps/\(ρ c.1=some r\/ρ c.2.1=some r)
def Sd(σ:kg->gg (kg×kg))(ρ:kg->gg kg)(r t:kg):Prop:=∃a b,σ t=some (a,b)/\(ρ a=some r\/ρ b=some r)
def D1(σ:kg->gg (kg×kg))(c:kg->gg kg)(r:kg)(l:dg vg):Prop:=∃us,l=zs us/\∀t,t∈us↔Sd σ c r t
noncomputable def jr(ρ:kg->gg kg)(s l:kg)(t:kg):gg kg:=if ρ t=some s then some l else ρ t
theorem IV(h:ρ t=some s):jr ρ s l t=some l:=xg h
theorem lN(h:ρ t≠some s):jr ρ s l t=ρ t:=og h
theorem m7:Kn (jr ρ s l) t↔Kn ρ t:=by
 by_cases h:ρ t=some s
 ·exact⟨λz'=>⟨s,h⟩,λz'=>⟨l,IV h⟩⟩
 ·exact vd λr=>by rw [lN h]
theorem VZ(h:L6 ρ a b):L6 (jr ρ s l) a b:=h.elim λr h=> .of (m7.mpr ⟨r,h.1⟩) (by unfold jr;rw [h.1,h.2])
theorem t6(hn:s≠l):jr ρ s l t=some l↔ρ t=some l\/ρ t=some s:=by
 by_cases h:ρ t=some s
 ·exact⟨λz'=> .inr h,λz'=>IV h⟩
 ·exact(lN h).symm▸(Ma h).symm
theorem p0(hn:r≠l):jr ρ s l t=some r↔ρ t=some r/\r≠s:=by
 by_cases h:ρ t=some s
 ·exact⟨λe=>(hn (ig ((IV h).symm.trans e)).symm).elim,λe=>(e.2 (ig (e.1.symm.trans h))).elim⟩
 ·exact(lN h).symm▸⟨λe=>⟨e,λq=>h (q▸e)⟩,ù⟩
theorem OF(hn:s≠l)(e:L6 (jr ρ s l) a b):L6 ρ a b\/(ρ a=some s/\ρ b=some l)\/(ρ a=some l/\ρ b=some s):=e.elim λr e=>by
 by_cases z:r=l
 ·rw [z] at e;exact((t6 hn).mp e.1).elim (λp=>((t6 hn).mp e.2).elim (λq=> .inl ⟨l,p,q⟩) λq=> .inr (.inr ⟨p,q⟩)) λp=>((t6 hn).mp e.2).elim (λq=> .inr (.inl ⟨p,q⟩)) λq=> .inl ⟨s,p,q⟩
 ·exact .inl ⟨r,((p0 z).mp e.1).1,((p0 z).mp e.2).1⟩
theorem Of.join(h:Of ρ f p)(hl:ρ l=some l)(i:p' l x)(j:∀r,r≠l->r≠s->∀a,p r a->p' r a):Of (jr ρ s l) (f9 f l x) p':=
 h.set i (λt q=>by
  have z:ρ t=none:=by
   cases z:ρ t with
   |none=>rfl
   |some r=>exact(m7.mpr ⟨r,z⟩).elim λz' e=>by rw [q] at e;exact(by nomatch e)
  exact⟨z,λe=>by rw [e,hl] at z;exact(by nomatch z)⟩) λr q n=>haveI q:=(p0 n).mp q;⟨q.1,j r n q.2⟩
theorem Gy:(λr=>I3 g l Ll Ls (κ,r))=f9 (λr=>g (κ,r)) l (Ll κ++Ls κ):=funext λz'=>W2
theorem Of.jx{p p':kg->dg vg->Prop}(h:Of ρ (λr=>g (κ,r)) p)(hl:ρ l=some l)(c:p' l (Ll κ++Ls κ))(d:∀r,r≠l->r≠s->∀a,p r a->p' r a):Of (jr ρ s l) (λr=>I3 g l Ll Ls (κ,r)) p':=by
 refine rL Gy ?_;exact h.join hl c d
theorem I1.app(hn:s≠l)(e:I1 ps ρ l A)(d:I1 ps ρ s B):I1 ps (jr ρ s l) l (A++B):=e.elim λm e=>d.elim λn d=>⟨m++n,by rw [e.1,d.1,Ng],λc=>by
 rw [qc,e.2,d.2,t6 hn,t6 hn,<-and_or_left];exact ud Ef ⟨λh=>h.elim (λh=>h.imp .inl .inl) λh=>h.imp .inr .inr,λh=>h.elim (λh=>h.elim (λh=> .inl (.inl h)) λh=> .inr (.inl h)) λh=>h.elim (λh=> .inl (.inr h)) λh=> .inr (.inr h)⟩⟩
theorem Sd.join(hn:s≠l):Sd σ (jr ρ s l) l t↔Sd σ ρ l t\/Sd σ ρ s t:=
 ⟨λh=>M8 h λa b h=>h.2.elim (λe=>((t6 hn).mp e).imp (λe=>⟨a,b,h.1,.inl e⟩) λe=>⟨a,b,h.1,.inl e⟩) λe=>((t6 hn).mp e).imp (λe=>⟨a,b,h.1,.inr e⟩) λe=>⟨a,b,h.1,.inr e⟩,
 λh=>h.elim (λh=>h.imp λa h=>h.imp λb h=>⟨h.1,h.2.imp (λe=>(t6 hn).mpr (.inl e)) λe=>(t6 hn).mpr (.inl e)⟩) λh=>h.imp λa h=>h.imp λb h=>⟨h.1,h.2.imp (λe=>(t6 hn).mpr (.inr e)) λe=>(t6 hn).mpr (.inr e)⟩⟩
theorem D1.app(hn:s≠l)(c:D1 σ ρ l A)(h:D1 σ ρ s B):D1 σ (jr ρ s l) l (A++B):=c.elim λm c=>h.elim λn h=>⟨m++n,c.1▸h.1▸N1,λt=>List.mem_append.trans ((Na (c.2 t) (h.2 t)).trans (Sd.join hn).symm)⟩
theorem I1.congr(h:I1 ps ρ r A)(e:∀c∈ps,(ρ c.1=some r↔ρ' c.1=some r)/\(ρ c.2.1=some r↔ρ' c.2.1=some r)):I1 ps ρ' r A:=h.imp λt h=>⟨h.1,λc=>(h.2 c).trans ⟨λq=>⟨q.1,q.2.imp (e c q.1).1.mp (e c q.1).2.mp⟩,λq=>⟨q.1,q.2.imp (e c q.1).1.mpr (e c q.1).2.mpr⟩⟩⟩
theorem D1.congr(h:D1 σ ρ r A)(e:∀t a b,σ t=some (a,b)->(ρ a=some r↔ρ' a=some r)/\(ρ b=some r↔ρ' b=some r)):D1 σ ρ' r A:=h.imp λus h=>⟨h.1,λt=>(h.2 t).trans (vd λa=>vd λb=>⟨λq=>⟨q.1,q.2.imp (e t a b q.1).1.mp (e t a b q.1).2.mp⟩,λq=>⟨q.1,q.2.imp (e t a b q.1).1.mpr (e t a b q.1).2.mpr⟩⟩)⟩
noncomputable def nK(ρ:kg->gg kg):yg:=(TT.filter λt=>(ρ t).isSome).length
noncomputable def nC(c:kg->gg kg):yg:=(TT.filter λt=>decide (c t=some t)).length
theorem j1(j:q k=false)(c:q' k=true)(h:∀t,t≠k->q' t=q t):T.Nodup->k∈T->(T.filter q').length=(T.filter q).length+1:=by
 induction T with
 |nil=>exactλz' m=>(by nomatch m)
 |cons y T i=>
  intro hn hx;have hn:=List.nodup_cons.mp hn;by_cases e:y=k
  ·exact rL (Je (e▸c)) (rL (Le (by refine rL e (rL j ?_);exact cf)) (eg (λl=>uc l+1) (Á λt m=>h t λz=>hn.1 ((e.trans z.symm)▸m))))
  ·haveI i:=i hn.2 ((List.mem_cons.mp hx).resolve_left (gc e));refine rL ac (rL ac (rL (h y e) ?_));split
   ·exact eg _ i
   ·exact i
theorem PE(h:∀t,q t=true->q' t=true):(T.filter q).length<=(T.filter q').length:=by
 induction T with
 |nil=>exact Ag _
 |cons y T i=>
  refine rL ac (rL ac ?_);cases e:q y with
  |true=>refine rL (xg rfl) (rL (xg (h y e)) ?_);exact Hg i
  |false=>
   refine rL (og cf) ?_;split
   ·exact bf i
   ·exact i
theorem pA:nC ρ<=nK ρ:=PE λt h=>by refine rL (qg h) ?_;rfl
def B0(ps:dg u9)(ρ:kg->gg kg)(a b:kg)(o:gg p8):Prop:=Å o (L6 ρ a b) λc=>L6 ρ a c.1/\L6 ρ b c.2.1/\(c∈Pa ps\/(c.2.1,c.1,c.2.2)∈Pa ps)
theorem B0.mono{p:dg u9}{o:gg p8}(h:∀x y,L6 ρ x y->L6 ρ' x y)(hp:∀c∈ps,c∈p)(q:B0 ps ρ a b o):B0 p ρ' a b o:=by
 haveI hp:∀c∈Pa _,c∈Pa p:=λc m=>List.mem_cons.mpr ((List.mem_cons.mp m).imp id (hp c));cases o with
 |none=>exact h _ _ q
 |some c=>exact⟨h _ _ q.1,h _ _ q.2.1,q.2.2.imp (hp _) (hp _)⟩
end
noncomputable def nB(p:dg u9)(C:Cor):yg:=(nS C.P9+p.length)*2^(nK C.root-nC C.root)
structure LI(fs ps)(C:Cor) tl(es Q):Prop where
 kn:∀t r,C.root t=some r->t∈TT/\C.root r=some r
 sub:∀t x,Kn C.root t->Ap t x->Kn C.root x
 mem:Of C.root (λr=>C.ls (.mem,r)) (sq C.root)
 use:Of C.root (λr=>C.ls (.use,r)) (UM C.root)
 b8:Of C.root (λr=>C.ls (.b8,r)) (I1 ps C.root)
 C9:Of C.root (λr=>C.ls (.C9,r)) (D1 C.P9 C.root)
 bd:∀κ r l,κ= .b8\/κ= .C9->C.ls (κ,r)=some l->l.length<=nB ps C
 val:Of C.root C.val (sY C.root)
 tb:Tab C.root C.tab
 P:tY fs C.up es
 c1:∀a b,L6 C.root a b->T5 es a b
 c2:∀e∈es,L6 C.root e.1 e.2.1
 tc:∀t x r,Kn C.root t->Ap t x->C.root x=some r->∃o,C.tab [sy t,r]=some o/\Pq C.root Q t o
 fx:∀f∈fs,Pq C.root Q f.1 f.2.1
 qj:∀e∈Q,QJ fs C.root e
 pk:∀f∈ps,Kn C.root f.1/\Kn C.root f.2.1
 sk:∀t a b,C.P9 t=some (a,b)->t∈UW/\Kn C.root a/\Kn C.root b
 tk:∀t o,C.d8 t=some o->∃a b,C.P9 t=some (a,b)/\B0 ps C.root a b o
 pl:ps.length<=20
 nI:tl+6*nC C.root<=8*nK C.root+nS C.P9+nS C.d8+ps.length
section
variable{E:G9}{fs ps:dg u9}{es Q Q':dg N9}{C:Cor}{tl tl':yg}{l0 r0 left right s l v1 v2 r:kg}{y:M5}{us:dg kg}{up':Up}{tb:dg kg->gg kg}{Ll Ls:LK->dg vg}{κ:LK}{A:dg vg}
theorem EJ.snoc{e:N9}(j:EJ fs es)(h:aS fs (T5 es) e.1 e.2.1 e.2.2):EJ fs (es++[e]):=λp d q c=>
 (ď q).elim (λz=>by
  haveI c:=z▸c;haveI:=List.append_inj' c rfl;refine rR this.1 (rR ((qf this.2).1) ?_);exact h) λz=>M8 z λi w z=>by
  rw [z,Đ,<-List.cons_append,<-Lg] at c;exact j p _ _ (List.append_inj' c rfl).1
theorem GO{c:Type}{σ:kg->gg c}:nS σ<=12:=Df _ _
theorem LI.vX(L:LI fs ps C tl es Q):tl<=132:=bg (bg (Cg _ _) L.nI) (mf (mf (mf (Pe 8 (Df _ _)) GO) GO) L.pl)
theorem HO(h:ps.length<=20):nB ps C<=65536:=bg (Nat.mul_le_mul (mf GO h) (Nat.pow_le_pow_right (by decide) (bg (Pc _ _) (Df _ _)))) (by decide)
theorem LI.ls(L:LI fs ps C tl es Q)(hr:C.root r=some r)(κ:LK):∃l,C.ls (κ,r)=some l/\l.length<=65536:=by
 have kT:∀{t},Kn C.root t->t∈TT:=λh=>h.elim λr h=>(L.kn _ _ h).1;have lz:∀{l:dg vg} {p:kg->Prop},Lz l p->(∀t,p t->t∈TT)->l.length<=65536:=λh e=>h.elim λm h=>by rw [h.1];exact b9 (bg (h.2.len e) (by decide))
 cases κ with
 |mem=>exact(L.mem.2 r hr).imp λl h=>⟨h.1,lz h.2 λt q=>kT ⟨r,q⟩⟩
 |use=>exact(L.use.2 r hr).imp λl h=>⟨h.1,lz h.2 λt q=>kT q.1⟩
 |b8=>exact(L.b8.2 r hr).imp λl h=>⟨h.1,bg (L.bd _ _ _ (.inl rfl) h.1) (HO L.pl)⟩
 |C9=>exact(L.C9.2 r hr).imp λl h=>⟨h.1,bg (L.bd _ _ _ (.inr rfl) h.1) (HO L.pl)⟩
theorem nN(L:LI fs ps C tl es Q)(h:C.root s=some s)(c:C.root l=some l)(hn:s≠l):nC (jr C.root s l)+1=nC C.root/\nK (jr C.root s l)=nK C.root:=
 ⟨(j1 (Ig (by refine rL (IV h) ?_;exactλq=>hn (ig q).symm)) (Dg h) (λt d=>decide_eq_decide.mpr (by
  by_cases e:t=l
  ·refine rL e ?_;refine rL c ?_;rw [(t6 hn).mpr (.inl c)]
  ·exact((p0 e).trans (â d)).symm)) (by decide) (L.kn _ _ h).1).symm,eg uc (Á λt z'=>Bool.eq_iff_iff.mpr (Option.isSome_iff_exists.trans (m7.trans Option.isSome_iff_exists.symm)))⟩
theorem vG{a b w:yg}(h:a+1=b){k:yg}(c:b<=k):w*2^(k-b)+w*2^(k-b)=w*2^(k-a):=by
 refine rR h (rL (show k-a=k-(a+1)+1 from(Nat.succ_pred_eq_of_pos (Fb (h▸c:a+1<=k))).symm) ?_);rw [Nat.pow_succ,Nat.mul_comm _ 2,<-Nat.mul_assoc,Nat.mul_comm w 2,Nat.mul_assoc,Nat.two_mul]
theorem LI.join(L:LI fs ps C tl es ((l0,r0,y)::Q))(hs:C.root left=some s)(hl:C.root right=some l)(hn:s≠l)(r:∀{A:Type} {f:kg->A},f left=f right->f l0=f r0)(h:aS fs (L6 C.root) left right y)
  (K:∀κ,C.ls (κ,l)=some (Ll κ)) (H:∀κ,C.ls (κ,s)=some (Ls κ)) (W:Ls .use=zs us) (Y:sY C.root l v1) (V:sY C.root s v2) (T:L8 up' (es++[(left,right,y)])) (m:oP up' TT)
  (tab:Tab (jr C.root s l) tb) (U:∀m t,C.tab m=some t->t∉us->tb m=some t) (q:∀e∈Q',QJ fs (jr C.root s l) e) (fd:∀t∈us,∃o,tb [sy t,l]=some o/\Pq (jr C.root s l) Q' t o) (R:tl'<=tl+6):
  LI fs ps {C with root:=jr C.root s l,ls:=I3 C.ls l Ll Ls,val:=f9 C.val l (if v1=0 then v2 else v1),up:=up',tab:=tb} tl' (es++[(left,right,y)]) (Q++Q'):=by
 have d:=(L.kn _ _ hl).2;have j:=(L.kn _ _ hs).2;haveI k:jr _ s l left=some l:=IV hs;haveI g:=(t6 hn).mpr (.inl hl);haveI w:∀e∈es,e∈es++[(left,right,y)]:=λe h=>Kg _ h;haveI J:=λx hx=>((t6 hn).mp hx).elim (λq=>(L.c1 x right ⟨l,q,hl⟩).mono w) λq=>((L.c1 x left ⟨s,q,hs⟩).mono w).trans (.one (.inl (Rg _ (.head _))));have I:∀e∈(l0,r0,y)::Q,Pq _ (Q++Q') _ e.2.1:=λe m A f u v=>(List.mem_cons.mp m).elim (λz=>by refine rL z ?_;exact r (u _ _ ⟨l,k,g⟩)) λm=>v e (Kg _ m);have N:=nN L j d hn;have D:∀{r t},r≠l->r≠s->(C.root t=some r↔jr _ s l t=some r):=λn n2=>((p0 n).trans (â n2)).symm;have E:=L.use.at j (H .use);refine⟨λt r h=> ?_,λt x h hx=>m7.mpr (L.sub t x (m7.mp h) hx),L.mem.jx d (((L.mem.at d (K .mem)).app (L.mem.at j (H .mem)) λt u v=>hn (ig (v.symm.trans u))).congr λt=>(t6 hn).symm) λr n n2 a h=>Lz.congr h λt=>D n n2,L.use.jx d (((L.use.at d (K .use)).app E λt u v=> ?_).congr λt=> ?_) λr n n2 a h=>Lz.congr h λt=>ud m7.symm (vd λx=>ud Ef (D n n2)),
  L.b8.jx d ((L.b8.at d (K .b8)).app hn (L.b8.at j (H .b8))) λr n n2 a h=>h.congr λc z'=>⟨D n n2,D n n2⟩,L.C9.jx d ((L.C9.at d (K .C9)).app hn (L.C9.at j (H .C9))) λr n n2 a h=>h.congr λt a b z'=>⟨D n n2,D n n2⟩,λκ r a hκ h=> ?_,
  L.val.join d ?_ λr n n2 a h=>h.imp (λh=>⟨h.1,λt m e=>h.2 t m ((p0 n).mp e).1⟩) λh=>⟨h.1,(p0 n).mpr ⟨h.2,n2⟩⟩,tab,⟨T,m,L.P.j.snoc (h.mono (λz' h=>h) L.c1)⟩,λa b h=>h.elim λr h=> ?_,λe m=> ?_,λt x r P hx B=> ?_,λf m=>(L.fx f m).mono (λz' z'=>VZ) I,λe m=>(List.mem_append.mp m).elim (λm=>(L.qj e (.tail _ m)).mono (λz' h=>h) (λz'=>m7.mpr) λz' z'=>VZ) (q e),λf m=>⟨m7.mpr (L.pk f m).1,m7.mpr (L.pk f m).2⟩,λt a b h=>haveI q:=L.sk t a b h;⟨q.1,m7.mpr q.2.1,m7.mpr q.2.2⟩,λt o h=>(L.tk t o h).imp λa q=>q.imp λb q=>⟨q.1,q.2.mono (λz' z'=>VZ) λz' h=>h⟩,L.pl,?_⟩
 ·by_cases e:r=l
  ·rw [e] at h⊢;exact⟨((t6 hn).mp h).elim (λq=>(L.kn _ _ q).1) λq=>(L.kn _ _ q).1,(t6 hn).mpr (.inl d)⟩
  ·have h:=(p0 e).mp h;exact⟨(L.kn _ _ h.1).1,(p0 e).mpr ⟨(L.kn _ _ h.1).2,h.2⟩⟩
 ·exact u.2.elim λx u=>v.2.elim λx v=>hn (ig (v.2.symm.trans (z1 u.1 v.1▸u.2)))
 ·exact ć (⟨λh=>h.elim (λh=>⟨h.1,h.2.imp λx q=>⟨q.1,.inl q.2⟩⟩) λh=>⟨h.1,h.2.imp λx q=>⟨q.1,.inr q.2⟩⟩,λh=>h.2.elim λx q=>q.2.imp (λe=>⟨h.1,x,q.1,e⟩) λe=>⟨h.1,x,q.1,e⟩⟩) (ud m7.symm (vd λx=>ud Ef (t6 hn).symm))
 ·haveI b:=L.bd κ;show a.length<=(nS _+ps.length)*2^_;refine rL N.2 (rR (vG N.1 pA) ?_)
  replace h:I3 _ l Ll Ls _=some a:=h;rw [W2] at h;by_cases e:r=l
  ·rw [xg e] at h;exact rR (ig h) (rL jg (mf (b _ _ hκ (K κ)) (b _ _ hκ (H κ))))
  ·rw [og e] at h;exact bg (b _ _ hκ h) (Cg _ _)
 ·by_cases e:v1=0
  ·refine rL (xg e) ?_;have z:=Y.resolve_right λh=>absurd (e▸h.1) (by decide);exact V.imp (λh=>⟨h.1,λt m q=>((t6 hn).mp q).elim (z.2 t m) (h.2 t m)⟩) λh=>⟨h.1,(t6 hn).mpr (.inr h.2)⟩
  ·exact rL (og e) (.inr (Y.elim (λh=>(e h.1).elim) λh=>⟨h.1,(t6 hn).mpr (.inl h.2)⟩))
 ·by_cases e:r=l
  ·haveI h:=e▸h;exact(J a h.1).trans (J b h.2).symm
  ·exact(L.c1 a b ⟨r,((p0 e).mp h.1).1,((p0 e).mp h.2).1⟩).mono w
 ·exact(j8 m).elim (λm=>VZ (L.c2 e m)) λz=>z▸⟨l,k,g⟩
 ·refine(L.sub t x (m7.mp P) hx).elim λh i=> ?_;have X:∀z,z∈us↔Kn _ z/\∃x,Ap z x/\C.root x=some s:=λz=>E.elim λm q=>by
   haveI e:=wU (W.symm.trans q.1);refine rL e ?_;exact q.2.2 z
  by_cases e:h=s
  ·have i:=e▸i;exact(ig ((IV i).symm.trans B))▸(fd t ((X t).mpr ⟨m7.mp P,x,hx,i⟩)).imp λo h=>⟨h.1,h.2.gD⟩
  ·have z:=ig (i.symm.trans ((lN λq=>e (ig (i.symm.trans q))).symm.trans B));refine(L.tc t x r (m7.mp P) hx (z▸i)).imp λo h=>⟨U _ _ h.1 λm=> ?_,h.2.mono (λz' z'=>VZ) I⟩;exact((X o).mp m).2.elim λx q=>(e (z.trans (qf (qf (L.tb.key q.1 q.2 h.1)).2).1))
 ·haveI:=L.nI;refine rL N.2 ?_;haveI this:=N.1.symm▸this;exact bg (Qf R _) (by rw [tf];exact this)
end
end
section
variable{E E1 E2:G9}{fs ps:dg u9}{es Q:dg N9}{C:Cor}{tl:yg}{t a b ra rb va vb x y r:kg}{ρ:kg->gg kg}{o:gg p8}{ts:dg p8}{c:p8}{us:dg kg}
theorem gP{d:Type}{x:gg d}{a:d}{p:Prop}(h:x=none)(q:x=some a):p:=by rw [h] at q;exact(by nomatch q)
structure Nw(E E':G9):Prop where
 up:∀t o,E.d8 t=some o->E'.d8 t=some o
 nw:∃new:dg kg,E'.news=E.news++new/\new.Nodup/\∀t,t∈new↔E.d8 t=none/\∃o,E'.d8 t=some o
theorem Nw.of(h:E1.d8=E.d8)(g:E1.news=E.news):Nw E E1:=⟨λt o q=>h▸q,[],g.trans (Fg _).symm,uf,λt=>⟨(λh=>(by nomatch h)),λq=>q.2.elim λz' k=>gP q.1 (h▸k)⟩⟩
theorem Nw.refl:Nw E E:= .of rfl rfl
theorem Nw.trans(h:Nw E E1)(g:Nw E1 E2):Nw E E2:=
 ⟨λt o q=>g.up t o (h.up t o q),h.nw.elim λn hn=>g.nw.elim λm f=>⟨n++m,by rw [f.1,hn.1,Lg],List.nodup_append.mpr ⟨hn.2.1,f.2.1,λx hx y i e=>((hn.2.2 x).mp hx).2.elim λz' q=>gP ((f.2.2 x).mp (e▸i)).1 q⟩,λt=>by
  rw [qc,hn.2.2,f.2.2];refine⟨λq=>q.elim (λq=>⟨q.1,q.2.imp λo=>g.up t o⟩) λq=>⟨?_,q.2⟩,λq=> ?_⟩
  ·cases e:E.d8 t with
   |none=>rfl
   |some o=>exact gP q.1 (h.up t o e)
  ·cases e:E1.d8 t with
   |none=>exact .inr ⟨rfl,q.2⟩
   |some o=>exact .inl ⟨q.1,o,rfl⟩⟩⟩
theorem Nw.no(h:Nw E E1)(q:E1.d8 t=none):E.d8 t=none:=by
 cases e:E.d8 t with
 |none=>rfl
 |some o=>exact gP q (h.up t o e)
structure Tl(E E':G9):Prop where
 ex:E'={E with d8:=E'.d8,news:=E'.news,trail:=E'.trail}
 n:Nw E E'
 l6:t5 E E'
theorem Tl.refl:Tl E E:=⟨rfl,.refl,.refl⟩
theorem Tl.trans(h:Tl E E1)(g:Tl E1 E2):Tl E E2:=⟨by rw [g.ex,h.ex],h.n.trans g.n,h.l6.trans g.l6⟩
def NW(E:G9):Prop:=E.news.Nodup/\∀t∈E.news,∃o,E.d8 t=some o
theorem Nw.news(h:Nw E E1)(n:NW E):NW E1:=h.nw.elim λf q=>⟨by refine rL q.1 ?_;exact List.nodup_append.mpr ⟨n.1,q.2.1,λx hx y d e=>(n.2 x hx).elim λz' p=>gP ((q.2.2 x).mp (e▸d)).1 p⟩,λt m=>by
 haveI m:=q.1▸m;exact(List.mem_append.mp m).elim (λm=>(n.2 t m).imp λo=>h.up t o) λm=>((q.2.2 t).mp m).2⟩
theorem LI.news(L:LI fs ps E.toCor tl es Q)(n:NW E):E.news.length<=12:=V8 n.1 λt m=>(n.2 t m).elim λo h=>M8 (L.tk t o h) λa b h=>(L.sk t a b h.1).1
theorem LI.told(L:LI fs ps C tl es Q)(h0:C.d8 t=none)(hs:C.P9 t=some (a,b))(q:B0 ps C.root a b o):LI fs ps {C with d8:=f9 C.d8 t o} (tl+1) es Q:=
 {L with
  tk:=λz o' h=>by
   by_cases e:z=t
   ·rw [e] at h⊢;have h:=ig (i9.symm.trans h);exact⟨a,b,hs,h▸q⟩
   ·exact L.tk z o' ((e9 e).symm.trans h)
  nI:=by
   have e:nS (f9 C.d8 t o)=nS C.d8+1:=j1 (by rw [h0];rfl) (by rw [i9];rfl) (λz n=>by rw [e9 n]) (by decide) (L.sk t a b hs).1;rw [e,tf,<-Hf,tf _ 1];exact Hg L.nI}
theorem sY.nz(V:sY ρ r x)(m:y∈VV)(h:ρ y=some r):x≠0:=V.elim (λq=>(q.2 _ m h).elim) λq e=>absurd (e▸q.1) (by decide)
theorem oI:∀v∈VV,∀w∈VV,v≠w->(v,w,(0:kg))=(1,2,0)\/(w,v,(0:kg))=(1,2,0):=by decide
theorem AM(L:LI fs ps E.toCor tl es Q)(ha:E.root a=some ra)(hb:E.root b=some rb)(hn:ra≠rb)(h1:sY E.root ra va)(h2:sY E.root rb vb)(ht:∀c,c∈ts↔c∈ps/\(E.root c.1=some ra\/E.root c.2.1=some ra)):
  (∀c,cause E ra rb va vb ts=some c->B0 ps E.root a b (some c))/\(cause E ra rb va vb ts=none->∀o,¬B0 ps E.root a b o):=by
 unfold cause;rw [og hn];by_cases v:va≠0/\vb≠0
 ·rw [xg v];have w1:=h1.resolve_left λq=>v.1 q.1;have w2:=h2.resolve_left λq=>v.2 q.1;refine⟨λc e=> ?_,λe=>(by nomatch e)⟩;rw [<-ig e];exact⟨⟨ra,ha,w1.2⟩,⟨rb,hb,w2.2⟩,(oI va w1.1 vb w2.1 λe=>hn (ig (w1.2.symm.trans (e▸w2.2)))).imp (λe=>List.mem_cons.mpr (.inl e)) λe=>List.mem_cons.mpr (.inl e)⟩
 ·rw [og v];unfold gL;refine⟨λc e=> ?_,λe o q=> ?_⟩
  ·refine(List.exists_of_findSome?_eq_some e).elim λf q=> ?_;have m:=pd (1,2,0) ((ht f).mp q.1).1;have q:=q.2;unfold eT at q;by_cases p:E.root f.1=some ra/\E.root f.2.1=some rb
   ·rw [xg p] at q;rw [<-ig q];exact⟨⟨ra,ha,p.1⟩,⟨rb,hb,p.2⟩,.inl m⟩
   ·rw [og p] at q;by_cases p:E.root f.1=some rb/\E.root f.2.1=some ra
    ·rw [xg p] at q;rw [<-ig q];exact⟨⟨ra,ha,p.2⟩,⟨rb,hb,p.1⟩,.inr m⟩
    ·rw [og p] at q;exact(by nomatch q)
  ·have e:=List.findSome?_eq_none_iff.mp e;cases o with
   |none=>exact q.elim λr q=>hn (ig (ha.symm.trans (q.1.trans (q.2.symm.trans hb))))
   |some c=>
    have k1:=q.1.elim λr q=>q.2.trans (q.1.symm.trans ha);have k2:=q.2.1.elim λr q=>q.2.trans (q.1.symm.trans hb);have no:c.1∈VV->c.2.1∈VV->False:=λm1 m2=>v ⟨h1.nz m1 k1,h2.nz m2 k2⟩;refine q.2.2.elim (λm=>(List.mem_cons.mp m).elim (λg=>no (by rw [g];decide) (by rw [g];decide)) λm=> ?_) λm=>(List.mem_cons.mp m).elim (λg=>no (by rw [(Zf (Zf g).2).1];decide) (by rw [(Zf g).1];decide)) λm=> ?_
    ·have:=e c ((ht c).mpr ⟨m,.inl k1⟩);unfold eT at this;rw [xg ⟨k1,k2⟩] at this;exact(by nomatch this)
    ·have:=e _ ((ht _).mpr ⟨m,.inr k1⟩);unfold eT at this;rw [og λz=>hn (ig (k1.symm.trans z.2)),xg ⟨k2,k1⟩] at this;exact(by nomatch this)
structure Te(fs ps:dg u9)(es Q:dg N9)(E:G9)(t:kg)(E':G9):Prop where
 w:Mw 3 34 .all [iv t] E (.a9 .none) E'
 tl:Tl E E'
 li:LI fs ps E'.toCor E'.trail.length es Q
 cm:∀a b,E.P9 t=some (a,b)->E'.d8 t=none->∀o,¬B0 ps E.root a b o
theorem gK:∀t∈UW,j7 t=true:=by decide
theorem sS(L:LI fs ps E.toCor E.trail.length es Q)(n:NW E)(hs:E.P9 t=some (a,b)):∃E',Te fs ps es Q E t E':=by
 have k:=L.sk t a b hs;have I:=gK t k.1;have b1:E.news.length<=1000000:=bg (L.news n) (by decide);have b2:E.trail.length<=1000000:=bg L.vX (by decide);cases h:E.d8 t with
 |some o=>exact⟨E,(Cu (eg _ h)).lift,.refl,L,λa b z' q=>gP q h⟩
 |none=>
  have J:∀{o},B0 _ _ a b o->Mw 3 34 .all [iv t] E _ {E with d8:=f9 E.d8 t o,news:=E.news++[t],trail:=E.trail++[.told t]}->∃E',Te fs ps es Q E t E':=λ{o} q w=>
   ⟨_,w,⟨rfl,⟨λz z' g=>(e9 λe=>gP h (e▸g)).trans g,[t],rfl,List.nodup_cons.mpr ⟨(λh=>(by nomatch h)),uf⟩,λz=>by
    rw [ke];refine⟨λe=>by refine rL e ?_;exact⟨h,o,i9⟩,λq=> ?_⟩;by_cases e:z=t
    ·exact e
    ·exact q.2.elim λo' g=>gP q.1 ((e9 e).symm.trans g)⟩,(EL h).l6 rfl (.no (λz'=>Ef) rfl rfl rfl)⟩,(jg)▸L.told h hs q,λa b z' q=>gP q i9⟩
  refine k.2.1.elim λF p=>k.2.2.elim λN j=> ?_;by_cases e:F=N
  ·exact J (o:=none) ⟨F,p,e▸j⟩ (Eu h hs p (e▸j) I b1 b2).lift
  ·have u:=(L.kn _ _ p).2;refine(L.b8.2 _ u).elim λl hl=>hl.2.elim λR i=>(L.val.2 _ u).elim λU v=>(L.val.2 _ (L.kn _ _ j).2).elim λS A=> ?_;have M:=l5 p j v.1 A.1 (hl.1.trans (eg _ i.1)) λc m=>have q:=L.pk c ((i.2 c).mp m).1;q.1.elim λr K=>q.2.elim λs P=>⟨r,s,K,P⟩;have G:=AM L p j e v.2 A.2 i.2;cases g:cause E _ _ _ _ _ with
   |some c=>haveI M:=g▸M;exact J (G.1 c g) (Fu h hs p j e M I b1 b2)
   |none=>haveI M:=g▸M;exact⟨E,Du h hs p j e M,.refl,L,λV z' q z'=>by haveI q:=hs▸q;haveI q:=Zf (ig q);exact q.1▸q.2▸G.2 g⟩
theorem YW:∀{E:G9},LI fs ps E.toCor E.trail.length es Q->NW E->(∀t∈us,∃a b,E.P9 t=some (a,b))->∃E',cZ (λt E E'=>Mw 3 34 .all [iv t] E (.a9 .none) E') us E E'/\Tl E E'/\LI fs ps E'.toCor E'.trail.length es Q/\∀t∈us,∀a b,E.P9 t=some (a,b)->E'.d8 t=none->∀o,¬B0 ps E.root a b o:=by
 induction us with
 |nil=>exactλ{E} L z' z'=>⟨E,.nil,.refl,L,λz' h=>(by nomatch h)⟩
 |cons t us ih=>
  intro E L n h;refine(h t (.head _)).elim λa ha=>ha.elim λb hs=>(sS L n hs).elim λE1 T=> ?_;have e1:E1.P9=E.P9:=by rw [T.tl.ex]
  have e2:E1.root=E.root:=by rw [T.tl.ex]
  refine(ih T.li (T.tl.n.news n) (e1.symm▸λz m=>h z (.tail _ m))).imp λE2 q=>⟨.cons T.w q.1,T.tl.trans q.2.1,q.2.2.1,λz m a b g k=> ?_⟩;refine(List.mem_cons.mp m).elim (λe=> ?_) λm=>e2▸q.2.2.2 z m a b (e1.symm▸g) k;rw [e] at g k;exact T.cm a b g (q.2.1.n.no k)
end
section
variable{E E1:G9}{fs ps:dg u9}{es Q Q':dg N9}{l0 r0 left right s l v1 v2 r a b:kg}{y:M5}{ρ:kg->gg kg}{C:Cor}{us:dg kg}
inductive Jo(fs ps:dg u9)(E:G9)(es Q:dg N9)(left right:kg)(y:M5)(s l:kg):Prop
 |mk (E4:G9) (Q':dg N9) (v1 v2:kg) (us:dg kg) (w:∀E1,JF left right (yZ y) s l us v2 v1 E4 E1->∀(P:y8) (g:q9) (K:R8),BK K->(∀κ t,false=false->g.z κ t=false)->(A9 P 4 EK).b (.st,[]) ⟨[(0,.g9 .house),(1,iv left),(2,iv right),(3,.a9 (yZ y))],[],hp P g K E⟩ (Eh (.a9 .none) (hp P g K E1)))
  (li:LI fs ps E4.toCor E4.trail.length (es++[(left,right,y)]) (Q++Q')) (nc:nC E4.root+1=nC E.root) (l6:t5 E E4) (qu:E4.queue=E.queue++Q') (ql:Q'.length<=11) (rt:E4.root=jr E.root s l) (V1:sY E.root l v1) (V2:sY E.root s v2) (rest:(E4.clash=E.clash/\E4.marks=E.marks)/\(E4.P9=E.P9/\E4.d8=E.d8/\E4.news=E.news)/\∀κ,E4.ls (κ,s)=E.ls (κ,s))
theorem zx{m:dg kg}(h:∀z,z∈m↔ρ z=some s):t3 m l ρ=jr ρ s l:=XU.trans (funext λz=>by
 unfold Z0 jr;by_cases q:z∈m
 ·exact rL (xg q) (rL (xg ((h z).mp q)) rfl)
 ·refine rL (og q) ?_;rw [og λg=>q ((h z).mpr g)])
theorem PF(L:LI fs ps E.toCor E.trail.length es ((l0,r0,y)::Q))(hs:E.root left=some s)(hl:E.root right=some l)(hn:s≠l)(h0:∀{h:Type} {f:kg->h},f left=f right->f l0=f r0)(hJ:aS fs (L6 E.root) left right y)(r:E.queue.length<=900):Jo fs ps E es Q left right y s l:=by
 have A:=L.kn _ _ hs;have M:=L.kn _ _ hl;have k:=f0 _ (L.kn _ _ M.2).1;haveI c:∃H:LK->dg _,∀κ,E.ls (κ,l)=some (H κ)/\(H κ).length<=65536:=⟨λκ=>Ĕ _,λκ=>ï (L.ls M.2 _)⟩;haveI cs:∃Ls:LK->dg _,∀κ,E.ls (κ,s)=some (Ls κ)/\(Ls κ).length<=65536:=⟨λκ=>Ĕ _,λκ=>ï (L.ls A.2 _)⟩;refine c.elim λH q=>cs.elim λLs W=>((L.mem.at A.2 (W .mem).1).elim λm G=>(L.use.at A.2 (W .use).1).elim λus I=>(L.val.2 _ M.2).elim λv O=>(L.val.2 _ A.2).elim λv2 X=> ?_);have t:=L.vX;have Z:=I.2.len λt h=>(λh=>h.elim λr h=>(L.kn _ _ h).1) h.1;have hb:∀κ,(H _++Ls _).length<=1000000:=λκ=>jg▸bg (mf (q κ).2 (W κ).2) (by decide);have h:¬T5 _ left right:=λc=>hn (ig (hs.symm.trans ((c.keep (R:=λa b=>E.root a=E.root b) (λz'=>rfl) (λz' z'=>Eq.symm) (λz' z' z'=>Eq.trans) λx n y m=>(L.c2 _ m).elim λr h=>h.1.trans h.2.symm).trans hl)));refine M8 (YK (w:=y) L.P.F L.P.u f0 (by decide) A.1 M.1 h (bg t (by decide))) λup' Y h=> ?_;haveI g:(E.trail++[Ent.edge left Y]).length<=E.trail.length+1:=Bg jg;have u:=λt m=>(I.2.2 t).mp m;refine M8 (xv (E:={E with up:=up',trail:=E.trail++[.edge left Y]}) (f0 _ (L.kn _ _ A.2).1) u L.tb (bg (Qf (bg g (Hg t)) 2) (by decide))) λtr p o=> ?_;have t2:=bg (Cg _ _) (bg o.2.2.1 (mf g UR));have t:=bg t2 (Qf t 3);haveI g:t3 _ l _=jr _ s l:=zx G.2.2;haveI m:(if v=0 then f9 _ l _ else E.val)=f9 _ l (if v=0 then v2 else v):=by
  by_cases e:v=0
  ·exact rL (xg e) (rL (xg e) rfl)
  ·exact rL (og e) (rL (og e) (rL (KQ O.1) rfl))
 haveI j:(({E with up:=up',trail:=E.trail++[.edge left Y]}:G9).off _ p).jn s l _ H _ _ v={E with up:=up',trail:=tr++[.join s l _ v],tab:=p,root:=jr _ s l,ls:=I3 E.ls l H Ls,val:=f9 _ l _}:=by
  show({E with up:=up',trail:=tr++_,tab:=_,root:=t3 _ l _,ls:=_,val:=if v=0 then f9 E.val l _ else E.val})=_;exact rL g (rL m rfl)
 haveI m:=HL (C:={E.toCor with up:=up',tab:=p}) (V:=f9 E.val l (if v=0 then v2 else v)) hn (λκ=>(q _).1) (N7 O.1) ((W .mem).1.trans (eg _ G.1)) (λt m=>(G.2.2 t).mp m) k (λt m=>f0 t (L.kn _ _ ((G.2.2 t).mp m)).1) hb;rw [show Z0 _ _ l=jr _ s l from XU.symm.trans g] at m;have n:∀m z,p m=some z->E.tab m=some z/\z∉us:=λm z h=>(o.2.2.2 m z).mp h;refine(rk (fs:=fs) (us:=us) (E:={E with up:=up',trail:=tr++[.join s l (λκ=>(H κ).length) v],tab:=p,root:=jr E.root s l,ls:=I3 E.ls l H Ls,val:=f9 E.val l (if v=0 then v2 else v)}) k (λm t hm=> ?_) (λt m=> ?_) ?_ ?_).casesOn λtb r Q c st g z' ql tab e qj fd=> ?_
 ·haveI q:=n m t hm;refine(L.tb m t q.1).imp m7.mpr λh=>h.imp λx h=>h.imp λr h=>⟨h.1,(lN λg=>q.2 ((I.2.2 t).mpr ⟨(L.tb m t q.1).1,x,h.1,g⟩)).trans h.2.1,h.2.2⟩
 ·exact⟨m7.mpr (u t m).1,(u t m).2.imp λx h=>⟨h.1,IV h.2⟩⟩
 ·exact bg (Qf (bg (Bg jg) (Hg t)) 2) (by decide)
 ·exact bg (mf r Z) (by decide)
 refine⟨G9.lk {E with up:=up',trail:=tr++[.join s l (λκ=>(H κ).length) v],tab:=p,root:=jr _ s l,ls:=I3 _ l H _,val:=f9 _ l _} tb r Q,Q,v,v2,us,λE1 H P g K hB hz=>Qu hs hl h.1 ((W .use).1.trans (eg _ I.1)) o.1 (λκ=>(q _).1) (λκ=>(W _).1) G.1 X.1 O.1 (λt m=>f0 t (L.kn _ _ ((G.2.2 t).mp m)).1) k hb (bg Z (by decide)) (bg t (by decide)) (j.symm▸c) H hB hz,(L.join hs hl hn h0 hJ (λκ=>(q _).1) (λκ=>(W _).1) I.1 O.2 X.2 h.2.1 h.2.2.1 tab (λm t h n=>e m t ((o.2.2.2 m t).mpr ⟨h,n⟩)) qj fd (bg (Cg _ _) (bg g (bg (Eg UR _) (rL jg (Qf t2 3)))))),(nN L A.2 M.2 hn).1,?_,rfl,bg ql Z,rfl,O.2,X.2,⟨rfl,rfl⟩,⟨rfl,rfl,rfl⟩,λκ=>W2.trans (og hn)⟩;refine t5.trans ?_ (o.2.1.trans (t5.trans (m.l6 (E1:={E with up:=up',trail:=tr++[.join s l _ v],tab:=p,root:=jr E.root s l,ls:=I3 _ l H Ls,val:=f9 _ l _}) rfl (.no (λz'=>m7) rfl rfl rfl)) st));exact(LL h.2.2.2.1 h.2.2.2.2).l6 rfl (.no (λz'=>Ef) rfl rfl rfl)
variable{E2:G9}{tl:yg}{rs:dg kg}
def NT(ps:dg u9)(ρ:kg->gg kg):Prop:=∀f∈Pa ps,¬L6 ρ f.1 f.2.1
def CT(ps:dg u9)(C:Cor):Prop:=∀t a b,C.P9 t=some (a,b)->C.d8 t=none->∀o,¬B0 ps C.root a b o
def B4(fs p:dg u9)(l:dg kg):Prop:=∃f c,f∈Pa p/\Told fs f.1 f.2.1 c/\l=T7 c f.2.2
theorem Cl.symm{R:kg->kg->Prop}(c:Cl R a b):Cl R b a:=λe f d h=>(c _ f d h).symm
theorem Told.symm(h:Told fs a b rs):Told fs b a rs:=h.imp λf h=>⟨h.1,h.2.1,h.2.2.1,h.2.2.2.1,h.2.2.2.2.symm⟩
theorem Told.len(h:Told fs a b rs):rs.length<=11:=h.elim λf h=>by refine rL h.1 ?_;exact bg (Bg (Mb f).length_eq) h.2.2.1
def uq(fs ps:dg u9)(E E':G9)(q:Prop):Prop:=(E'.clash=none/\(NT ps E'.root/\CT ps E'.toCor)/\q)\/∃l,E'.clash=some l/\E'.u0=E.marks.length/\B4 fs ps l
theorem t5.to(s:t5 E E1)(h:E2.toCor=E1.toCor)(t:E2.trail=E1.trail):t5 E E2:=s.casesOn λc e w g b=>⟨c,e,w,t.trans g,h▸b⟩
theorem first{α:Type}{p:α->Prop}(l:dg α):(∀x∈l,¬p x)\/∃l1 x l2,l=l1++x::l2/\p x/\∀z∈l1,¬p z:=by
 induction l with
 |nil=>exact .inl λz' h=>(by nomatch h)
 |cons y l ih=>
  by_cases h:p y
  ·exact .inr ⟨[],y,l,rfl,h,λz' h=>(by nomatch h)⟩
  ·refine ih.imp (λg x m=>(List.mem_cons.mp m).elim (λe=>e▸h) (g x)) λg=>g.elim λl1 g=>g.elim λx g=>g.elim λl2 g=>⟨y::l1,x,l2,eg (y::·) g.1,g.2.1,λz m=>(List.mem_cons.mp m).elim (λe=>e▸h) (g.2.2 z)⟩
theorem NT.join(n:NT ps ρ)(hn:s≠l)(c:sY ρ l v1)(V:sY ρ s v2)(h:v2=0\/v1=0)(t:∀f∈ps,ρ f.1=some s\/ρ f.2.1=some s->¬L6 (jr ρ s l) f.1 f.2.1):NT ps (jr ρ s l):=λf m e=>(OF hn e).elim (n f m) λq=>by
 refine(List.mem_cons.mp m).elim (λg=> ?_) λm=>t f m (q.elim (λq=> .inl q.1) λq=> .inr q.2) e;haveI q:=g▸q;refine q.elim (λq=>h.elim (V.nz (by decide) q.1) (c.nz (by decide) q.2)) λq=>h.elim (V.nz (by decide) q.2) (c.nz (by decide) q.1)
theorem vT(hn:s≠l)(e:L6 (jr ρ s l) a b)(h:jr ρ s l a≠some l):L6 ρ a b:=e.elim λr e=>by
 have z:r≠l:=λz=>h (z▸e.1);exact⟨r,((p0 z).mp e.1).1,((p0 z).mp e.2).1⟩
structure Jd(fs ps:dg u9)(E:G9)(Q:dg N9)(E':G9)(es' Q':dg N9):Prop where
 li:LI fs ps E'.toCor E'.trail.length es' (Q++Q')
 nc:nC E'.root+1=nC E.root
 l6:t5 E E'
 qu:E'.queue=E.queue++Q'
 ql:Q'.length<=11
 I4:E'.marks=E.marks
 kn:∀z,Kn E'.root z↔Kn E.root z
 sd:E'.P9=E.P9
 nw:Nw E E'
 fl:uq fs ps E E' True
theorem cX(L:LI fs ps E.toCor E.trail.length es ((l0,r0,y)::Q))(nw:NW E)(hs:E.root left=some s)(hl:E.root right=some l)(hn:s≠l)(q:∀{h:Type} {f:kg->h},f left=f right->f l0=f r0)(h:aS fs (L6 E.root) left right y)(g:E.queue.length<=900)(r:NT ps E.root)(c:CT ps E.toCor)(hc:E.clash=none)(hm:E.marks.length<=1000):
  ∃E' J,(∀P g K,BK K->(∀κ t,false=false->g.z κ t=false)->(A9 P 4 EK).b (.st,[]) ⟨[(0,.g9 .house),(1,iv left),(2,iv right),(3,.a9 (yZ y))],[],hp P g K E⟩ (Eh (.a9 .none) (hp P g K E')))/\Jd fs ps E Q E' (es++[(left,right,y)]) J:=by
 refine(PF L hs hl hn q h g).casesOn λv J h v2 z' w F n N k m B V g rest=> ?_;haveI mk:v.marks.length<=1000000:=by refine rL rest.1.2 ?_;exact bg hm (by decide)
 have D:Nw E v:= .of rest.2.1.2.1 rest.2.1.2.2;have e:∀{a b},L6 _ a b->∃x,Mz 2 25 .all [iv a,iv b] _ _ _/\Told _ a b x:=λe=>e.elim λr h=>M3 F.P h.1 h.2 (F.c1 _ _ ⟨r,h⟩) (F.kn _ _ h.1).1 (F.kn _ _ h.2).1;have W:∀{x},B4 _ _ x->JF left right (yZ y) s l _ _ _ _ {v with clash:=some x,u0:=v.marks.length}->∃E' J,(∀(P) (g) (K),BK K->(∀κ t,false=false->g.z κ t=false)->(A9 P 4 _).b _ ⟨[(0,.g9 .house),(1,iv left),(2,iv right),(3,.a9 _)],[],hp P g K E⟩ (Eh _ (hp P g K E')))/\Jd _ _ E Q E' _ J:=λ{x} c f=>
  ⟨{v with clash:=some x,u0:=v.marks.length},J,w _ f,F,n,N.to rfl rfl,k,m,rest.1.2,λz=>B▸m7,rest.2.1.1,D.trans (.of rfl rfl),.inr ⟨x,rfl,eg (λl=>((uc l):kg)) rest.1.2,c⟩⟩
 by_cases h:v2=0\/h=0
 ·refine(L.b8.2 s ((L.kn _ _ hs).2)).elim λd hd=>hd.2.elim λt A=> ?_;haveI ha:=(rest.2.2 .b8).trans (hd.1.trans (eg _ A.1));have U:∀c∈ps,∃r s,v.root _=some r/\v.root _=some s:=λc m=>haveI q:=F.pk c m;q.1.elim λr S=>q.2.elim λs R=>⟨r,s,S,R⟩;haveI u:∀c∈ps,¬v.root _=v.root _->∃r s,v.root _=some r/\v.root _=some s/\r≠s:=λc m n=>(U c m).imp λr h=>h.imp λs h=>⟨h.1,h.2,λe=>n (h.1.trans ((eg _ e).trans h.2.symm))⟩;refine(first (p:=λc=>v.root c.1=v.root c.2.1) t).elim (λq=> ?_) λq=>D6 q λt c t q=> ?_
  ·have Y:=B▸r.join hn V g h λf m k e=>q f ((A.2 f).mpr ⟨m,k⟩) (B▸e.elim λr e=>e.1.trans e.2.symm);have g:=B▸(t6 hn).mpr (.inl ((L.kn _ _ hl).2));refine(F.C9.2 l g).elim λd hd=>hd.2.elim λws I=> ?_;have hw:=hd.1.trans (eg _ I.1);refine(YW F (D.news nw) λt m=>((I.2 t).mp m).imp λa h=>h.imp λb h=>h.1).elim λE T=> ?_;have M:=T.2.1.ex;have X:E.root=v.root:=by rw [M]
   have r:E.P9=v.P9:=by rw [M]
   refine⟨E,J,w _ (ir h (Mu ha λc m=>u c ((A.2 c).mp m).1 (q c m)) (qp hw T.1 (rL M hw))),T.2.2.1,by refine rL X ?_;exact n,N.trans T.2.1.l6,by refine rL M ?_;exact k,m,by refine rL M ?_;exact rest.1.2,λz=>by refine rL X (rL B ?_);exact m7,by refine rL r ?_;exact rest.2.1.1,D.trans T.2.1.n,.inl ⟨by refine rL M ?_;exact rest.1.1.trans hc,⟨X▸Y,λt a b k g o p=> ?_⟩,trivial⟩⟩;have k:=r▸k;have p:=X▸p;by_cases z:t∈ws
   ·exact T.2.2.2 t z a b k g o p
   ·have s:∀{x},x=a\/x=b->jr _ s l x≠some l:=λ{x} (q) e=>z ((I.2 t).mpr ⟨a,b,k,q.imp (λ(h:x=a)=>((congrFun B a).trans (h▸e))) λ(h:x=b)=>((congrFun B b).trans (h▸e))⟩);rw [B] at p;refine c t a b (rest.2.1.1▸k) ((D.trans T.2.1.n).no g) o ?_;cases o with
    |none=>exact vT hn p (s (.inl rfl))
    |some c=>exact⟨vT hn p.1 (s (.inl rfl)),vT hn p.2.1 (s (.inr rfl)),p.2.2⟩
  ·have m:=((A.2 c).mp (q.1▸Rg _ (.head _))).1;refine(U c m).elim λr k=>k.elim λg k=> ?_;have g:=q.2.1.symm.trans k.1;exact(e ⟨r,k.1,g⟩).elim λx hx=>(W ⟨c,x,pd _ m,hx.2,rfl⟩ (gr h (Lu (q.1▸ha) (λf z=>u f ((A.2 f).mp (q.1▸Kg _ z)).1 (q.2.2 f z)) k.1 g hx.1 (bg hx.2.len (by decide))) mk))
 ·have R:=g.resolve_left λq=>h (.inl q.1);have S:=V.resolve_left λq=>h (.inr q.1);refine(e ⟨l,(B▸IV R.2),(B▸(t6 hn).mpr (.inl S.2))⟩).elim λx hx=>W ?_ (kr (λe=>h (.inl e)) (λe=>h (.inr e)) hx.1 mk);haveI z:x=T7 x 0:=(xg (.inl rfl)).symm;exact(oI _ R.1 _ S.1 λe=>hn (ig (R.2.symm.trans (e▸S.2)))).elim (λe=>⟨(1,2,0),x,.head _,by refine rR e ?_;exact hx.2,z⟩) λe=>⟨(1,2,0),x,.head _,by refine rR e ?_;exact hx.2.symm,z⟩
theorem NK(L:LI fs ps E.toCor E.trail.length es ((l0,r0,y)::Q))(t:NW E)(hs:E.root l0=some s)(hl:E.root r0=some l)(hn:s≠l)(n:E.queue.length<=900)(o:NT ps E.root)(p:CT ps E.toCor)(j:E.clash=none)(hm:E.marks.length<=1000):
  ∃E' d i,Me 5 16 .st [iv l0,iv r0,.a9 (yZ y)] E (.a9 .none) E'/\Jd fs ps E Q E' i d:=by
 haveI k:=(L.qj _ (.head _)).2.2;refine(L.ls (L.kn _ _ hs).2 .mem).elim λm g=>(L.ls (L.kn _ _ hl).2 .mem).elim λu f=> ?_;haveI b1:m.length<=1000000:=bg g.2 (by decide);haveI b2:u.length<=1000000:=bg f.2 (by decide);by_cases h:u.length<m.length
 ·refine(cX L t hl hs (gc hn) (λe=>e.symm) (k.symm λz' z'=>L6.symm) n o p j hm).imp λE' q=>q.imp λd q=>⟨_,vp hs hl g.1 f.1 b1 b2 λx y c=>c.elim (λc=> ?_) λc=>(c.1 h).elim,q.2⟩;refine rL c.2.1 (rL c.2.2 ?_);exact q.1
 ·refine(cX L t hs hl hn (λe=>e) k n o p j hm).imp λE' q=>q.imp λd q=>⟨_,vp hs hl g.1 f.1 b1 b2 λx y c=>c.elim (λc=>(h c.1).elim) λc=> ?_,q.2⟩;refine rL c.2.1 (rL c.2.2 ?_);exact q.1
theorem LI.skip(L:LI fs ps C tl es ((a,b,y)::Q))(h:L6 C.root a b):LI fs ps C tl es Q:=
 have m:∀{x z},Pq _ _ x z->Pq _ Q x z:=λp=>p.mono (λz' z' h=>h) λe m=>(List.mem_cons.mp m).elim (λz z' z' d z'=>by refine rL z ?_;exact d _ _ h) λm z' z' z' c=>c e m
 {L with tc:=λt x r d c g=>(L.tc t x r d c g).imp λo q=>⟨q.1,m q.2⟩,fx:=λf h=>m (L.fx f h),qj:=λe h=>L.qj e (.tail _ h)}
theorem tJ{q d k c c1:yg}(e:d=q+k)(f:k<=11)(h:c1+1=c):d+12*c1+1<=q+12*c:=by
 refine rL e (rR h ?_);rw [Hf q,Mf k];exact Eg (Eg (Hg f) _) q
structure Cd(fs ps:dg u9)(E E':G9)(es' Q':dg N9):Prop where
 li:LI fs ps E'.toCor E'.trail.length es' Q'
 l6:t5 E E'
 I4:E'.marks=E.marks
 kn:∀z,Kn E'.root z↔Kn E.root z
 sd:E'.P9=E.P9
 nw:Nw E E'
 fl:uq fs ps E E' (Q'=[])
theorem RE{N:yg}:∀{spot E es},LI fs ps E.toCor E.trail.length es (E.queue.drop spot)->NW E->NT ps E.root->CT ps E.toCor->E.clash=none->E.marks.length<=1000->E.queue.length+12*nC E.root<=900->E.queue.length+12*nC E.root<N+spot->spot<=E.queue.length->
  ∃E' j Q,fH spot E E'/\Cd fs ps E E' j Q:=by
 induction N with
 |zero=>exactλz' z' z' z' z' z' z' h q=>absurd (Og h (bg (Bg (Tf _)) q)) (Nat.not_lt.mpr (Cg _ _))
 |succ N D=>
  intro spot E es L x v w m hm t A _;haveI F:=bg (Cg _ _) t;have g:E.queue.length<=1000000:=bg F (by decide);by_cases c:E.queue.length<=spot
  ·exact⟨E,es,_,.stop g (.inl c),L,.refl,rfl,λz'=>Ef,rfl,.refl,.inl ⟨m,⟨v,w⟩,ą c⟩⟩
  have c:=Qb c;haveI u:=sf c;have L:=ø c▸L;generalize E.queue[spot]=e at u L;have k:=L.qj _ (.head _);refine k.1.elim λr p=>k.2.1.elim λH o=> ?_;by_cases d:r=H
  ·exact(D (L.skip ⟨r,p,d▸o⟩) x v w m hm t (Nat.lt_of_lt_of_eq A (Af N _)) c).imp λE' h=>h.imp λj h=>h.imp λQ h=>⟨.same g m u p (d▸o) h.1,h.2⟩
  ·refine D6 (NK L x p o d F v w m hm) λE1 I n h=> ?_;haveI B:=(eg _ h.2.qu).trans jg;haveI i:=tJ B h.2.ql h.2.nc;refine h.2.fl.elim (λf=> ?_) λf=> ?_
   ·refine(D (es:=n) ?_ (h.2.nw.news x) f.2.1.1 f.2.1.2 f.1 (h.2.I4▸hm) (bg (Pf i) t) (ze (Qg i (Gb (Nat.lt_of_lt_of_eq A (Af N _))))) (B▸bg c (Cg _ _))).imp λE' q=>q.imp λj q=>q.imp λQ q=>⟨.join g m u p o d h.1 q.1,q.2.li,h.2.l6.trans q.2.l6,q.2.I4.trans h.2.I4,λz=>(q.2.kn z).trans (h.2.kn z),q.2.sd.trans h.2.sd,h.2.nw.trans q.2.nw,?_⟩
    ·refine rL h.2.qu (rL (List.drop_append_of_le_length c) ?_);exact h.2.li
    ·haveI:=q.2.fl;unfold uq at this⊢;refine rR h.2.I4 ?_;exact this
   ·refine⟨E1,n,_,.join g m u p o d h.1 (.stop (bg (bg (bg (Cg _ _) (Pf i)) t) (by decide)) (.inr (f.elim λl f=>by refine rL f.1 ?_;rfl))),h.2.li,h.2.l6,h.2.I4,h.2.kn,h.2.sd,h.2.nw,.inr f⟩
theorem cU(L:LI fs ps E.toCor E.trail.length es E.queue)(nw:NW E)(nt:NT ps E.root)(ct:CT ps E.toCor)(hc:E.clash=none)(hm:E.marks.length<=1000)(hq:E.queue.length<=700):
  ∃E' es' Q',Me 6 15 .st [] E (.a9 .none) E'/\Cd fs ps E E' es' Q'/\E'.queue=[]:=by
 have hn:nC E.root<=11:=Df _ TT;exact(RE L nw nt ct hc hm (bg (mf hq (Pe 12 hn)) (by decide)) (be _) (Xg _)).elim λE' h=>h.elim λes' h=>h.elim λQ' h=>⟨{E' with queue:=[]},es',Q',Vk h.1,⟨h.2.li,h.2.l6.to rfl rfl,h.2.I4,h.2.kn,h.2.sd,h.2.nw.trans (.of rfl rfl),h.2.fl⟩,rfl⟩
end
section
section
variable{ρ:kg->gg kg}{t r z a b:kg}
theorem e8:Kn (f9 ρ t t) z↔Kn ρ z\/z=t:=by
 by_cases e:z=t
 ·exact⟨λz'=> .inr e,λz'=>⟨t,e▸i9⟩⟩
 ·unfold Kn;refine rL (e9 e) ?_;exact(Ma e).symm
theorem L7(h:ρ t=none)(k:Kn ρ z):z≠t:=λe=>k.elim λr q=>by haveI q:=e▸q;haveI q:=h▸q;exact(by nomatch q)
theorem qZ(h:ρ t=none)(e:L6 ρ a b):L6 (f9 ρ t t) a b:=e.imp λr e=>⟨(e9 (L7 h ⟨r,e.1⟩)).trans e.1,(e9 (L7 h ⟨r,e.2⟩)).trans e.2⟩
theorem i8(h:ρ t=none)(n:r≠t):f9 ρ t t z=some r↔ρ z=some r:=by
 by_cases e:z=t
 ·exact⟨λq=>(n (ig ((e▸i9:f9 _ t t z=some t).symm.trans q)).symm).elim,λq=>(L7 h ⟨r,q⟩ e).elim⟩
 ·rw [e9 e]
theorem A2(k:∀z r,ρ z=some r->ρ r=some r)(h:ρ t=none):f9 ρ t t z=some t↔z=t:=by
 by_cases e:z=t
 ·exact⟨λz'=>e,λz'=>e▸i9⟩
 ·refine rL (e9 e) ?_;exact⟨λq=>(L7 h ⟨t,k _ _ q⟩ rfl).elim,λq=>(e q).elim⟩
def pP(ρ ρ':kg->gg kg):Prop:=∀a b,L6 ρ' a b->a=b\/L6 ρ a b
end
variable{E E1:G9}{fs ps:dg u9}{es Q Q':dg N9}{t v x s r:kg}{y:M5}{C C':Cor}{tl tl':yg}{tb:dg kg->gg kg}{u:dg kg}{L' g:LK×kg->gg (dg vg)}{κ:LK}{A:dg vg}
theorem pP.eq{c d:kg->gg kg}{a b:kg}(n:pP c d)(k:Kn c a)(e:L6 d a b):L6 c a b:=(n a b e).elim (λe=>e▸L6.of k rfl) id
theorem NT.MD{c d:kg->gg kg}(h:NT ps c)(n:pP c d)(k:∀f∈ps,Kn c f.1/\Kn c f.2.1):NT ps d:=λf m e=>(n _ _ e).elim (λq=>(List.mem_cons.mp m).elim (λz=>by haveI q:=z▸q;exact absurd q (by decide)) λz=>h f m (q▸L6.of (k f z).1 rfl)) (h f m)
theorem CT.MD(h:CT ps C)(n:pP C.root C'.root)(k:∀t a b,C.P9 t=some (a,b)->t∈UW/\Kn C.root a/\Kn C.root b)(s:C'.P9=C.P9)(d:C'.d8=C.d8):CT ps C':=λt a b q g o p=>by
 have q:=s▸q;haveI g:=d▸g;refine h t a b q g o ?_;cases o with
 |none=>exact n.eq (k t a b q).2.1 p
 |some c=>exact⟨n.eq (k t a b q).2.1 p.1,n.eq (k t a b q).2.2 p.2.1,p.2.2⟩
theorem NI:(λr=>q0 g t (κ,r))=f9 (λr=>g (κ,r)) t (xK t κ):=funext λz'=>Q4
theorem Hj:(λr=>f9 g (κ,s) A (κ,r))=f9 (λr=>g (κ,r)) s A:=funext λr=>by
 by_cases e:r=s
 ·exact rL e (rL i9 (rL i9 rfl))
 ·exact rL (e9 e) (rL (e9 (HX e)) rfl)
def oq(C:Cor)(t r:kg)(l:dg vg):Prop:=Lz l λz=>Kn C.root z/\∃x,Ap z x/\f9 C.root t t x=some r
theorem LI.Lv(L:LI fs ps C tl es Q)(h:C.root t=none):¬(Kn C.root r/\∃x,Ap r x/\f9 C.root t t x=some t):=λq=>q.2.elim λx e=>L7 h (L.sub r x q.1 e.1) ((A2 (λz' z' h=>(L.kn _ _ h).2) h).mp e.2)
theorem LI.lA(h:C.root t=none):∀z,f9 C.root t t z=none->C.root z=none/\z≠t:=λz q=>by
 by_cases e:z=t
 ·rw [e,i9] at q;exact(by nomatch q)
 ·rw [e9 e] at q;exact⟨q,e⟩
theorem LI.xH(L:LI fs ps C tl es Q)(h:C.root t=none):Of (f9 C.root t t) (λr=>q0 C.ls t (.use,r)) (oq C t):=rL NI (L.use.set ⟨[],rfl,uf,λz=>⟨(λh=>(by nomatch h)),λq=>(L.Lv h q).elim⟩⟩ (LI.lA h) λr q n=>⟨(i8 h n).mp q,λa A=>A.congr λz=>ud Ef (vd λx=>ud Ef (i8 h n).symm)⟩)
theorem LI.Dw(L:LI fs ps C tl es Q)(h:C.root t=none)(n:∀x,¬Ap t x):Of (f9 C.root t t) (λr=>q0 C.ls t (.use,r)) (UM (f9 C.root t t)):=
 ⟨(L.xH h).1,λr q=>((L.xH h).2 r q).imp λl A=>⟨A.1,Lz.congr A.2 λz=>⟨λk=>⟨e8.mpr (.inl k.1),k.2⟩,λk=>⟨(e8.mp k.1).resolve_right λe=>k.2.elim λx a=>n x (e▸a.1),k.2⟩⟩⟩⟩
theorem LI.Ew(L:LI fs ps C tl es Q)(h:C.root t=none)(hx:Ap t x)(c:f9 C.root t t x=some r)(hn:r≠t)(U:UM C.root r (zs u)):Of (f9 C.root t t) (λz=>f9 (q0 C.ls t) (.use,r) (zs (u++[t])) (.use,z)) (UM (f9 C.root t t)):=by
 have U:=U.elim λm q=>wU q.1▸q.2;refine rL Hj ((L.xH h).set ⟨u++[t],rfl,f7 U.1 λm=>L7 h ((U.2 t).mp m).1 rfl,λz=> ?_⟩ (λz q=>⟨q,λe=>by haveI q:=e▸q;haveI q:=((i8 h hn).mpr (L.kn _ _ ((i8 h hn).mp c)).2)▸q;exact(by nomatch q)⟩) λi q n=>⟨q,λa A=>Lz.congr A λz=>⟨λk=>⟨e8.mpr (.inl k.1),k.2⟩,λk=>⟨(e8.mp k.1).resolve_right λe=>k.2.elim λj a=>n ?_,k.2⟩⟩⟩)
 ·refine List.mem_append.trans ⟨λm=>m.elim (λm=> ?_) λm=>by refine rL (List.mem_singleton.mp m) ?_;exact⟨e8.mpr (.inr rfl),x,hx,c⟩,λk=>(e8.mp k.1).elim (λd=> .inl ?_) λe=> .inr (e▸ .head _)⟩
  ·haveI m:=(U.2 z).mp m;exact⟨e8.mpr (.inl m.1),m.2.imp λx q=>⟨q.1,(i8 h hn).mpr q.2⟩⟩
  ·exact(U.2 z).mpr ⟨d,k.2.imp λx q=>⟨q.1,(i8 h hn).mp q.2⟩⟩
 ·haveI f:=z1 hx (e▸a.1);exact ig (a.2.symm.trans (f▸c))
theorem LI.enter(L:LI fs ps C tl es Q)(F:t∈TT)(h:C.root t=none)(w:∀x,Ap t x->Kn C.root x)(M:∀κ r,κ≠ .use->L' (κ,r)=q0 C.ls t (κ,r))(H:Of (f9 C.root t t) (λr=>L' (.use,r)) (UM (f9 C.root t t)))(U:(v=0/\t∉VV)\/(v=t/\t∈VV))(tab:Tab (f9 C.root t t) tb)(I:∀m z,C.tab m=some z->tb m=some z)
  (J:∀x r,Ap t x->f9 C.root t t x=some r->∃o,tb [sy t,r]=some o/\Pq (f9 C.root t t) Q' t o) (R:∀e∈Q',QJ fs (f9 C.root t t) e) (hl:tl'<=tl+2):
  LI fs ps {C with root:=f9 C.root t t,ls:=L',val:=f9 C.val t v,tab:=tb} tl' es (Q++Q'):=by
 have j:∀z r,C.root z=some r->C.root r=some r:=λz' z' h=>(L.kn _ _ h).2;haveI B:=LI.lA h;have P:∀{a b},Pq _ Q a b->Pq _ (Q++Q') a b:=λp=>p.mono (λz' z'=>qZ h) λe m z' z' z' T=>T e (Kg _ m);have O:nK (f9 _ t t)=nK C.root+1:=j1 (rL h rfl) (rL i9 rfl) (λz n=>by rw [e9 n]) (by decide) F;have N:nC _=nC C.root+1:=j1 (Ig (rL h (λq=>(by nomatch q)))) (Dg i9) (λz n=>by rw [e9 n]) (by decide) F;haveI G:=λκ n=>(funext λr=>M κ r n).trans NI;have K:∀{z},Kn _ z->f9 _ t t z≠some t:=λk e=>L7 h k ((A2 j h).mp e);refine⟨λz r q=> ?_,λz x k a=> ?_,G .mem LK.noConfusion▸L.mem.set ⟨[t],rfl,List.nodup_cons.mpr ⟨(λh=>(by nomatch h)),uf⟩,λz=>List.mem_singleton.trans (A2 j h).symm⟩ B λr q n=>⟨(i8 h n).mp q,λa A=>Lz.congr A λz=>(i8 h n).symm⟩,H,
  G .b8 LK.noConfusion▸L.b8.set ⟨[],rfl,λc=>⟨(λh=>(by nomatch h)),λq=>(q.2.elim (K (L.pk c q.1).1) (K (L.pk c q.1).2)).elim⟩⟩ B λr q n=>⟨(i8 h n).mp q,λa A=>A.congr λc z'=>⟨(i8 h n).symm,(i8 h n).symm⟩⟩,
  G .C9 LK.noConfusion▸L.C9.set ⟨[],rfl,λz=>⟨(λh=>(by nomatch h)),λq=>M8 q λa b q=>(q.2.elim (K (L.sk z a b q.1).2.1) (K (L.sk z a b q.1).2.2)).elim⟩⟩ B λr q n=>⟨(i8 h n).mp q,λa A=>A.congr λz c d z'=>⟨(i8 h n).symm,(i8 h n).symm⟩⟩,λκ r a hκ q=> ?_,
  L.val.set (U.imp (λ(q)=>⟨q.1,λz m e=>q.2 ((A2 j h).mp e▸m)⟩) λ(q:v=t/\t∈VV)=>q.1.symm▸⟨q.2,i9⟩) B λr q n=>⟨(i8 h n).mp q,λa A=>A.imp (λA=>⟨A.1,λz m e=>A.2 z m ((i8 h n).mp e)⟩) λA=>⟨A.1,(i8 h n).mpr A.2⟩⟩,tab,L.P,λa b e=>e.elim λr e=> ?_,λe m=>qZ h (L.c2 e m),λz x r k a q=> ?_,λf m=>P (L.fx f m),λe m=>(List.mem_append.mp m).elim (λm=>(L.qj e m).mono (λz' h=>h) (λz' k=>e8.mpr (.inl k)) λz' z'=>qZ h) (R e),λf m=>⟨e8.mpr (.inl (L.pk f m).1),e8.mpr (.inl (L.pk f m).2)⟩,λz a b q=>haveI k:=L.sk z a b q;⟨k.1,e8.mpr (.inl k.2.1),e8.mpr (.inl k.2.2)⟩,λz o q=>(L.tk z o q).imp λa q=>q.imp λb q=>⟨q.1,q.2.mono (λz' z'=>qZ h) λz' h=>h⟩,L.pl,?_⟩
 ·by_cases e:r=t
  ·rw [e] at q⊢;exact⟨(A2 j h).mp q▸F,i9⟩
  ·haveI q:=L.kn _ _ ((i8 h e).mp q);exact⟨q.1,(i8 h e).mpr q.2⟩
 ·exact e8.mpr (.inl ((e8.mp k).elim (λk=>L.sub z x k a) λe=>w x (e▸a)))
 ·show a.length<=(nS _+ps.length)*2^_;refine rL O (rL N ?_);rw [Nat.add_sub_add_right];haveI q:=(M _ r (λe=>hκ.elim (λz=>LK.noConfusion (z.symm.trans e)) λz=>LK.noConfusion (z.symm.trans e))).symm.trans q;rw [Q4] at q;by_cases e:r=t
  ·rw [xg e] at q;refine rR (ig q) (rL (show xK t _=[] from hκ.elim (λz=>z▸rfl) λz=>z▸rfl) ?_);exact Xg _
  ·rw [og e] at q;exact L.bd _ r a hκ q
 ·by_cases z:r=t
  ·haveI e:=z▸e;refine rL ((A2 j h).mp e.1) (rL ((A2 j h).mp e.2) ?_);exact .refl _
  ·exact L.c1 a b ⟨r,(i8 h z).mp e.1,(i8 h z).mp e.2⟩
 ·by_cases e:z=t
  ·rw [e] at a⊢;exact(J x r a q).imp λo h=>⟨h.1,h.2.gD⟩
  ·haveI k:=(e8.mp k).resolve_right e;exact(L.tc z x r k a ((e9 (L7 h (L.sub z x k a))).symm.trans q)).imp λo h=>⟨I _ _ h.1,P h.2⟩
 ·haveI:=L.nI;show tl'+6*nC _<=8*nK _+nS C.P9+nS C.d8+ps.length;refine rL O (rL N ?_);refine bg (Qf hl _) ?_;omega
theorem Qh:∀t∈TT,t∈t8.map (·.1)\/(t∈VV/\∀p∈t8,p.1≠t)\/(t∈[3,4,5]/\t∉VV/\∀p∈t8,p.1≠t):=by decide
theorem XS(h:∀p∈t8,p.1≠t)(x:kg):¬Ap t x:=λa=>h _ a rfl
theorem kq(h:Ap t x):t∉VV:=λm=>(by decide:∀p∈t8,p.1∉VV) _ h m
inductive Eo(fs ps:dg u9)(E:G9)(es Q:dg N9)(t:kg):Prop
 |mk (E':G9) (Q':dg N9) (w:Me 4 11 .st [iv t] E (.a9 .none) E') (li:LI fs ps E'.toCor E'.trail.length es (Q++Q')) (l6:t5 E E') (qu:E'.queue=E.queue++Q') (ql:Q'.length<=1) (rt:E'.root=f9 E.root t t) (sd:E'.P9=E.P9/\E'.d8=E.d8/\E'.news=E.news) (rest:E'.clash=E.clash/\E'.marks=E.marks)
theorem hY(L:LI fs ps E.toCor E.trail.length es Q)(y:E.queue.length<=900)(F:t∈TT)(h:E.root t=none)(i:∀x,Ap t x->Kn E.root x):
  Eo fs ps E es Q t:=by
 haveI W:=L.vX;have H:E.trail.length<=1000000:=bg W (by decide);have S:∀κ,E.ls (κ,t)=none:=λκ=>by
  cases κ with
  |mem=>exact L.mem.1 _ h
  |use=>exact L.use.1 _ h
  |b8=>exact L.b8.1 _ h
  |C9=>exact L.C9.1 _ h
 have P:=L.val.1 _ h;have l2:∀{x},(E.trail++[x]).length<=E.trail.length+1:=Bg jg;have w:Tab _ E.tab:=λm z q=>(L.tb m z q).imp (λk=>e8.mpr (.inl k)) λq=>q.imp λx q=>q.imp λr q=>⟨q.1,(e9 (L7 h ⟨r,q.2.1⟩)).trans q.2.1,q.2.2⟩;haveI D:∀{v} _ _ (M:Me 4 11 .st [iv t] E _ {E.ent t v with trail:=E.trail++[.enter t []]}),Eo _ _ E _ Q t:=λ{v} U g M=>
  ⟨_,[],M,L.enter F h i (λz' z' z'=>rfl) (L.Dw h U) g w (λz' z' h=>h) (λx z' a=>(U x a).elim) (λz' m=>(by nomatch m)) (bg l2 (Gf _)),(JL h S P).l6 rfl (.en t rfl rfl rfl (λz=>e8) h F i),(Fg _).symm,Xg _,rfl,⟨rfl,rfl,rfl⟩,rfl,rfl⟩
 refine(Qh t F).elim (λk=>(List.mem_map.mp k).elim λp k=> ?_) λk=>k.elim (λk=>D (XS k.2) (.inr ⟨rfl,k.1⟩) (Uu k.1 (f0 t F) H)) λk=>D (XS k.2.2) (.inl ⟨rfl,k.2.1⟩) (Vu k.1 (f0 t F) H);have hx:Ap t p.2:=k.2▸k.1;generalize p.2=x at hx;refine(i x hx).elim λs hs=> ?_;have G:=(L.kn _ _ hs).2;haveI sn:=L7 h ⟨_,G⟩;have B:f9 _ t t x=some s:=(e9 (L7 h ⟨_,hs⟩)).trans hs;refine(L.use.2 _ G).elim λd hd=>hd.2.elim λu O=> ?_;haveI b:u.length<=1000000:=bg (O.2.len λz q=>q.1.elim λr q=>(L.kn _ _ q).1) (by decide);haveI I:=hd.1.trans (eg _ O.1);refine(ap (E:={E.ent t 0 with ls:=f9 _ _ _,trail:=E.trail++[.enter t [s]]}) (e8.mpr (.inr rfl)) hx B (f0 _ ((L.kn _ _ G).1)) w (bg l2 (bg (Hg W) (by decide))) (bg y (by decide))).casesOn λk z' Q c g z' N q w K A fd=>(⟨G9.lk {E.ent t 0 with ls:=f9 _ _ _,trail:=E.trail++[.enter t [s]]} k _ _,Q,Wu hx (f0 t F) B (Q4.trans ((og sn).trans I)) b H (by cases c with|cons c1 X=>cases X;exact c1.lift),L.enter F h i (λκ r n=>e9 (DV n)) (L.Ew h hx B sn (O.1▸hd.2)) (.inl ⟨rfl,kq hx⟩) w K (λx r a q=> ?_) A ?_,t5.trans ((IL h S P sn I b).l6 (E1:={E.ent t 0 with ls:=f9 _ _ _,trail:=E.trail++[.enter t [s]]}) rfl (.en t rfl rfl rfl (λz=>e8) h F i)) g,rfl,q,rfl,⟨rfl,rfl,rfl⟩,rfl,rfl⟩)
 ·haveI q:=z1 a hx▸q;exact ig (q.symm.trans B)▸fd t (.head _)
 ·exact bg N (Hg l2)
end
section
variable{m tl:yg}{E E1 E2:G9}{fs ps:dg u9}{es Q Q':dg N9}{t x z a b:kg}{ρ:kg->gg kg}{C:Cor}{R R':kg->kg->Prop}{l:dg kg}
noncomputable def Dp:yg->kg->Prop
 |0,_=>False
 |m+1,t=>t∈TT/\∀x,Ap t x->Dp m x
theorem Jp(h:t∈TT):Dp 3 t:=⟨h,λz' hx=>⟨(A0 hx).2.1,λz' c=>⟨(A0 c).2.1,λz' hw=>(by decide:∀p∈t8,∀q∈t8,∀r∈t8,p.2=q.1->q.2=r.1->False) _ hx _ c _ hw rfl rfl⟩⟩⟩
theorem aH(t:kg):(∃x,Ap t x)\/∀p∈t8,p.1≠t:=by
 by_cases h:t∈t8.map (·.1)
 ·exact(List.mem_map.mp h).elim λp q=> .inl ⟨p.2,q.2▸q.1⟩
 ·exact .inr λp m e=>h (List.mem_map.mpr ⟨p,m,e⟩)
theorem xN(h:t∈TT):∃as,(∀E,Mz 2 9 .all [iv t] E (.a9 (.tuple (zs as))) E)/\((as=[]/\∀p∈t8,p.1≠t)\/∃x,as=[x]/\Ap t x):=
 (Qh t h).elim (λk=>(List.mem_map.mp k).elim λp k=>⟨[p.2],λE P g K hB z'=>lw (hB.a _ _ (k.2▸k.1)) hB o5 rfl,.inr ⟨p.2,rfl,k.2▸k.1⟩⟩) λk=>k.elim (λk=>⟨[],λE P g K hB z'=>(hB.v t k.1).elim λd T=>Zp k.1 T hB o5 rfl,.inl ⟨rfl,k.2⟩⟩) λk=>⟨[],λE P g K hB z'=>(hB.c t k.1).elim λd T=>lw T hB o5 rfl,.inl ⟨rfl,k.2.2⟩⟩
inductive Ao(fs ps:dg u9)(E:G9)(es:dg N9)(t:kg)(m:yg):Prop
 |mk (E':G9) (li:LI fs ps E'.toCor E'.trail.length es E'.queue) (l6:t5 E E') (rest:E'.clash=E.clash/\E'.marks=E.marks) (sd:E'.P9=E.P9/\E'.d8=E.d8/\E'.news=E.news) (ql:E'.queue.length<=E.queue.length+m) (MD:pP E.root E'.root) (add:∀st E2,st.length+m<=100->Add st E' E2->Add (st++[t]) E E2) (kt:Kn E'.root t) (lt:∀z,Kn E'.root z->Kn E.root z\/z<=t)
theorem IZ{s:dg kg}{k:yg}(h:s.length+(m+1)<=100)(c:100<=k):(s++[t]).length+m<=k:=by
 refine rL jg ?_;rw [Hf,Mf _ m];exact bg h c
theorem UX(L:LI fs ps E.toCor E.trail.length es Q)(h:E.root t=none)(c:ρ=f9 E.root t t):pP E.root ρ:=λa b e=>e.elim λr e=>by
 haveI e:=c▸e;by_cases z:r=t
 ·haveI e:=z▸e;haveI k:∀z r,E.root z=some r->E.root r=some r:=λz' z' h=>(L.kn _ _ h).2;exact .inl (((A2 k h).mp e.1).trans ((A2 k h).mp e.2).symm)
 ·exact .inr ⟨r,(i8 h z).mp e.1,(i8 h z).mp e.2⟩
theorem pP.trans{f d c:kg->gg kg}(h:pP f d)(g:pP d c):pP f c:=λa b e=>(g a b e).elim .inl (h a b)
theorem mD{m:yg}:∀{t E},Dp m t->LI fs ps E.toCor E.trail.length es E.queue->E.queue.length+m<=100->Ao fs ps E es t m:=by
 induction m with
 |zero=>exactλh=>h.elim
 |succ m U=>
  intro t E hd L B;cases f:E.root t with
  |some r=>exact⟨E,L,.refl,⟨rfl,rfl⟩,⟨rfl,rfl,rfl⟩,Cg _ _,λz' z'=> .inr,λH z' hs A=> .known (bg (Cg _ _) (IZ hs (by decide))) (eg _ f) A,⟨r,f⟩,λz'=> .inl⟩
  |none=>
   have F:=hd.1;refine(xN F).elim λas I=> ?_;have W:∀{x} {E:G9},Kn _ x->(E.root x).isSome=true:=λk=>k.elim λr k=>eg _ k;by_cases c:∀x,Ap t x->Kn E.root x
   ·refine(hY L (bg (bg (Cg _ _) B) (by decide)) F f c).casesOn λE' z' w D d j G g o rest=> ?_;refine⟨E',j▸D,d,rest,o,?_,UX L f g,λH z' hs A=> .new (bg (Cg _ _) (IZ hs (by decide))) (eg _ f) (I.1 E) (I.2.imp ù λh=>h.imp λx h=>⟨h.1,W (c x h.2)⟩) w A,g▸e8.mpr (.inr rfl),λz k=>(e8.mp (g▸k)).imp id λe=>ē e⟩;refine rL j (rL jg ?_);exact Eg (bg G (Hg (Xg _))) _
   ·refine(aH t).elim (λh=>h.elim λx a=> ?_) λh=>(c λx a=>(XS h x a).elim).elim;have v:E.root x=none:=by
     cases q:E.root x with
     |none=>rfl
     |some r=>exact(c λy b=>z1 a b▸⟨r,q⟩).elim
    refine(U (hd.2 x a) L (bg (Eg (Gf m) _) B)).casesOn λE1 O X J p M P T V l=> ?_;have i:E1.root t=none:=by
     cases q:E1.root t with
     |none=>rfl
     |some r=>exact((l t ⟨r,q⟩).elim (λk=>L7 f k rfl) λh=>Int.not_le.mpr (A0 a).2.2 h).elim
    refine(hY O (bg M (bg (bg (Eg (Gf m) _) B) (by decide))) F i λy b=>z1 a b▸V).casesOn λE' z' w D d j G g o rest=> ?_;haveI K:as=[x]:=I.2.elim (λe=>(XS e.2 x a).elim) λh=>h.elim λy h=>by refine rL (z1 a h.2) ?_;exact h.1
    refine⟨E',j▸D,X.trans d,⟨rest.1.trans J.1,rest.2.trans J.2⟩,⟨o.1.trans p.1,o.2.1.trans p.2.1,o.2.2.trans p.2.2⟩,?_,P.trans (UX O i g),λH z' hs A=> .more (bg (Hg (bg (Cg _ _) (IZ hs (Ag _)))) (by decide)) (eg _ f) (K▸I.1 E) (eg _ v) (T _ _ (IZ hs (Ag _)) (.new (bg (Cg _ _) (IZ hs (by decide))) (eg _ i) (I.1 _) (.inr ⟨x,K,W V⟩) w A)),g▸e8.mpr (.inr rfl),λz k=>(e8.mp (g▸k)).elim (λk=>(l z k).imp id λh=>Gd (Fe h (A0 a).2.2)) λe=> .inr (ē e)⟩;refine rL j (rL jg ?_);exact(mf M G:_<=E.queue.length+m+1)
theorem Cl.mono(h:∀x y,R x y->R' x y)(c:Cl R a b):Cl R' a b:=λg f d e=>c _ f (λx y q=>d x y (h x y q)) e
def AY(fs:dg u9)(a b:kg):Prop:=∃m,(a,b,m)∈fs
def z4(fs ps:dg u9):Prop:=∀f∈Pa ps,¬Cl (AY fs) f.1 f.2.1
theorem Told.all(h:Told fs a b l):Cl (AY fs) a b:=h.elim λf h=>h.2.2.2.2.mono λx y q=>q.imp λm q=>q.1
theorem B4.not(h:B4 fs ps l)(c:z4 fs ps):False:=M8 h λf d h=>c f h.1 h.2.1.all
structure Good(fs ps:dg u9)(E:G9):Prop where
 li:∃es,LI fs ps E.toCor E.trail.length es []
 nt:NT ps E.root
 ct:CT ps E.toCor
 cl:E.clash=none
 qu:E.queue=[]
 nw:NW E
structure WM(E E':G9):Prop where
 l6:t5 E E'
 I4:E'.marks=E.marks
 nw:Nw E E'
theorem WM.trans(h:WM E E1)(g:WM E1 E2):WM E E2:=⟨h.l6.trans g.l6,g.I4.trans h.I4,h.nw.trans g.nw⟩
theorem t5.kn(s:t5 E E1):Kn E.root z->Kn E1.root z:=s.casesOn λz' z' z' z' b=>b.mono z
theorem nY(L:LI fs ps E.toCor E.trail.length es E.queue)(nw:NW E)(nt:NT ps E.root)(ct:CT ps E.toCor)(hc:E.clash=none)(hm:E.marks.length<=1000)(hq:E.queue.length<=700)(c:z4 fs ps):
  ∃E',Me 6 15 .st [] E (.a9 .none) E'/\Good fs ps E'/\WM E E'/\(∀z,Kn E'.root z↔Kn E.root z)/\E'.P9=E.P9:=
 (cU L nw nt ct hc hm hq).imp λE' h=>h.elim λes' h=>h.elim λQ' h=>⟨h.1,h.2.1.fl.elim (λf=>⟨⟨es',f.2.2▸h.2.1.li⟩,f.2.1.1,f.2.1.2,f.1,h.2.2,h.2.1.nw.news nw⟩) λf=>f.elim λl f=>(f.2.2.not c).elim,⟨h.2.1.l6,h.2.1.I4,h.2.1.nw⟩,h.2.1.kn,h.2.1.sd⟩
theorem Q7(G:Good fs ps E)(c:z4 fs ps)(ht:t∈TT)(hm:E.marks.length<=1000):
  ∃E',Me 7 10 .st [iv t] E (.a9 .none) E'/\Good fs ps E'/\WM E E'/\Kn E'.root t/\E'.P9=E.P9:=by
 refine G.li.elim λes L=>((mD (Jp ht) (G.qu.symm▸L) (by rw [G.qu];decide)).casesOn λE1 L1 s1 r1 d1 q1 n1 a1 k1 lt1=> ?_);rw [G.qu] at q1;have w:Nw E E1:= .of d1.2.1 d1.2.2;exact(nY L1 (w.news G.nw) (G.nt.MD n1 L.pk) (G.ct.MD n1 L.sk d1.1 d1.2.1) (r1.1.trans G.cl) (r1.2▸hm) (bg q1 (by decide)) c).imp λE' h=>⟨Yk (a1 [] E1 (by decide) .nil) h.1,h.2.1,⟨s1.trans h.2.2.1.l6,h.2.2.1.I4.trans r1.2,w.trans h.2.2.1.nw⟩,(h.2.2.2.1 t).mpr k1,h.2.2.2.2.trans d1.1⟩
theorem LI.fact{m:kg}(L:LI fs ps C tl es [])(ha:Kn C.root a)(hb:Kn C.root b):LI (fs++[(a,b,m)]) ps C tl es [(a,b,.mk m)]:=
 have mo:∀{x z},Pq C.root [] x z->Pq C.root [(a,b,.mk m)] x z:=λp=>p.mono (Q:=[]) (λz' z' h=>h) (λz' m=>(by nomatch m))
 {L with
  P:=⟨L.P.F,L.P.u,λp e q h=>(L.P.j p e q h).mono (λz'=>Kg _) λz' z' h=>h⟩
  tc:=λt x r h1 h2 h3=>(L.tc t x r h1 h2 h3).imp λo q=>⟨q.1,mo q.2⟩
  fx:=λf h=>(j8 h).elim (λh=>mo (L.fx f h)) λe=>e▸λz' z' z' h2=>h2 _ (.head _)
  qj:=λe h=>List.mem_singleton.mp h▸⟨ha,hb,.inl (Rg _ (.head _))⟩}
def Dd(fs ps:dg u9)(E E':G9):Prop:=WM E E'/\E'.P9=E.P9/\(∃ps' es Q,LI fs ps' E'.toCor E'.trail.length es Q)/\NW E'/\(Good fs ps E'\/∃l,E'.clash=some l/\E'.u0=E.marks.length/\B4 fs ps l)
theorem NO{m:kg}(G:Good fs ps E)(c:z4 fs ps)(ha:a∈TT)(hb:b∈TT)(hm:E.marks.length<=1000):
  ∃E',Me 8 14 .st [iv a,iv b,.a9 (.int m)] E (.a9 .none) E'/\Dd (fs++[(a,b,m)]) ps E E':=by
 refine(Q7 G c ha hm).elim λE1 h1=>(Q7 h1.2.1 c hb (h1.2.2.1.I4▸hm)).elim λE2 h2=> ?_;have G2:=h2.2.1;have k2:=h1.2.2.1.trans h2.2.2.1;refine G2.li.elim λes L2=>((cU (E:={E2 with queue:=E2.queue++[(a,b,.mk m)]}) (by show LI _ _ _ _ _ (E2.queue++_);rw [G2.qu];exact L2.fact (h2.2.2.1.l6.kn h1.2.2.2.1) h2.2.2.2.1) G2.nw G2.nt G2.ct G2.cl (k2.I4.symm▸hm) (by show(E2.queue++_).length<=_;rw [G2.qu];exact vf rfl)).imp λE3 h=>h.elim λes3 h=>h.elim λQ3 h=>⟨Xk h1.1 h2.1 (by rw [G2.qu];exact Xg _) h.1,k2.trans ⟨h.2.1.l6.from rfl rfl,h.2.1.I4,(Nw.of (E:=E2) (E1:={E2 with queue:=E2.queue++[(a,b,.mk m)]}) rfl rfl).trans h.2.1.nw⟩,h.2.1.sd.trans (h2.2.2.2.2.trans h1.2.2.2.2),⟨ps,es3,Q3,h.2.1.li⟩,h.2.1.nw.news G2.nw,?_⟩);exact h.2.1.fl.elim (λf=> .inl ⟨⟨es3,f.2.2▸h.2.1.li⟩,f.2.1.1,f.2.1.2,f.1,h.2.2,h.2.1.nw.news G2.nw⟩) λf=> .inr<|f.imp λl f=>⟨f.1,f.2.1.trans (eg (λl=>((uc l):kg)) k2.I4),f.2.2⟩
end
section
variable{m t x z u a b one other r:kg}{E E1 E2:G9}{fs ps:dg u9}{es:dg N9}{ρ:kg->gg kg}{C C1:Cor}{tl:yg}{l l1 l2:dg vg}{f:u9}{κ:LK}{g:LK×kg->gg (dg vg)}
theorem Gp(h:κ≠κ'){A:dg vg}:(λr=>f9 g (κ',one) A (κ,r))=λr=>g (κ,r):=funext λr=>e9 (DV h)
theorem I1.OD(h:I1 ps ρ r l)(q:ρ f.1=some r\/ρ f.2.1=some r):I1 (ps++[f]) ρ r (l++[D4 f]):=h.elim λts h=>⟨ts++[f],by rw [h.1,Ng];rfl,λc=>by
 rw [qc,qc,h.2,ke];exact⟨λk=>k.elim (λk=>⟨.inl k.1,k.2⟩) λk=>⟨.inr k,k.symm▸q⟩,λk=>k.1.elim (λk'=> .inl ⟨k',k.2⟩) .inr⟩⟩
theorem I1.wv(h:I1 ps ρ r l)(q:ρ f.1≠some r)(d:ρ f.2.1≠some r):I1 (ps++[f]) ρ r l:=h.imp λt h=>⟨h.1,λc=>(h.2 c).trans (by
 rw [qc,ke];exact⟨λk=>⟨.inl k.1,k.2⟩,λk=>⟨k.1.elim id λe=>(k.2.elim (e▸q) (e▸d)).elim,k.2⟩⟩)⟩
theorem NB{w j n:yg}(h:n<=w*2^j):n+1<=(w+1)*2^j:=by rw [Nat.succ_mul];exact mf h (Nat.one_le_two_pow)
theorem LI.apart(L:LI fs ps C tl es [])(s:C.root f.1=some one)(k:C.root f.2.1=some other)(hn:one≠other)(B:C.ls (.b8,one)=some l1)(A:C.ls (.b8,other)=some l2)(hp:ps.length<20):
  LI fs (ps++[f]) {C with ls:=f9 (f9 C.ls (.b8,one) (l1++[D4 f])) (.b8,other) (l2++[D4 f])} (tl+1) es []:=by
 haveI y:=(L.kn _ _ s).2;haveI w:=(L.kn _ _ k).2;haveI v:(ps++[f]).length=ps.length+1:=jg;haveI u:∀{p} {κ:LK},κ≠ .b8->Of _ _ p->Of C.root (λr=>f9 (f9 C.ls (.b8,one) (l1++[D4 f])) (.b8,other) (l2++[D4 f]) _) p:=λn h=>by refine rL (Gp n) (rL (Gp n) ?_);exact h
 refine⟨L.kn,L.sub,u LK.noConfusion L.mem,u LK.noConfusion L.use,⟨λt h=> ?_,λr D=> ?_⟩,u LK.noConfusion L.C9,λκ r l hκ h=> ?_,L.val,L.tb,L.P,L.c1,L.c2,L.tc,L.fx,L.qj,λg m=>(j8 m).elim (L.pk g) λe=>by refine rL e ?_;exact⟨⟨_,s⟩,_,k⟩,L.sk,λt o h=>(L.tk t o h).imp λa q=>q.imp λb q=>⟨q.1,q.2.mono (λz' z' h=>h) λz'=>Kg _⟩,by refine rL v ?_;exact hp,by refine rL v ?_;exact Hg L.nI|>(bg (Bg (tf ..)))⟩
 ·have n:∀{x},C.root x=some x->t≠x:=λq e=>by haveI h:=e▸h;haveI h:=q▸h;exact(by nomatch h)
  exact((e9 (HX (n w))).trans (e9 (HX (n y)))).trans (L.b8.1 t h)
 ·by_cases j:r=other
  ·exact⟨_,j▸i9,j▸(L.b8.at w A).OD (.inr k)⟩
  ·by_cases e1:r=one
   ·exact⟨_,(e9 (HX j)).trans (e1▸i9),e1▸(L.b8.at y B).OD (.inl s)⟩
   ·exact(L.b8.2 r D).imp λl q=>⟨(e9 (HX j)).trans ((e9 (HX e1)).trans q.1),q.2.wv (λz=>e1 (ig (z.symm.trans s))) λz=>j (ig (z.symm.trans k))⟩
 ·show l.length<=(nS C.P9+(ps++[f]).length)*2^(nK C.root-nC C.root);refine rL v ?_;haveI up:∀{l},C.ls (.b8,one)=some l\/C.ls (.b8,other)=some l->(l++[D4 f]).length<=(nS C.P9+ps.length+1)*2^(nK C.root-nC C.root):=λh=>jg▸NB (h.elim (L.bd _ _ _ (.inl rfl)) (L.bd _ _ _ (.inl rfl)));by_cases j:(κ,r)=(.b8,other)
  ·haveI h:f9 _ _ _ (κ,r)=some l:=h;have h:=j▸h;rw [i9] at h;exact ig h▸up (.inr A)
  ·haveI h:f9 _ _ _ _=some l:=h;rw [e9 j] at h;by_cases e1:(κ,r)=(.b8,one)
   ·rw [e1,i9] at h;exact ig h▸up (.inl B)
   ·rw [e9 e1] at h;exact bg (L.bd _ r l hκ h) (Ğ _ (Gf _))
theorem CT.tell{c:dg u9}(d:CT ps C)(s:C1.P9=C.P9)(r:C1.root=C.root)(n:∀t,C1.d8 t=none->C.d8 t=none)(w:∀t a b,C.P9 t=some (a,b)->C1.d8 t=none->(∃o,B0 c C.root a b o)->∃o,B0 ps C.root a b o):CT c C1:=λt a b q g o p=>by
 have q:=s▸q;haveI p:=r▸p;exact(w t a b q g ⟨o,p⟩).elim λo' p'=>d t a b q (n t g) _ p'
theorem hV(G:Good fs ps E)(c:z4 fs ps)(ha:a∈TT)(hb:b∈TT)(hm:E.marks.length<=1000)(hp:ps.length<20):
  ∃E',Me 8 26 .st [iv a,iv b,iv m] E (.a9 .none) E'/\Dd fs (ps++[(a,b,m)]) E E':=by
 refine(Q7 G c ha hm).elim λE1 h1=>(Q7 h1.2.1 c hb (h1.2.2.1.I4▸hm)).elim λE2 h2=> ?_;have G2:=h2.2.1;have k2:=h1.2.2.1.trans h2.2.2.1;have sd2:=h2.2.2.2.2.trans h1.2.2.2.2;have mk2:E2.marks.length<=1000000:=k2.I4.symm▸bg hm (by decide);refine G2.li.elim λes L=>(h2.2.2.1.l6.kn h1.2.2.2.1).elim λone ra=>h2.2.2.2.1.elim λother rb=> ?_;have o1:=(L.kn _ _ ra).2;have o2:=(L.kn _ _ rb).2;refine(L.ls o1 .b8).elim λl1 a1=>(L.ls o2 .b8).elim λl2 a2=> ?_;have b1:l1.length<=1000000:=bg a1.2 (by decide);have b2:l2.length<=1000000:=bg a2.2 (by decide);have b3:E2.trail.length<=1000000:=bg L.vX (by decide);by_cases e:one=other
 ·have rb:=e.symm▸rb;refine(M3 L.P ra rb (L.c1 _ _ ⟨one,ra,rb⟩) ha hb).elim λx hx=>(⟨{E2 with clash:=some (T7 x m),u0:=E2.marks.length},Iu h1.1 h2.1 G2.cl ra rb hx.1 (bg hx.2.len (by decide)) mk2,⟨k2.l6.to rfl rfl,k2.I4,k2.nw.trans (.of rfl rfl)⟩,sd2,⟨ps,es,[],L⟩,G2.nw,.inr ⟨_,rfl,eg (λl=>((uc l):kg)) k2.I4,(a,b,m),x,pd _ (Rg _ (.head _)),hx.2,rfl⟩⟩)
 ·have L3:=L.apart (f:=(a,b,m)) ra rb e a1.1 a2.1 hp;have ln:(E2.trail++[Ent.apart one other]).length=E2.trail.length+1:=jg;refine(L3.C9.2 one o1).elim λd hd=>hd.2.elim λws hws=> ?_;have hw:=hd.1.trans (eg some hws.1);refine(YW (E:={E2 with ls:=f9 (f9 E2.ls (.b8,one) (l1++[D4 (a,b,m)])) (.b8,other) (l2++[D4 (a,b,m)]),trail:=E2.trail++[.apart one other]}) (ln.symm▸L3) G2.nw λt m=>((hws.2 t).mp m).imp λa h=>h.imp λb h=>h.1).elim λE5 T=> ?_;have x5:=T.2.1.ex;have r5:E5.root=E2.root:=by rw [x5]
  have s5:E5.P9=E2.P9:=by rw [x5]
  have nw5:Nw E2 E5:=Nw.trans (E1:={E2 with ls:=f9 (f9 E2.ls (.b8,one) (l1++[D4 (a,b,m)])) (.b8,other) (l2++[D4 (a,b,m)]),trail:=E2.trail++[.apart one other]}) (.of rfl rfl) T.2.1.n;refine⟨E5,Ju h1.1 h2.1 G2.cl ra rb e a1.1 a2.1 b1 b2 b3 (qp hw T.1 (by rw [x5];exact hw)),k2.trans ⟨t5.trans ((FP e a1.1 a2.1 b1 b2).l6 (E1:={E2 with ls:=f9 (f9 E2.ls (.b8,one) (l1++[D4 (a,b,m)])) (.b8,other) (l2++[D4 (a,b,m)]),trail:=E2.trail++[.apart one other]}) rfl (.no (λz'=>Ef) rfl rfl rfl)) T.2.1.l6,by rw [x5],nw5⟩,s5.trans sd2,⟨_,es,[],T.2.2.1⟩,nw5.news G2.nw,.inl ⟨⟨es,T.2.2.1⟩,λf m e'=> ?_,?_,by rw [x5];exact G2.cl,by rw [x5];exact G2.qu,nw5.news G2.nw⟩⟩
  ·rw [r5] at e';refine(List.mem_cons.mp m).elim (λz=>G2.nt f (z▸ .head _) e') λm=>(j8 m).elim (λm=>G2.nt f (pd _ m) e') λz=> ?_;rw [z] at e';exact e'.elim λr q=>e (ig ((ra.symm.trans q.1).trans (q.2.symm.trans rb)))
  ·refine G2.ct.tell s5 r5 (λt g=>nw5.no g) λt a' b' q g k=> ?_;refine Classical.byContradiction λno=>k.elim λo p=> ?_;have sdn:¬Sd E2.P9 E2.root one t:=λz=>T.2.2.2 t ((hws.2 t).mpr z) a' b' q g o p;refine no ⟨o,?_⟩;cases o with
   |none=>exact p
   |some c=>
    have old:∀{w:u9},w∈Pa (ps++[(a,b,m)])->w≠(a,b,m)->w∈Pa ps:=λk n=>List.mem_cons.mpr ((List.mem_cons.mp k).imp id λk=>(j8 k).resolve_right n);refine⟨p.1,p.2.1,p.2.2.imp (λk=>old k λz=> ?_) λk=>old k λz=> ?_⟩
    ·rw [z] at p;exact sdn ⟨a',b',q,.inl (p.1.elim λr h=>h.1.trans (h.2.symm.trans ra))⟩
    ·have z:=(Zf z).1;exact sdn ⟨a',b',q,.inr (p.2.1.elim λr h=>h.1.trans (h.2.symm.trans (z▸ra)))⟩
variable{p:kg}{Q Q':dg N9}{seg:dg Ent}{ent us vs:dg kg}{wt:dg p8}{σ:kg->gg (kg×kg)}
theorem Sd.ne(n:z≠t):Sd (f9 σ t (a,b)) ρ r z↔Sd σ ρ r z:=by unfold Sd;rw [e9 n]
theorem D1.OD(h:D1 σ ρ r (zs us))(c:σ t=none)(q:ρ a=some r\/ρ b=some r):D1 (f9 σ t (a,b)) ρ r (zs (us++[t])):=h.elim λm h=>⟨us++[t],rfl,λz=>by
 rw [qc,ke,wU h.1,h.2];by_cases e:z=t
 ·refine rL e ?_;exact⟨λz'=>⟨a,b,i9,q⟩,λz'=> .inr rfl⟩
 ·rw [Sd.ne e];exact Ma e⟩
theorem D1.wv(h:D1 σ ρ r l)(d:σ t=none)(c:ρ a≠some r)(q:ρ b≠some r):D1 (f9 σ t (a,b)) ρ r l:=h.imp λus h=>⟨h.1,λz=>(h.2 z).trans (by
 by_cases e:z=t
 ·refine rL e ?_;exact⟨λk=>M8 k λz' z' k=>gP d k.1,λk=>M8 k λf z' k=>by
   haveI g:=Zf (ig (i9.symm.trans k.1));exact(k.2.elim (g.1▸c) (g.2▸q)).elim⟩
 ·exact(Sd.ne e).symm)⟩
theorem iZ{f:LK×kg->gg (dg vg)}{κ:LK}:U4 f t one other us vs (κ,r)=if κ= .C9/\r=one/\one=other then some (zs (us++[t])) else if κ= .C9/\r=other/\one≠other then some (zs (vs++[t])) else if κ= .C9/\r=one then some (zs (us++[t])) else f (κ,r):=by
 unfold U4;by_cases k:κ= .C9
 ·refine rL k ?_;by_cases e:one=other
  ·refine rL (xg e) ?_;by_cases g:r=one
   ·exact rL (xg ⟨rfl,g,e⟩) (rL g (rL i9 rfl))
   ·exact rL (og λz=>g z.2.1) (rL (og λz=>z.2.2 e) (rL (og λz=>g z.2) (rL (e9 (HX g)) rfl)))
  ·refine rL (og e) (rL (og λz=>e z.2.2) ?_);by_cases g:r=other
   ·exact rL (xg ⟨rfl,g,e⟩) (rL g (rL i9 rfl))
   ·refine rL (og λz=>g z.2.1) (rL (e9 (HX g)) ?_);by_cases g:r=one
    ·exact rL (xg ⟨rfl,g⟩) (rL g (rL i9 rfl))
    ·exact rL (og λz=>g z.2) (rL (e9 (HX g)) rfl)
 ·haveI n:∀{p} [Zb (κ= .C9/\p)] {x y:gg (dg vg)},(if κ= .C9/\p then x else y)=y:=λ{p _ x y}=>og λz=>k z.1;refine rL n (rL n (rL n ?_));by_cases e:one=other
  ·refine rL (xg e) ?_;exact e9 (DV k)
  ·refine rL (og e) ?_;exact(e9 (DV k)).trans (e9 (DV k))
theorem uH{f:LK×kg->gg (dg vg)}{κ:LK}(n:κ≠ .C9):(λr=>U4 f t one other us vs (κ,r))=λr=>f (κ,r):=funext λr=>iZ.trans (rL (og λz=>n z.1) (rL (og λz=>n z.1) (rL (og λz=>n z.1) rfl)))
theorem LI.watch(L:LI fs ps C B es Q)(j:C.P9 t=none)(F:t∈UW)(k:C.root a=some one)(y:C.root b=some other)(v:C.ls (.C9,one)=some (zs us))(G:one≠other->C.ls (.C9,other)=some (zs vs)):
  LI fs ps {C with P9:=f9 C.P9 t (a,b),ls:=U4 C.ls t one other us vs} (B+1) es Q:=by
 haveI D:=(L.kn _ _ k).2;have ns:nS (f9 _ t (a,b))=nS C.P9+1:=j1 (rL j rfl) (rL i9 rfl) (λz n=>by rw [e9 n]) (by decide) F;haveI A:∀{p} {κ:LK},κ≠ .C9->Of _ _ p->Of C.root (λr=>U4 C.ls t one other us vs _) p:=λn h=>by refine rL (uH n) ?_;exact h
 refine⟨L.kn,L.sub,A LK.noConfusion L.mem,A LK.noConfusion L.use,A LK.noConfusion L.b8,⟨λz h=> ?_,λr u=> ?_⟩,λκ r l hκ h=> ?_,L.val,L.tb,L.P,L.c1,L.c2,L.tc,L.fx,L.qj,L.pk,λz c d q=> ?_,λz o q=>(L.tk z o q).imp λc q=>q.imp λd q=>⟨(e9 λe=>by haveI q:=e▸q;haveI q:=j▸q;exact(by nomatch q.1)).trans q.1,q.2⟩,L.pl,?_⟩
 ·haveI n:∀{x},C.root x=some x->z≠x:=λq e=>by rw [e,q] at h;exact(by nomatch h)
  exact iZ.trans (rL (og λq=>n D q.2.1) (rL (og λq=>n ((L.kn _ _ y).2) q.2.1) (rL (og λq=>n D q.2) (L.C9.1 z h))))
 ·show∃l,U4 _ t _ _ _ _ _=some l/\_;refine rL iZ ?_;by_cases e1:r=one
  ·by_cases e:one=other
   ·refine rL (xg ⟨rfl,e1,e⟩) ?_;exact⟨_,rfl,(L.C9.at u (e1▸v)).OD j (.inl (e1▸k))⟩
   ·refine rL (og λq=>e q.2.2) (rL (og λq=>e (e1.symm.trans q.2.1)) (rL (xg ⟨rfl,e1⟩) ?_));exact⟨_,rfl,(L.C9.at u (e1▸v)).OD j (.inl (e1▸k))⟩
  ·by_cases i:r=other
   ·haveI e:one≠other:=λe=>e1 (i.trans e.symm);refine rL (og λq=>e1 q.2.1) (rL (xg ⟨rfl,i,e⟩) ?_);exact⟨_,rfl,(L.C9.at u (i▸G e)).OD j (.inr (i▸y))⟩
   ·exact rL (og λq=>e1 q.2.1) (rL (og λq=>i q.2.1) (rL (og λq=>e1 q.2) ((L.C9.2 r u).imp λl q=>⟨q.1,q.2.wv j (λz=>e1 (ig (z.symm.trans k))) λz=>i (ig (z.symm.trans y))⟩)))
 ·show l.length<=(nS _+ps.length)*2^(nK C.root-nC C.root);refine rL ns ?_;rw [tf];have up:∀{l r},C.ls (.C9,r)=some _->(zs _).length<=(nS _+ps.length+1)*2^_:=λ{l r} h=>by
   exact rL (show(zs (l++[t])).length=(zs l).length+1 by refine rR N1 (rL jg ?_);rfl) (NB (L.bd _ _ _ (.inr rfl) h))
  replace h:U4 _ t _ _ _ _ _=some l:=h;rw [iZ] at h;split at h
  ·exact ig h▸up v
  ·split at h
   ·rename_i q;exact ig h▸up (G q.2.2)
   ·split at h
    ·exact ig h▸up v
    ·exact bg (L.bd _ r l hκ h) (Ğ _ (Gf _))
 ·by_cases e:z=t
  ·haveI g:=Zf (ig (i9.symm.trans (e▸q)));exact⟨e▸F,g.1▸⟨_,k⟩,g.2▸⟨_,y⟩⟩
  ·exact L.sk z c d ((e9 e).symm.trans q)
 ·show B+1+6*nC _<=8*nK _+nS _+nS _+ps.length;refine rL ns ?_;rw [tf,<-Hf,tf _ 1,tf _ 1];exact Hg L.nI
theorem eO(G:Good fs ps E)(h0:E.P9 t=none)(ht:t∈UW)(ka:Kn E.root a)(kb:Kn E.root b):
  ∃E',Me 4 32 .st [iv t,iv a,iv b] E (.a9 .none) E'/\Good fs ps E'/\WM E E'/\E'.P9=f9 E.P9 t (a,b)/\E'.root=E.root:=by
 refine G.li.elim λes L=>ka.elim λone ra=>kb.elim λother rb=> ?_;have o1:=(L.kn _ _ ra).2;have o2:=(L.kn _ _ rb).2;have bl:∀{us:dg kg} {r:kg},E.ls (.C9,r)=some (zs us)->us.length<=1000000:=λh=>by
  have:=bg (L.bd _ _ _ (.inr rfl) h) (HO L.pl);exact bg (Bg (ng _).symm) (bg this (by decide))
 refine(L.C9.2 one o1).elim λd1 w1=>w1.2.elim λus hu=>(L.C9.2 other o2).elim λd2 w2=>w2.2.elim λvs hv=> ?_;have h1:=w1.1.trans (eg some hu.1);have h2:=w2.1.trans (eg some hv.1);have LW:=L.watch h0 ht ra rb h1 λz'=>h2;have ln:(E.trail++[Ent.watch t one other]).length=E.trail.length+1:=jg;refine(sS (E:={E with P9:=f9 E.P9 t (a,b),ls:=U4 E.ls t one other us vs,trail:=E.trail++[.watch t one other]}) (ln.symm▸LW) G.nw i9).imp λE' T=> ?_;have x5:=T.tl.ex;have nw5:Nw E E':=Nw.trans (E1:={E with P9:=f9 E.P9 t (a,b),ls:=U4 E.ls t one other us vs,trail:=E.trail++[.watch t one other]}) (.of rfl rfl) T.tl.n;have r5:E'.root=E.root:=by rw [x5]
 refine⟨Nk ra rb (gK t ht) h1 (λz'=>h2) (bl h1) (λz'=>bl h2) (bg L.vX (by decide)) T.w,⟨⟨es,T.li⟩,r5.symm▸G.nt,λz c d q g o k=> ?_,by rw [x5];exact G.cl,by rw [x5];exact G.qu,nw5.news G.nw⟩,⟨t5.trans ((EP h1 (λz'=>h2) h0 (bl h1) λz'=>bl h2).l6 (E1:={E with P9:=f9 E.P9 t (a,b),ls:=U4 E.ls t one other us vs,trail:=E.trail++[.watch t one other]}) rfl (.wt t a b rfl rfl rfl (λz'=>Ef) h0)) T.tl.l6,by rw [x5],nw5⟩,by rw [x5],r5⟩;have q:f9 E.P9 t (a,b) z=some (c,d):=by rw [x5] at q;exact q
 rw [r5] at k;by_cases e:z=t
 ·exact T.cm c d (e▸q) (e▸g) o k
 ·exact G.ct z c d ((e9 e).symm.trans q) (nw5.no g) o k
theorem tP(G:Good fs ps E)(c:z4 fs ps)(h0:E.P9 t=none)(ht:t∈UW)(ha:a∈TT)(hb:b∈TT)(hm:E.marks.length<=1000):
  ∃Ea Eb E',Me 7 10 .st [iv a] E (.a9 .none) Ea/\Me 7 10 .st [iv b] Ea (.a9 .none) Eb/\Me 4 32 .st [iv t,iv a,iv b] Eb (.a9 .none) E'/\Good fs ps E'/\WM E E'/\E'.P9=f9 E.P9 t (a,b):=by
 refine(Q7 G c ha hm).elim λE1 h1=>(Q7 h1.2.1 c hb (h1.2.2.1.I4▸hm)).elim λE2 h2=> ?_;have sd:=h2.2.2.2.2.trans h1.2.2.2.2;exact(eO h2.2.1 (sd▸h0) ht (h2.2.2.1.l6.kn h1.2.2.2.1) h2.2.2.2.1).elim λE3 h3=>⟨E1,E2,E3,h1.1,h2.1,h3.1,h3.2.1,(h1.2.2.1.trans h2.2.2.1).trans h3.2.2.1,h3.2.2.2.1.trans (sd▸rfl)⟩
theorem cZ.app{d:Type}{T:d->G9->G9->Prop}{l1 l2:dg d}(h:cZ T l1 E E1)(g:cZ T l2 E1 E2):cZ T (l1++l2) E E2:=by
 induction h with
 |nil=>exact g
 |cons s _ i=>exact .cons s (i g)
theorem RQ(b:vU C C1 seg ent wt):∀{E:G9},LI fs ps E.toCor E.trail.length es E.queue->(∀z,Kn E.root z↔Kn C.root z)->E.queue.length+ent.length<=500->
  ∃E',cZ (λt E E'=>Me 4 11 .st [iv t] E (.a9 .none) E') ent E E'/\LI fs ps E'.toCor E'.trail.length es E'.queue/\t5 E E'/\(E'.clash=E.clash/\E'.marks=E.marks)/\(E'.P9=E.P9/\E'.d8=E.d8/\E'.news=E.news)/\pP E.root E'.root/\(∀z,Kn E'.root z↔Kn C1.root z)/\E'.queue.length<=E.queue.length+ent.length:=by
 induction b with
 |same=>exactλ{E} L k z'=>⟨E,.nil,L,.refl,⟨rfl,rfl⟩,⟨rfl,rfl,rfl⟩,λz' z'=> .inr,k,Ag _⟩
 | @snoc C1 C2 seg ent en wt wl x b u q ih=>
  intro E L k hq;rw [jg] at hq⊢;refine(ih L k (bg (Eg (Cg _ _) _) hq)).elim λE1 h=> ?_;have kz:=h.2.2.2.2.2.2.1;have old:en=[]->(∀z,Kn C2.root z↔Kn C1.root z)->∃E',cZ (λt E E'=>Me 4 11 .st [iv t] E (.a9 .none) E') (ent++en) E E'/\LI fs ps E'.toCor E'.trail.length es E'.queue/\t5 E E'/\(E'.clash=E.clash/\E'.marks=E.marks)/\(E'.P9=E.P9/\E'.d8=E.d8/\E'.news=E.news)/\pP E.root E'.root/\(∀z,Kn E'.root z↔Kn C2.root z)/\E'.queue.length<=E.queue.length+(ent.length+en.length):=λe w=>by
   rw [e,Fg];exact⟨E1,h.1,h.2.1,h.2.2.1,h.2.2.2.1,h.2.2.2.2.1,h.2.2.2.2.2.1,λz=>(kz z).trans (w z).symm,h.2.2.2.2.2.2.2⟩
  cases q with
  |no w _ e _=>exact old e w
  |wt _ _ _ e _ _ w _=>exact old e w
  |en t e _ _ w hn ht hx=>
   have h1:E1.root t=none:=by
    cases z:E1.root t with
    |none=>rfl
    |some r=>exact(L7 hn ((kz t).mp ⟨r,z⟩) rfl).elim
   rw [e] at hq⊢;have ql:=h.2.2.2.2.2.2.2;refine(hY h.2.1 (bg ql (bg (bg (Eg (Cg _ _) _) hq) (by decide))) ht h1 λx a=>(kz x).mpr (hx x a)).casesOn λE' Q' w' li l6 qu ql' rt sd rest=>⟨E',h.1.app (.cons w' .nil),qu▸li,h.2.2.1.trans l6,⟨rest.1.trans h.2.2.2.1.1,rest.2.trans h.2.2.2.1.2⟩,⟨sd.1.trans h.2.2.2.2.1.1,sd.2.1.trans h.2.2.2.2.1.2.1,sd.2.2.trans h.2.2.2.2.1.2.2⟩,h.2.2.2.2.2.1.trans (UX h.2.1 h1 rt),λz=> ?_,?_⟩
   ·rw [rt,w];exact e8.trans (Na (kz z) Ef)
   ·rw [qu,jg];exact bg (mf ql ql') (Bg (Hf ..))
theorem EU(b:vU C C1 seg ent wt):∀{E:G9},Good fs ps E->E.P9=C.P9->(∀t a b,C1.P9 t=some (a,b)->t∈UW/\Kn E.root a/\Kn E.root b)->
  ∃E',cZ (λc E E'=>Me 4 32 .st [iv c.1,iv c.2.1,iv c.2.2] E (.a9 .none) E') wt E E'/\Good fs ps E'/\WM E E'/\E'.P9=C1.P9/\E'.root=E.root:=by
 induction b with
 |same=>exactλ{E} G s z'=>⟨E,.nil,G,⟨.refl,rfl,.refl⟩,s,rfl⟩
 | @snoc C1 C2 seg ent en wt wl x b u q ih=>
  intro E G s k;have old:wl=[]->C2.P9=C1.P9->∃E',cZ (λc E E'=>Me 4 32 .st [iv c.1,iv c.2.1,iv c.2.2] E (.a9 .none) E') (wt++wl) E E'/\Good fs ps E'/\WM E E'/\E'.P9=C2.P9/\E'.root=E.root:=λw g=>by
   rw [w,Fg,g];exact ih G s λt a b h=>k t a b (g▸h)
  cases q with
  |no _ g _ w=>exact old w g
  |en _ _ w g _ _ _ _=>exact old w g
  |wt t c d _ w g _ h0=>
   refine(ih G s λz a b h=>k z a b (by rw [g,e9 λe=>by rw [e,h0] at h;exact(by nomatch h)];exact h)).elim λE1 h=> ?_;have kt:=k t c d (by rw [g];exact i9);have r1:=h.2.2.2.2;refine(eO h.2.1 (h.2.2.2.1▸h0) kt.1 (r1▸kt.2.1) (r1▸kt.2.2)).imp λE2 h2=> ?_;rw [w,g];exact⟨h.1.app (.cons h2.1 .nil),h2.2.1,h.2.2.1.trans h2.2.2.1,h2.2.2.2.1.trans (h.2.2.2.1▸rfl),h2.2.2.2.2.trans r1⟩
end
section
variable{m tl:yg}{S E E1 E2:G9}{fs fs' ps ps':dg u9}{es Q:dg N9}{t x z a b r v w p:kg}{ρ:kg->gg kg}{tab:dg kg->gg kg}{C:Cor}{mk0 mk1 l l1 l2:dg kg}{o:gg p8}{c:p8}
theorem wG(G:Good fs ps S)(c:z4 fs ps)(s:t5 S E)(hp_:p=mk1.length+1)(hk:E.marks=mk0++(S.trail.length:kg)::mk1)(hm:E.marks.length<=1000)(L':LI fs' ps' E.toCor E.trail.length es Q)(nw:NW E)(hc:E.clash=none\/(mk0.length:kg)<E.u0):
  ∃E',(∀(P:y8) (g:q9) (K:R8),BK K->(∀κ t,false=false->g.z κ t=false)->∃g',g'.r=g.r/\g'.z=g.z/\i7 P 7 .s2 38 [.g9 .house,iv p] (hp P g K E) (.a9 .none) (hp P g' K E'))/\Good fs ps E'/\t5 S E'/\E'.marks=mk0/\E'.P9=E.P9/\∃E0,E0.d8=S.d8/\E0.news=NZ S.toCor E.news/\Nw E0 E':=by
 refine G.li.elim λes L=>s.casesOn λseg ent wt tr b=> ?_;have tl:=L'.vX;have sg:=bg (bg (Wb _ _) (Bg (tr▸List.length_append.symm))) tl;have sl:=bg b.len.1 sg;have sw:=bg b.len.2 sg;have hc':(if(mk0.length)<E.u0 then none else E.clash)=none:=by
  by_cases q:(mk0.length)<E.u0
  ·exact xg q
  ·exact(og q).trans (hc.resolve_right q)
 have m0:=lh (hk▸hm);have nw0:NW {E with toCor:=S.toCor,trail:=S.trail,marks:=mk0,queue:=[],news:=NZ S.toCor E.news,clash:=if(mk0.length)<E.u0 then none else E.clash}:=⟨nw.1.filter _,λt m=>Option.isSome_iff_exists.mp (List.mem_filter.mp m).2⟩;refine(RQ (E:={E with toCor:=S.toCor,trail:=S.trail,marks:=mk0,queue:=[],news:=NZ S.toCor E.news,clash:=if(mk0.length:kg)<E.u0 then none else E.clash}) b L (λz'=>Ef) (bg (Bg (Tf _)) (bg sl (by decide)))).elim λE1 h=> ?_;have d1:=h.2.2.2.2.1;have w1:Nw {E with toCor:=S.toCor,trail:=S.trail,marks:=mk0,queue:=[],news:=NZ S.toCor E.news,clash:=if(mk0.length:kg)<E.u0 then none else E.clash} E1:= .of d1.2.1 d1.2.2;refine(nY h.2.1 (w1.news nw0) (G.nt.MD h.2.2.2.2.2.1 L.pk) (G.ct.MD h.2.2.2.2.2.1 L.sk d1.1 d1.2.1) (h.2.2.2.1.1.trans hc') (h.2.2.2.1.2▸m0) (bg h.2.2.2.2.2.2.2 (bg (Bg (Tf _)) (bg sl (by decide)))) c).elim λE2 h2=> ?_;have kn:∀z,Kn E2.root z↔Kn E.root z:=λz=>(h2.2.2.2.1 z).trans (h.2.2.2.2.2.2.1 z);refine(EU b h2.2.1 (h2.2.2.2.2.trans d1.1) λt a b q=>have k:=L'.sk t a b q;⟨k.1,(kn a).mpr k.2.1,(kn b).mpr k.2.2⟩).imp λE3 h3=>⟨λP g K hB hz=> ?_,h3.2.1,((h.2.2.1.trans h2.2.2.1.l6).trans h3.2.2.1.l6).from rfl rfl,h3.2.2.1.I4.trans (h2.2.2.1.I4.trans h.2.2.2.1.2),h3.2.2.2.1,{E with toCor:=S.toCor,trail:=S.trail,marks:=mk0,queue:=[],news:=NZ S.toCor E.news,clash:=if(mk0.length:kg)<E.u0 then none else E.clash},rfl,rfl,(w1.trans h2.2.2.1.nw).trans h3.2.2.1.nw⟩;have w:=Jk (P:=P) hp_ b (bg sl (by decide)) (bg sw (by decide)) (bg (hk▸hm) (by decide)) (tr▸bg tl (by decide)) (bg (L'.news nw) (by decide)) h.1 h2.1 h3.1 hB hz;rw [<-hk,<-tr] at w;exact w
noncomputable def Lr(e:kg->gg kg)(t:dg kg->gg kg)(s:kg)(w:yg×kg):yg×kg:=match w.1 with
 |0=>match(t [s,w.2]).bind e with
  |some q=>(0,q)
  |none=>(1,w.2)
 |k+1=>(k+2,w.2)
noncomputable def Dn(e:kg->gg kg)(d:dg kg->gg kg):yg->kg->yg×kg
 |0,t=>(0,t)
 |m+1,t=>match e t with
  |some r=>(0,r)
  |none=>match t8.lookup t with
   |some x=>Lr e d (sy t) (Dn e d m x)
   |none=>(0,t)
theorem UA(h:Ap t x):t8.lookup t=some x:=(by decide:∀p∈t8,t8.lookup p.1=some p.2) _ h
theorem SA(h:∀p∈t8,p.1≠t):t8.lookup t=none:=List.lookup_eq_none_iff.mpr λp m=>bne_iff_ne.mpr (gc (h p m))
theorem y4(h:ρ t=some r):Dn ρ tab (m+1) t=(0,r):=by unfold Dn;rw [h]
theorem YM(h:ρ t=none)(a:Ap t x):Dn ρ tab (m+1) t=Lr ρ tab (sy t) (Dn ρ tab m x):=by
 conv=>lhs;unfold Dn
 exact rL h (rL (UA a) rfl)
theorem oU(h:ρ t=none)(a:∀p∈t8,p.1≠t):Dn ρ tab (m+1) t=(0,t):=by unfold Dn;rw [h,SA a]
theorem Px:∀{m t},Dp m t->Dn ρ tab m t=Dn ρ tab (m+1) t:=by
 intro m;induction m with
 |zero=>exactλh=>h.elim
 |succ m i=>
  intro t h;cases q:ρ t with
  |some r=>rw [y4 q,y4 q]
  |none=>exact(aH t).elim (λh'=>h'.elim λx a=>by rw [YM q a,YM q a,i (h.2 x a)]) λa=>by rw [oU q a,oU q a]
theorem cQ(L:LI fs ps C tl es [])(a:Ap t x):Dn C.root C.tab 3 t=Lr C.root C.tab (sy t) (Dn C.root C.tab 3 x):=by
 cases q:C.root t with
 |none=>rw [Px (Jp (A0 a).1),YM q a]
 |some r=>
  refine(L.sub t x ⟨r,q⟩ a).elim λf hx=>(L.tc t x _ ⟨r,q⟩ a hx).elim λo h=>(L.tb _ _ h.1).1.elim λg d=>(rL (h.2 _ (Dn _ _ 3) (λx y e=>e.elim λr e=>by rw [y4 e.1,y4 e.2]) (λz' h=>(by nomatch h))) ?_);refine rL (y4 d) (rL (y4 hx) ?_);show _=match(C.tab [sy t,f]).bind _ with
   |some q=>(0,q)
   |none=>(1,f)
  refine rL h.1 ?_;rw [Option.bind_some,d]
theorem LI.dn(L:LI fs ps C tl es [])(c:Cl (AY fs) a b):Dn C.root C.tab 3 a=Dn C.root C.tab 3 b:=
 c _ _ (λx y h=>h.elim λm h=>L.fx _ h _ _ (λx y e=>e.elim λr e=>by rw [y4 e.1,y4 e.2]) λz' h=>(by nomatch h)) λa b x y f d s e=>by rw [cQ L f,cQ L d,s,e]
theorem LI.WD(L:LI fs ps C tl es [])(c:Cl (AY fs) a b)(ha:Kn C.root a)(hb:Kn C.root b):L6 C.root a b:=ha.elim λr ha=>hb.elim λs hb=>by
 have h:=L.dn c;rw [y4 ha,y4 hb] at h;exact⟨r,ha,(Zf h).2▸hb⟩
theorem AP:∀v∈VV,∀p∈t8,p.1≠v:=by decide
theorem LI.num(L:LI fs ps C tl es [])(c:Cl (AY fs) a v)(ha:Kn C.root a)(hv:v∈VV):Kn C.root v:=ha.elim λr ha=>by
 have h:=L.dn c;cases q:C.root v with
 |some s=>exact⟨s,q⟩
 |none=>
  rw [y4 ha,oU q (AP v hv)] at h;have z:=(L.kn _ _ ha).2;rw [(Zf h).2,q] at z;exact(by nomatch z)
theorem LI.end(L:LI fs ps C tl es [])(c:Cl (AY fs) a v)(h:Kn C.root a)(d:Kn C.root v\/v∈VV):L6 C.root a v:=L.WD c h (d.elim id (L.num c h))
theorem LI.pe(L:LI fs ps C tl es Q){f:u9}(m:f∈Pa ps):(Kn C.root f.1\/f.1∈VV)/\(Kn C.root f.2.1\/f.2.1∈VV):=(List.mem_cons.mp m).elim (λe=>e▸⟨.inr (by decide),.inr (by decide)⟩) λm=>⟨.inl (L.pk f m).1,.inl (L.pk f m).2⟩
theorem Good.cons(G:Good fs ps E):z4 fs ps:=λf m c=>G.li.elim λes L=>by
 haveI e:=L.pe m;cases q:E.root _ with
 |some r=>exact G.nt f m (L.end c ⟨r,q⟩ e.2)
 |none=>cases i:E.root _ with
  |some s=>exact G.nt f m (L.end c.symm ⟨s,i⟩ e.1).symm
  |none=>
   have n:∀{v},E.root v=none->Kn _ v\/v∈VV->v∈VV:=λh k=>k.resolve_left λk=>k.elim λr k=>gP h k;haveI h:=L.dn c;haveI h:=oU q (AP _ (n q e.1))▸h;have h:=oU i (AP _ (n i e.2))▸h;refine(List.mem_cons.mp m).elim (λz=> ?_) λm=>(L.pk f m).1.elim λr k=>gP q k;exact absurd (Zf (z▸h)).2 (by decide)
theorem Good.why(G:Good fs ps E)(h:L6 E.root a b):∃l,Mz 2 25 .all [iv a,iv b] E (.a9 (.list (zs l))) E/\Told fs a b l:=
 G.li.elim λes L=>h.elim λr h=>M3 L.P h.1 h.2 (L.c1 _ _ ⟨r,h⟩) (L.kn _ _ h.1).1 (L.kn _ _ h.2).1
theorem Good.Sr(G:Good fs ps E)(h:L6 E.root a b):Cl (AY fs) a b:=(G.why h).elim λz' h=>h.2.all
def YT(fs ps:dg u9)(a b:kg)(o:gg p8):Prop:=Å o (Cl (AY fs) a b) λc=>Cl (AY fs) a c.1/\Cl (AY fs) b c.2.1/\(c∈Pa ps\/(c.2.1,c.1,c.2.2)∈Pa ps)
theorem Good.BY(G:Good fs ps E)(hs:E.P9 t=some (a,b))(h:E.d8 t=some o):YT fs ps a b o:=G.li.elim λes L=>(L.tk t o h).elim λa' q=>q.elim λb' q=>by
 have e:=Zf (ig (hs.symm.trans q.1));rw [e.1,e.2];cases o with
 |none=>exact G.Sr q.2
 |some c=>exact⟨G.Sr q.2.1,G.Sr q.2.2.1,q.2.2.2⟩
theorem Good.tells(G:Good fs ps E)(hs:E.P9 t=some (a,b))(h:YT fs ps a b o):∃o',E.d8 t=some o':=G.li.elim λes L=>by
 cases q:E.d8 t with
 |some o=>exact⟨o,rfl⟩
 |none=>
  have k:=L.sk t a b hs;cases o with
  |none=>exact(G.ct t a b hs q none (L.WD h k.2.1 k.2.2)).elim
  |some c=>
   have e:=h.2.2.elim (λm=>L.pe m) λm=>(L.pe m).symm;exact(G.ct t a b hs q (some c) ⟨L.end h.1 k.2.1 e.1,L.end h.2.1 k.2.2 e.2,h.2.2⟩).elim
def Gx(fs ps:dg u9)(a b:kg)(l:dg kg)(o:gg p8):Prop:=Å o (Told fs a b l) λc=>∃l1 l2,Told fs a c.1 l1/\Told fs b c.2.1 l2/\l=T7 (rh l1 l2) c.2.2/\(c∈Pa ps\/(c.2.1,c.1,c.2.2)∈Pa ps)
theorem Good.JP(G:Good fs ps E)(hs:E.P9 t=some (a,b))(h:E.d8 t=some o):∃l,Mz 4 36 .all [iv t] E (.a9 (.list (zs l))) E/\Gx fs ps a b l o:=G.li.elim λes L=>M8 (L.tk t o h) λd z' q=>by
 have e:=Zf (ig (hs.symm.trans q.1));haveI q:=q.2;rw [<-e.1,<-e.2] at q;cases o with
 |none=>exact(G.why q).imp λl k=>⟨zu hs h k.1,k.2⟩
 |some c=>
  refine(G.why q.1).elim λl1 f=>(G.why q.2.1).elim λl2 g=>⟨T7 _ _,Au hs h (Pk f.1 g.1 (bg f.2.len (by decide)) (bg g.2.len (by decide)) ?_),l1,l2,f.2,g.2,rfl,q.2.2⟩;exact rL ((Mb _).length_eq) (rL jg (bg (mf f.2.len (bg (Df ..) g.2.len)) (by decide)))
end
section
variable{P:y8}{n D j i:yg}{K:R8}{b:Tg->gg d9}{β:yg->gg d9}{fl rest:dg (yg×AV)}{o:d9}{op nm:Str}{as:dg kg}{s:kg}{d:vg}{dk:KI}
noncomputable def y0(f:dg (yg×AV))(D:yg)(a:yg->gg d9)(b:Tg->gg d9):Tg->gg d9
 | .bank=>some (.inst D f)
 | .bk k=>a k
 |τ=>b τ
noncomputable def wY(a:yg->gg d9)(j:yg)(o:d9)(i:yg):gg d9:=if i=j then some o else a i
theorem kY:up (y0 fl D β b) (.bk j) o=y0 fl D (wY β j o) b:=B9 (λτ h=>by
 cases τ with
 |bk k=>exact(og λe=>h (eg _ e)).symm
 |_=>rfl) (xg rfl)
noncomputable def AW(rest:dg (yg×AV)):dg (yg×AV):=[(17,.g9 (.bk 0)),(18,.g9 (.bk 1)),(19,.g9 (.bk 2)),(20,.g9 (.bk 3)),(21,.g9 (.bk 4)),(22,iv 0),(23,.g9 (.bk 5)),(24,.g9 (.bk 6)),(25,.g9 (.bk 7)),(26,.g9 (.bk 8)),(27,.g9 (.bk 9))]++rest
noncomputable def R8.mk'(K:R8)(o:Str)(as:dg kg)(s:kg)(d:vg)(dk:KI):R8:={K with ops:=K.ops++[o],args:=K.args++[as],sorts:=K.sorts++[s],Q5:=K.Q5++[d],num:=f9 K.num [.str o,.tup as,.int s,dk] (iv K.ops.length)}
theorem eI{l:dg kg}(h:op∈[S "true",S "false",S "app",S "num",S "="])(c:l∈KY)(a:s∈[(0),3])(e:dk∈Xy):[KI.str op,.tup l,.int s,dk]∈TK:=Rg _ (List.mem_flatMap.mpr ⟨op,h,List.mem_flatMap.mpr ⟨l,c,List.mem_flatMap.mpr ⟨s,a,List.mem_map.mpr ⟨dk,e,rfl⟩⟩⟩⟩)
theorem UP{a:Type}{f:a->vg}{l:dg a}{x:a}:some (d9.list true ((l.map f).map AV.a9++[.a9 (f x)]))=ls ((l++[x]).map f):=eg (λl=>some _) w7
noncomputable def KK:KI->vg
 | .int i=> .int i
 | .str s=> .str s
 | .tup l=> .tuple (zs l)
noncomputable abbrev kR(o:Str)(as:dg kg)(s:kg)(dk:KI):dg (yg×AV):=[(0,.g9 .bank),(1,.a9 (.str o)),(2,.a9 (.tuple (zs as))),(3,iv s),(4,.a9 (KK dk)),(5,.a9 (.tuple [.str o,.tuple (zs as),.int s,KK dk]))]
variable{kk:M}{K':KB}{u:Mo}{f:dg KI->gg AV}{v:AV}
theorem xy(h:b (.bk 9)=some (.V9 f))(hB:b .bank=some (.inst D (AW rest)))(a:f [.str op,.tup as,.int s,dk]=none)(q:(A9 P n kk).b u ⟨kR op as s dk++[(6,iv 0)],[],b⟩ K'):(A9 P n (.set 6 (.lm (.I6 (.var 0) 27) .get (.cons (.var 5) (.cons (.con (.int 0)) (.nil)))) kk)).b u ⟨kR op as s dk,[],b⟩ K':=by
 cases dk with
 |tup l=>exact k9 hB (k9 (x:=b _) h (k9 (x:=b _) h ⟨as,rfl,l,rfl,OS a q⟩))
 |_=>exact k9 hB (k9 (x:=b _) h (k9 (x:=b _) h ⟨as,rfl,OS a q⟩))
theorem OC(a:b (.bk 9)=some (.V9 f))(hB:b .bank=some (.inst D (AW rest)))(h:[KI.str op,.tup as,.int s,dk]∈TK){i j:kg}(c:i=j)(q:K' .next ⟨kR op as s dk++[(6,iv j)],[],up b (.bk 9) (.V9 (f9 f [.str op,.tup as,.int s,dk] (iv j)))⟩):(A9 P n (.W1 (.var 6) (.I6 (.var 0) 27) (.var 5) (.nil))).b u ⟨kR op as s dk++[(6,iv i)],[],b⟩ K':=by
 subst c;cases dk with
 |tup l=>exact k9 hB (k9 (x:=b _) a ⟨as,rfl,l,rfl,h,_,rfl,q⟩)
 |_=>exact k9 hB (k9 (x:=b _) a ⟨as,rfl,h,_,rfl,q⟩)
theorem sA:wY (wY (wY (wY (wY (Y0 K) 5 (.list true ((K.ops.map .str).map .a9++[.a9 (.str op)]))) 6 (.list true ((K.args.map λl=> .tuple (zs l)).map .a9++[.a9 (.tuple (zs as))]))) 7 (.list true ((zs K.sorts).map .a9++[iv s]))) 8 (.list true (K.Q5.map .a9++[.a9 (KK dk)]))) 9 (.V9 (f9 K.num [.str op,.tup as,.int s,dk] (iv K.ops.length)))=Y0 (K.mk' op as s (KK dk) dk):=funext λi=>by
 match i with
 |5=>exact UP
 |6=>exact UP
 |7=>exact eg (λl=>some _) X9
 |8=>exact eg (λl=>some _) (Ng (l₂:=[KK _])).symm
 |9|0|1|2|3|4|_+10=>rfl
noncomputable def Wv:M:=jT 6 (jL (Ya 27) .get (Y2 J5 (Yi 0))) (jI (jE .eq J6 (Yi 0)) (jT 6 (jB .len (Y1 (Ya 23))) (jX (jL (Ya 23) .append (Y1 J1)) (jX (jL (Ya 24) .append (Y1 J2)) (jX (jL (Ya 25) .append (Y1 J3)) (jX (jL (Ya 26) .append (Y1 J4)) (jY J6 (Ya 27) J5 jN)))))) jN (Yr J6))
theorem Qq(q:(A9 P 0 Wv).b (.all,[]) ⟨kR op as s dk,[],b⟩ K'):(A9 P 0 Yq).b (.all,[]) ⟨ar 0 [.g9 .bank,.a9 (.str op),.a9 (.tuple (zs as)),iv s,.a9 (KK dk)],[],b⟩ K':=q
theorem PD(hl:K.ops.length<=1000/\K.args.length<=1000/\K.sorts.length<=1000/\K.Q5.length<=1000)(c:K.num [.str op,.tup as,.int s,dk]=none)(e:[KI.str op,.tup as,.int s,dk]∈TK):
  i7 P 1 .all 62 [.g9 .bank,.a9 (.str op),.a9 (.tuple (zs as)),iv s,.a9 (KK dk)] (y0 (AW rest) P.B (Y0 K) b) (iv K.ops.length) (y0 (AW rest) P.B (Y0 (K.mk' op as s (KK dk) dk)) b):=by
 haveI a:∀{k},k<=1000->k<=1000000:=λh=>bg h (by decide);refine enter Rp rt rt (Qq ?_);refine xy rfl rfl c (⟨b9 (b9 (a hl.1)),?_⟩);refine⟨b9 (b9 (a hl.1)),j9 kY ?_⟩;refine⟨b9 (b9 (a hl.2.1)),j9 kY ?_⟩;exact⟨b9 (b9 (a hl.2.2.1)),j9 kY (⟨b9 (a hl.2.2.2),j9 kY (OC rfl rfl e (eg Nat.cast ((ng _).trans (ng _))) (⟨rfl,(kY).trans (eg (λg=>y0 (AW rest) P.B g b) sA)⟩))⟩)⟩
theorem yy(hb:b (.bk 9)=some (.V9 f))(hB:b .bank=some (.inst D (AW rest)))(hk:f [.str op,.tup as,.int s,dk]=some v)(q:(A9 P n kk).b u ⟨kR op as s dk++[(6,v)],[],b⟩ K'):(A9 P n (.set 6 (.lm (.I6 (.var 0) 27) .get (.cons (.var 5) (.cons (.con (.int 0)) (.nil)))) kk)).b u ⟨kR op as s dk,[],b⟩ K':=by
 cases dk with
 |tup l=>exact k9 hB (k9 (x:=b (.bk 9)) hb (k9 (x:=b (.bk 9)) hb ⟨as,rfl,l,rfl,VY hk q⟩))
 |_=>exact k9 hB (k9 (x:=b (.bk 9)) hb (k9 (x:=b (.bk 9)) hb ⟨as,rfl,VY hk q⟩))
theorem iu{t:kg}(h:K.num [.str op,.tup as,.int s,dk]=some (iv t))(a:t≠0):i7 P 1 .all 62 [.g9 .bank,.a9 (.str op),.a9 (.tuple (zs as)),iv s,.a9 (KK dk)] (y0 (AW rest) P.B (Y0 K) b) (iv t) (y0 (AW rest) P.B (Y0 K) b):=enter Rp rt rt (Qq (yy rfl rfl h (v9 (H8 a) done)))
variable{ds:dg vg}{τ:Tg}
noncomputable def R8.fn(K:R8)(nm:Str)(ds:dg vg)(s:kg):R8:={K with oT:=K.oT++[.str nm],ND:=K.ND++[.tuple ds],LD:=K.LD++[.int s]}
theorem By:wY (wY (wY (Y0 K) 2 (.list true (K.oT.map .a9++[.a9 (.str nm)]))) 3 (.list true (K.ND.map .a9++[.a9 (.tuple ds)]))) 4 (.list true (K.LD.map .a9++[iv s]))=Y0 (K.fn nm ds s):=funext λi=>by
 haveI z:∀{l x},some _=ls (l++[x]):=λ{l x}=>eg (λl=>some _) (Ng).symm
 match i with
 |2=>exact z
 |3=>exact z
 |4=>exact z
 |0|1|5|6|7|8|9|_+10=>rfl
theorem ku(hl:K.oT.length<=1000/\K.ND.length<=1000/\K.LD.length<=1000):i7 P 1 .all 49 [.g9 .bank,.a9 (.str nm),.a9 (.tuple ds),iv s] (y0 (AW rest) P.B (Y0 K) b) (iv K.oT.length) (y0 (AW rest) P.B (Y0 (K.fn nm ds s)) b):=by
 haveI a:∀{k},k<=1000->k<=1000000:=λh=>bg h (by decide);refine enter ki rt rt (⟨b9 (a hl.1),j9 kY ?_⟩);refine⟨b9 (a hl.2.1),j9 kY ?_⟩;refine⟨b9 (a hl.2.2),j9 kY ?_⟩;haveI e:(K.oT.map AV.a9++[AV.a9 (.str nm)]).length=K.oT.length+1:=List.length_append.trans (eg _ (ng _));refine⟨bg (Bg e) (bg (Hg hl.1) (by decide)),?_⟩;refine⟨eg (λi=>AV.a9 _) ?_,eg (λc=>y0 _ _ c b) By⟩;refine rL e ?_;rw [å];exact Ua ..
theorem ju(hl:K.oT.length<=1000/\K.ND.length<=1000/\K.LD.length<=1000)(h:K.ops.length<=1000/\K.args.length<=1000/\K.sorts.length<=1000/\K.Q5.length<=1000)(a:K.num [.str (S "app"),.tup [],.int s,.int K.oT.length]=none)(c:[KI.str (S "app"),.tup [],.int s,.int K.oT.length]∈TK):
  i7 P 2 .all 51 [.g9 .bank,.a9 (.str nm),iv s] (y0 (AW rest) P.B (Y0 K) b) (iv K.ops.length) (y0 (AW rest) P.B (Y0 ((K.fn nm [] s).mk' (S "app") [] s (.int K.oT.length) (.int K.oT.length))) b):=enter ji rt rt (Y8 (ku hl) rt (Y8 (PD (K:=K.fn _ [] s) h a c) rt done))
theorem HR:up (y0 fl D β b) .bank (.inst D rest)=y0 rest D β b:=B9 (λτ h=>by
 cases τ with
 |bank=>exact(h rfl).elim
 |_=>rfl) rfl
theorem v3:up (up (y0 fl D β b) (.bk j) o) .bank (.inst D rest)=y0 rest D (wY β j o) b:=(eg (λb=>up b .bank _) kY).trans HR
theorem zW(h:b .bank=some (.inst D fl))(c:∀j,b (.bk j)=β j):b=y0 fl D β b:=funext λτ=>by
 cases τ with
 |bank=>exact h
 |bk j=>exact c j
 |_=>rfl
theorem H3{w:wg}(ds:dg vg):C6 τ (.list w (ds.map .a9)):=λz' m=>(List.mem_map.mp m).elim λz' e=>e.2▸trivial
noncomputable def Aq:R8:=⟨[.str (S "Bool"),.str (S "Int"),.str (S "Real")],[.int 0,.int 0,.int 0],[S ""],[[]],[0],[.int 0],[],[],[],λz'=>none,0,0⟩
noncomputable def VJ:R8:={(Aq.mk' (S "true") [] 0 (.int 0) (.int 0)).mk' (S "false") [] 0 (.int 0) (.int 0) with BY:=1,mE:=2}
theorem kU:[]∈KY:= .head _
theorem dy(h:∀j,b (.bk j)=none):wY (wY (wY (wY (wY (wY (wY (wY (wY (wY (λj=>b (.bk j)) 0 (.list true [.a9 (.str (S "Bool")),.a9 (.str (S "Int")),.a9 (.str (S "Real"))])) 1 (.list true [iv 0,iv 0,iv 0])) 2 (.list true [])) 3 (.list true [])) 4 (.list true [])) 5 (.list true [.a9 (.str (S ""))])) 6 (.list true [.a9 (.tuple [])])) 7 (.list true [iv 0])) 8 (.list true [iv 0])) 9 (.V9 λz'=>none)=Y0 Aq:=funext λi=>by
 match i with
 |0|1|2|3|4|5|6|7|8|9=>rfl
 |k+10=>exact h _
theorem Hk(h:b .bank=some (.inst P.B []))(a:∀j,b (.bk j)=none):i7 P 2 .sU 43 [.g9 .bank] b (.a9 .none) (y0 (qY VJ) P.B (Y0 VJ) b):=by
 refine enter ni rt rt ((eg (λz=>(A9 P 1 _).b _ _ _) (zW h λz'=>rfl)).mpr ?_);refine⟨H3 (w:=true) [.str _,.str _,.str _],j9 v3 ?_⟩;refine⟨H3 (w:=true) [.int 0,.int 0,.int 0],j9 v3 ?_⟩;refine⟨E6 (w:=true),j9 v3 ?_⟩;refine⟨E6 (w:=true),j9 v3 ?_⟩;refine⟨E6 (w:=true),j9 v3 ?_⟩;refine j9 HR (⟨H3 (w:=true) [.str _],j9 v3 ?_⟩);refine⟨H3 (w:=true) [.tuple []],j9 v3 ?_⟩;refine⟨H3 (w:=true) [.int 0],j9 v3 ?_⟩;refine⟨H3 (w:=true) [.int 0],j9 v3 ?_⟩;exact⟨(λt v e=>(by nomatch e)),j9 (v3.trans (eg (λc=>y0 _ _ c b) (dy a))) (Y8 (PD (by decide) rfl (eI (.head _) kU (.head _) (.head _))) rt (j9 HR (Y8 (PD (by decide) (by kernel_rfl) (eI (.tail _ (.head _)) kU (.head _) (.head _))) rt (j9 HR E9))))⟩
noncomputable def R8.fP(K:R8)(nm:Str):R8:={K with sn:=K.sn++[.str nm],sw:=K.sw++[.int 0]}
theorem KH:wY (wY (Y0 K) 0 (.list true (K.sn.map .a9++[.a9 (.str nm)]))) 1 (.list true (K.sw.map .a9++[iv 0]))=Y0 (K.fP nm):=funext λi=>by
 haveI z:∀{l x},some _=ls (l++[x]):=λ{l x}=>eg (λl=>some _) (Ng).symm
 match i with
 |0=>exact z
 |1=>exact z
 |2|3|4|5|6|7|8|9|_+10=>rfl
theorem Gk(hl:K.sn.length<=1000/\K.sw.length<=1000):i7 P 1 .all 45 [.g9 .bank,.a9 (.str nm)] (y0 (AW rest) P.B (Y0 K) b) (iv K.sn.length) (y0 (AW rest) P.B (Y0 (K.fP nm)) b):=by
 haveI a:∀{k},k<=1000->k<=1000000:=λh=>bg h (by decide);refine enter mi rt rt (⟨b9 (a hl.1),j9 kY ?_⟩);refine⟨b9 (a hl.2),j9 kY ?_⟩;haveI e:(K.sn.map AV.a9++[AV.a9 (.str nm)]).length=K.sn.length+1:=List.length_append.trans (eg _ (ng _));refine⟨bg (Bg e) (bg (Hg hl.1) (by decide)),?_⟩;refine⟨eg (λi=>AV.a9 _) ?_,eg (λc=>y0 _ _ c b) KH⟩;refine rL e ?_;rw [å];exact Ua ..
variable{g:q9}{E:G9}{τ:Tg}
noncomputable def QG(t:kg):Str:=ô (decide (t<9)) (S "f") (S "p")
noncomputable def xi(t:kg):kg:=ô (decide (t<3)) (t+8) (t-3)
noncomputable def ow(p:kg×kg):AV:= .a9 (.tuple [.str (QG p.1),.int (xi p.2),.int (xi p.1)])
theorem PK{c:IC}{u:Mo}{Q:dg AV->Prop}(q:Q (t8.map ow)):SD c u (.a9 MM) Q:=by unfold MM;exact q
theorem IT{i k:dg yg}{body kk:M}{u:Mo}{c:IC}{K:KB}(q:lp ((A9 P n body).b u) (U5 false i) (IC.keep k) (IW (kB (A9 P n kk) u K) K) (t8.map ow) c):(A9 P n (.cY false i false (.JI 3) body k kk)).b u c K:=PK (c:=c) (u:=u) q
noncomputable def ch:R8:=((VJ.fP (S "U")).fn (S "f") [.int 3] 3).fn (S "p") [.int 3] 0
noncomputable def Kc(K:R8)(nm:Str):R8:=(K.fn nm [] 3).mk' (S "app") [] 3 (.int K.oT.length) (.int K.oT.length)
noncomputable def Ke(K:R8)(x s d:kg):R8:=K.mk' (S "app") [x] s (.int d) (.int d)
noncomputable def KA:R8:=Kc (Kc (Kc ch (S "a")) (S "b")) (S "c")
noncomputable def KZ:R8:=Ke (Ke (Ke (Ke (Ke (Ke KA 3 3 0) 4 3 0) 6 3 0) 3 0 1) 4 0 1) 6 0 1
theorem bP(k:yg)(h:k<60):[(k:kg)]∈KY:= .tail _ (Kg _ (List.mem_map.mpr ⟨k,List.mem_map.mpr ⟨k,List.mem_range.mpr h,rfl⟩,rfl⟩))
theorem XE:y0 (AW [(28,iv 1),(29,iv 2)]) P.B (Y0 KZ) (hp P g VJ E)=hp P g KZ E:=funext λτ=>by
 cases τ with
 |ls k t=>cases k<;>rfl
 |C7 k=>cases k<;>rfl
 |_=>rfl
theorem RV:S "app"∈[S "true",S "false",S "app",S "num",S "="]:= .tail _ (.tail _ (.head _))
theorem Wx:(3)∈[(0:kg),3]:= .tail _ (.head _)
theorem Rq:(0)∈[(0:kg),3]:= .head _
noncomputable def mA(m m2:M):M:= .ex (.lm (.var 4) .append (.cons (.met (.var 0) 62 (.cons (.con (.str (S "app"))) (.cons (.tup (.cons (.sub (.var 4) (.var 6)) (.nil))) (.cons m (.cons m2 (.nil)))))) (.nil))) (.nil)
noncomputable def PO:M:=jI (jE .eq J5 (Ys "f")) (mA J1 J2) (mA (jJ 2) J3) jN
noncomputable abbrev Tx(P:y8)(K:R8)(vs:dg AV)(b:Tg->gg d9):IC:=⟨[(0,.g9 .bank),(1,iv 3),(2,iv 0),(3,iv 1),(4,.g9 (.Z8 0))],[(0,.list true vs)],y0 (AW [(28,iv 1),(29,iv 2)]) P.B (Y0 K) b⟩
theorem FF{x y:kg}{i:yg}{vs w:dg AV}{k:KB}(hx:vs[i]? =some (iv x))(a:vs.length<=1000)(hl:K.ops.length<=1000/\K.args.length<=1000/\K.sorts.length<=1000/\K.Q5.length<=1000)(c:K.num [.str (S "app"),.tup [x],.int 3,.int 0]=none)(d:[x]∈KY)
  (q:lp ((A9 P 2 PO).b (.all,[])) (U5 false [5,6,7]) (IC.keep [0,1,2,3,4]) k w (Tx P (Ke K x 3 0) (vs++[iv K.ops.length]) b)):lp ((A9 P 2 PO).b (.all,[])) (U5 false [5,6,7]) (IC.keep [0,1,2,3,4]) k (.a9 (.tuple [.str (S "f"),.int i,.int y])::w) (Tx P K vs b):=by
 haveI h:vs.length<=1000000:=bg a (by decide);haveI l1:(lay (.str (S "f"))&&lay (.str (S "f")))=true:=by kernel_rfl
 haveI e1:gZ (.str (S "f")) (.str (S "f"))=true:=by kernel_rfl
 refine N8 l1 (D9 e1 ?_);exact k9 ((xg (me _)).trans hx) ⟨h,(q8 (PD hl c (eI RV d Wx (.head _))) rt rt (⟨h,(o8 q rfl)⟩))⟩
theorem EF{x y:kg}{i:yg}{vs w:dg AV}{k:KB}(hx:vs[i]? =some (iv x))(a:vs.length<=1000)(hl:K.ops.length<=1000/\K.args.length<=1000/\K.sorts.length<=1000/\K.Q5.length<=1000)(c:K.num [.str (S "app"),.tup [x],.int 0,.int 1]=none)(d:[x]∈KY)
  (q:lp ((A9 P 2 PO).b (.all,[])) (U5 false [5,6,7]) (IC.keep [0,1,2,3,4]) k w (Tx P (Ke K x 0 1) (vs++[iv K.ops.length]) b)):lp ((A9 P 2 PO).b (.all,[])) (U5 false [5,6,7]) (IC.keep [0,1,2,3,4]) k (.a9 (.tuple [.str (S "p"),.int i,.int y])::w) (Tx P K vs b):=by
 haveI h:vs.length<=1000000:=bg a (by decide);haveI l1:(lay (.str (S "p"))&&lay (.str (S "f")))=true:=by kernel_rfl
 haveI e1:gZ (.str (S "p")) (.str (S "f"))=false:=by kernel_rfl
 refine N8 l1 (v9 e1 ?_);exact k9 ((xg (me _)).trans hx) ⟨h,(q8 (PD hl c (eI RV d Rq (.tail _ (.head _)))) rt rt (⟨h,(o8 q rfl)⟩))⟩
theorem Si{x y:kg}(h:b .bank=some (.inst P.B (AW [(28,iv x),(29,iv y)]))):i7 P 1 .all 67 [.g9 .bank] b (iv x) b:=enter Qp rt rt (k9 h done)
theorem Ri{x y:kg}(h:b .bank=some (.inst P.B (AW [(28,iv x),(29,iv y)]))):i7 P 1 .all 68 [.g9 .bank] b (iv y) b:=enter di rt rt (k9 h done)
noncomputable def Vv:M:=jH false [5,6,7] false (jJ 3) PO [0,1,2,3,4] (Yr (jO .add J4 (jP (Y2 (jM J0 67 jN) (jM J0 68 jN)))))
noncomputable def TL:dg kg:=[3,4,5,6,7,8,9,10,11,1,2]
theorem Dk:i7 P 3 .all 73 [.g9 .bank] (hp P g VJ E) (.a9 (.list (zs TL))) (hp P g KZ E):=by
 refine enter bi rt rt ((eg (λz=>(A9 P 2 _).b _ _ _) (zW rfl λz'=>rfl)).mpr ?_);refine q8 (Gk (by decide)) rt rt (q8 (ku (by decide)) rt rt ?_);refine q8 (ku (by decide)) rt rt (⟨(by decide),?_⟩);refine Y8 (ju (by decide) (by decide) (by kernel_rfl) (eI RV kU Wx (by decide))) rt (Y8 (ju (by decide) (by decide) (by kernel_rfl) (eI RV kU Wx (by decide))) rt ?_);refine Y8 (ju (by decide) (by decide) (by kernel_rfl) (eI RV kU Wx (by decide))) rt (⟨H3 [.int 3,.int 4,.int 5],?_⟩);suffices q:(A9 P 2 Vv).b _ _ _ from q;refine IT (o8 ?_ rfl);refine FF rfl (by decide) (by decide) (by kernel_rfl) (bP 3 (by decide)) (FF rfl (by decide) (by decide) (by kernel_rfl) (bP 4 (by decide)) ?_);refine FF rfl (by decide) (by decide) (by kernel_rfl) (bP 6 (by decide)) (EF rfl (by decide) (by decide) (by kernel_rfl) (bP 3 (by decide)) ?_);exact EF rfl (by decide) (by decide) (by kernel_rfl) (bP 4 (by decide)) (EF rfl (by decide) (by decide) (by kernel_rfl) (bP 6 (by decide)) (WY (q8 (Si rfl) rt rt (q8 (Ri rfl) rt rt (⟨zs [3,4,5,6,7,8,9,10,11],rfl,(by decide),rfl,XE⟩)))))
end
section
variable{P:y8}{K:R8}{g:q9}{E:G9}{t x:kg}{o:Str}{as:dg kg}{d:vg}{qs:dg (kg×kg)}{q:kg×kg}{i:yg}
theorem xT{b:Type}{l r:dg b}{a:b}(c:0<=t)(h:r7 t l=some a):r7 t (l++r)=some a:=by
 unfold r7 at h⊢;rw [xg c] at h⊢;refine rL (ed (List.getElem?_eq_some_iff.mp h).1) ?_;exact h
theorem wT{b:Type}{l:dg b}{a:b}:r7 l.length (l++[a])=some a:=by
 show(l++[a])[l.length]? =_;refine rL (Kf (Ag _)) ?_;rw [cc];rfl
theorem JW.mk'{o':Str}{as':dg kg}{s:kg}{d':vg}{dk:KI}(a:0<=t)(h:JW K t o as d):JW (K.mk' o' as' s d' dk) t o as d:=by
 refine⟨?_,?_,?_⟩
 ·refine rL Ng ?_;exact xT a h.o
 ·refine rL Ng ?_;exact xT a h.a
 ·refine rL Ng ?_;exact xT a h.d
noncomputable def aj(k:KI):Str:=KI.casesOn k (λz'=>S "") (λs=>s) λz'=>S ""
noncomputable def Zk(k:KI):dg kg:=KI.casesOn k (λz'=>[]) (λz'=>[]) λl=>l
noncomputable def eJ(q:kg×kg):dg KI:=[.str (S "="),.tup [q.1,q.2],.int 0,.int 0]
noncomputable def Kr(K:R8)(q:kg×kg):R8:=K.mk' (S "=") [q.1,q.2] 0 (.int 0) (.int 0)
theorem PX{o':Str}{as':dg kg}{s:kg}{d':vg}{dk:KI}(h:o'≠S "="):(K.mk' o' as' s d' dk).num (eJ q)=K.num (eJ q):=e9 λe=>h (eg aj (qf e).1).symm
structure EB(qs:dg (kg×kg))(K:R8):Prop where
 a:∀t x,Ap t x->JW K t (S "app") [x] (.int (sy t))
 v:∀t∈VV,∃d,JW K t (vH t) [] d
 c:∀t∈[3,4,5],∃d,JW K t (S "app") [] d
 tr:K.BY=1
 l:K.ops.length=12+qs.length/\K.args.length=12+qs.length/\K.sorts.length=12+qs.length/\K.Q5.length=12+qs.length
 n0:∀q,q∉qs->K.num (eJ q)=none
 n1:∀(i:yg) (q:kg×kg),qs[i]? =some q->K.num (eJ q)=some (iv ((12+i:yg):kg))/\JW K ((12+i:yg):kg) (S "=") [q.1,q.2] (.int 0)
 nd:qs.length<=100
theorem EB.bk(B:EB qs K):BK K:=⟨⟨by refine rL B.l.1 ?_;exact bg (Eg B.nd _) (by decide),by refine rL B.l.2.1 ?_;exact bg (Eg B.nd _) (by decide),by refine rL B.l.2.2.2 ?_;exact bg (Eg B.nd _) (by decide)⟩,B.a,B.v,B.c,B.tr⟩
theorem EB.zero:EB [] KZ:=by
 refine⟨λt x h=>(List.forall_mem_cons.mpr ⟨⟨rfl,rfl,rfl⟩,List.forall_mem_cons.mpr ⟨⟨rfl,rfl,rfl⟩,List.forall_mem_cons.mpr ⟨⟨rfl,rfl,rfl⟩,List.forall_mem_cons.mpr ⟨⟨rfl,rfl,rfl⟩,List.forall_mem_cons.mpr ⟨⟨rfl,rfl,rfl⟩,List.forall_mem_cons.mpr ⟨⟨rfl,rfl,rfl⟩,λz' h=>(by nomatch h)⟩⟩⟩⟩⟩⟩:∀p∈t8,JW _ p.1 _ [p.2] (.int (sy p.1))) _ h,List.forall_mem_cons.mpr ⟨⟨_,rfl,rfl,rfl⟩,List.forall_mem_cons.mpr ⟨⟨_,rfl,rfl,rfl⟩,λz' h=>(by nomatch h)⟩⟩,List.forall_mem_cons.mpr ⟨⟨_,rfl,rfl,rfl⟩,List.forall_mem_cons.mpr ⟨⟨_,rfl,rfl,rfl⟩,List.forall_mem_cons.mpr ⟨⟨_,rfl,rfl,rfl⟩,λz' h=>(by nomatch h)⟩⟩⟩,rfl,⟨rfl,rfl,rfl,rfl⟩,λq z'=> ?_,λi q h=>((by nomatch h)),Xg _⟩;have a:S "app"≠S "=":=by decide
 haveI e1:∀{K x s d},(Ke K x s d).num _=K.num (eJ q):=PX a;haveI e:∀{K nm},(Kc K nm).num _=K.num (eJ q):=λ{K _}=>(PX a);haveI b:=(PX (o':=S "false") (as':=[]) (s:=0) (d':= .int 0) (dk:= .int 0) (by decide)).trans (PX (q:=q) (K:=Aq) (o':=S "true") (as':=[]) (s:=0) (d':= .int 0) (dk:= .int 0) (by decide));exact e1.trans (e1.trans (e1.trans (e1.trans (e1.trans (e1.trans (e.trans (e.trans (e.trans b))))))))
theorem EB.snoc(B:EB qs K)(h:q∉qs)(hl:qs.length<100):EB (qs++[q]) (Kr K q):=by
 have c:∀{p},p≠q->eJ p≠eJ q:=λ{p} n e=>n (by
  haveI e:=eg Zk (qf (qf e).2).1;exact nb (qf e).1 (qf (qf e).2).1)
 refine⟨λt x a=>(B.a t x a).mk' ((λh=>(by decide:∀p∈t8,0<=p.1) _ h) a),λt m=>(B.v t m).imp λd T=>T.mk' ((by decide:∀t∈VV,0<=t) t m),λt m=>(B.c t m).imp λd T=>T.mk' ((by decide:∀t∈[3,4,5],(0:kg)<=t) t m),B.tr,⟨?_,?_,?_,?_⟩,λp n=> ?_,λi p e=> ?_,?_⟩
 ·refine rL jg (rL jg (rL B.l.1 ?_));rfl
 ·refine rL jg (rL jg (rL B.l.2.1 ?_));rfl
 ·refine rL jg (rL jg (rL B.l.2.2.1 ?_));rfl
 ·refine rL jg (rL jg (rL B.l.2.2.2 ?_));rfl
 ·have n:=not_or.mp λz=>n (List.mem_append.mpr z);exact(e9 (c λe=>n.2 (e▸ .head _))).trans (B.n0 p n.1)
 ·by_cases l:i<qs.length
  ·have e:=ed l▸e;haveI w:=B.n1 i p e;exact⟨(e9 (c λz=>h (z▸qe e))).trans w.1,w.2.mk' (me _)⟩
  ·haveI b:i=qs.length:=by
    haveI:=(List.getElem?_eq_some_iff.mp e).1;rw [jg] at this;exact ld (Oe this) (Xe l)
   rw [b,Kf (Ag _),cc] at e;refine rL b (rR (ig e) ?_);refine⟨?_,?_,?_,?_⟩
   ·show f9 _ (eJ q) _ _=_;exact rL i9 (rL B.l.1 rfl)
   ·show r7 _ _=_;refine rL Ng (rR B.l.1 ?_);rw [<-ng _];exact wT
   ·show r7 _ _=_;refine rL Ng (rR B.l.2.1 ?_);rw [<-ng _];exact wT
   ·show r7 _ _=_;refine rL Ng (rR B.l.2.2.2 ?_);rw [<-ng _];exact wT
 ·refine rL jg ?_;exact hl
theorem oy{K':R8}(a:K'.BY=K.BY)(h:K'.mE=K.mE):y0 (qY K) P.B (Y0 K') (hp P g K E)=hp P g K' E:=funext λτ=>by
 cases τ with
 |bank=>show some _=some _;unfold qY;rw [a,h]
 |ls k t=>cases k<;>rfl
 |C7 k=>cases k<;>rfl
 |_=>rfl
theorem fJ(B:EB qs K)(hl:qs.length<100)(hq:[q.1,q.2]∈KY):∃(i:yg) (qs':dg (kg×kg)) (K':R8),EB qs' K'/\qs'[i]? =some q/\(∀(j:yg) (p:kg×kg),qs[j]? =some p->qs'[j]? =some p)/\(∀p∈qs',p∈qs\/p=q)/\(qs.Nodup->qs'.Nodup)/\∀(P:y8) (g:q9) (E:G9),i7 P 1 .all 62 [.g9 .bank,.a9 (.str (S "=")),.a9 (.tuple (zs [q.1,q.2])),iv 0,.a9 (.int 0)] (hp P g K E) (iv ((12+i:yg):kg)) (hp P g K' E):=by
 have s:∀{P:y8} {g:q9} {E:G9},hp P g K E=y0 (AW [(28,iv K.BY),(29,iv K.mE)]) P.B (Y0 K) (hp P g K E):=λ{P g E}=>zW rfl λz'=>rfl;by_cases m:q∈qs
 ·refine(List.getElem?_of_mem m).elim λi e=>⟨i,qs,K,B,e,λz' z' h=>h,λz'=> .inl,id,λP g E=> ?_⟩;have w:=iu (P:=P) (b:=hp P g K E) (rest:=[(28,iv K.BY),(29,iv K.mE)]) (B.n1 i q e).1 (by
   intro z;exact absurd (Int.ofNat_eq_zero.mp z) (qd (Og (by decide) (Cg 12 i))))
  rw [<-s] at w;exact w
 ·refine⟨qs.length,qs++[q],Kr K q,B.snoc m hl,by rw [Kf (Ag _),cc];rfl,λj p h=>(ed (List.getElem?_eq_some_iff.mp h).1).trans h,λp h=>j8 h,λn=>f7 n m,λP g E=> ?_⟩;have k:∀{n:yg},n=12+qs.length->n<=1000:=λe=>e▸bg (Eg (Uf hl) _) (by decide);have w:=PD (P:=P) (b:=hp P g K E) (rest:=[(28,iv K.BY),(29,iv K.mE)]) ⟨k B.l.1,k B.l.2.1,k B.l.2.2.1,k B.l.2.2.2⟩ (B.n0 q m) (eI (.tail _ (.tail _ (.tail _ (.tail _ (.head _))))) hq Rq (.head _));rw [<-s,B.l.1] at w;exact(oy (K:=K) (K':=Kr K q) rfl rfl)▸w
end
section
structure Lw where
 cells:dg kg
 spot:yg
 ids:dg yg
 lv:yg->gg (dg vg)
 terms:dg kg
 C9:dg (kg×(kg×kg))
 told:dg (kg×(kg×kg))
 fresh:dg kg
 zw:wg
 zt:wg
noncomputable def vR(c:dg kg)(s:yg):d9:= .w8 (b7 (λz'=>none) [(S "cells",.a9 (.list (zs c))),(S "spot",iv s)])
noncomputable def u2(l:dg (kg×(kg×kg))):dg (kg×AV):=l.map λp=>(p.1,.a9 (xY p.2))
noncomputable def ID(L:dg kg):Str->gg AV:=b7 (λz'=>none) [(S "terms",.a9 (.list (zs L))),(S "levels",.g9 .levels),(S "watched",.g9 .lwat),(S "told",.g9 .ltold),(S "fresh",.g9 .fresh)]
noncomputable def rU(L:Lw):Tg->gg d9
 | .feed=>some (vR L.cells L.spot)
 | .state=>some (.w8 (ID L.terms))
 | .levels=>some (.list true (L.ids.map λi=> .g9 (.lvl i)))
 | .lwat=>some (.M9 (!L.zw) (u2 L.C9))
 | .ltold=>some (.M9 (!L.zt) (u2 L.told))
 | .fresh=>Mine.Internal.ls (zs L.fresh)
 | .lvl i=>(L.lv i).bind Mine.Internal.ls
 |_=>none
noncomputable def hl(P:y8)(g:q9)(K:R8)(E:G9)(L:Lw):Tg->gg d9:=hp P {g with r:=rU L} K E
variable{P:y8}{n:yg}{g:q9}{K:R8}{E:G9}{L:Lw}{wide x:kg}{o':d9}
noncomputable def l7(cells:dg kg)(spot:yg)(wide:kg):kg:=match cells[spot]? with
 |some x=>x%wide
 |none=>(7*(spot:kg)*spot+3*spot+5*cells.length+2)%97%wide
theorem rr{h:dg kg}{i:yg}(e:h[i]? =some x):r7 i (zs h)=some (.int x):=by
 show(h.map _)[i]? =_;refine rL (Wg) (rL e ?_);rfl
theorem vE{s:yg}{f:Str->gg AV}(h:f=b7 (λz'=>none) [(S "cells",.a9 (.list (zs L.cells))),(S "spot",iv s)]):up (hl P g K E L) .feed (.w8 f)=hl P g K E {L with spot:=s}:=h▸funext λτ=>by
 cases τ with
 |ls k t=>cases k<;>rfl
 |C7 k=>cases k<;>rfl
 |_=>rfl
theorem ET{K a:Type}[ef K]{f:K->gg a}{k:K}{u v:a}:f9 (f9 f k u) k v=f9 f k v:=funext λz=>by
 by_cases e:z=k
 ·exact rL e (rL i9 (rL i9 rfl))
 ·exact rL (e9 e) (rL (e9 e) (rL (e9 e) rfl))
theorem Ek(hw:0<wide)(hs:L.spot<=1000)(c:L.cells.length<=1000):i7 P 1 .st 72 [.g9 .feed,iv wide] (hl P g K E L) (iv (l7 L.cells L.spot wide)) (hl P g K E {L with spot:=L.spot+1}):=by
 haveI m:∀{a b},0<=a->a<=7000->IntMulOk a b:=λh g=>ė (intBits_le_64 (Int.lt_of_lt_of_le (by decide) h) (Fe g (by decide)));refine enter ci rt rt (j9 (vE (s:=L.spot+1) ET) ?_);refine⟨b9 (bg c (by decide)),?_⟩;haveI hz:(zs _).length=L.cells.length:=ng _;unfold l7;by_cases q:L.spot<L.cells.length
 ·refine rL (sf q) ?_;refine D9 (Dg (rL hz (Int.ofNat_lt.mpr q))) (k9 (rr (sf q)) ⟨b9 (bg c (by decide)),?_⟩);exact⟨hw,done⟩
 ·refine rL (Xb (Xe q)) ?_;refine v9 (Ig (rL hz (λz=>q (Int.ofNat_lt.mp z)))) (⟨m (by decide) (by decide),m (Int.mul_nonneg (by decide) (me _)) (Int.mul_le_mul_of_nonneg_left (Int.ofNat_le.mpr hs) (by decide)),m (by decide) (by decide),b9 (bg c (by decide)),m (by decide) (by decide),(by decide),hw,w3 ?_⟩);refine rL hz ?_;rfl
noncomputable def Lw.facts(L:Lw):dg yg->dg vg
 |[]=>[]
 |i::l=>(L.lv i).getD []++L.facts l
def Lw.ok(L:Lw)(l:dg yg):Prop:=∀i∈l,∃d,L.lv i=some d
theorem gu{l:dg yg}:L.ok l->∀{acc k},(acc++L.facts l).length<=1000000->k .next ⟨[(0,.g9 .state),(1,.a9 (.list (acc++L.facts l)))],[],up (hl P g K E L) .levels o'⟩->
  lp ((A9 P n (.set 1 (.bin .add (.var 1) (.var 2)) (.nil))).b (.all,[.levels])) (U5 true [2]) (IC.keep [0,1]) k (l.map λi=> .g9 (.lvl i)) ⟨[(0,.g9 .state),(1,.a9 (.list acc))],[],up (hl P g K E L) .levels o'⟩:=by
 induction l with
 |nil=>exactλz' {acc k} h c=>Fg acc▸c
 |cons i l q=>
  intro hx acc k h c;refine(hx i (.head _)).elim λd p=> ?_;haveI e:acc++L.facts (i::l)=(acc++d)++L.facts l:=(eg (λo=>acc++(o.getD []++L.facts l)) p).trans (Lg ..).symm;rw [e] at h c;exact k9 (x:=(L.lv i).bind Mine.Internal.ls) (a:= .list _ _) (rL p rfl) ⟨d,rfl,lh h,(o8 (q (λj m=>hx j (.tail _ m)) h c) rfl)⟩
theorem az(hx:L.ok L.ids)(h:(L.facts L.ids).length<=1000000):i7 P 1 .all 78 [.g9 .state] (hl P g K E L) (.a9 (.list (L.facts L.ids))) (hl P g K E L):=by
 refine enter Wj rt rt (hX (τ:= .levels) rfl K5 rfl ?_);refine⟨λv m=>(List.mem_map.mp m).elim λi e=>e.2▸(Or.inl rfl),?_⟩;refine o8 (gu hx h ?_) rfl;exact GZ rfl rfl done
variable{fs:dg u9}{h h':dg kg}{a b t lo hi:kg}{σ:Tg->gg d9}{F:AV}{ws W ps qs:dg (kg×kg)}{k:KB}{b0:wg}{p q:kg×kg}
noncomputable def at_(h:dg kg)(u:kg):kg:=(h[u.toNat]?).getD 0
noncomputable def lb(h:dg kg)(t:kg):kg:=at_ h (xi t)
noncomputable def sw(l h o:kg):kg:=if o=h then l else o
noncomputable def sm(h:dg kg):yg:=(h.map Int.toNat).sum
theorem CH:∀t∈TT,0<=xi t/\(xi t).toNat<11:=by decide
structure HI fs(h:dg kg):Prop where
 len:h.length=11
 j7:∀x∈h,0<=x/\x<11
 snd:∀a b,a∈TT->b∈TT->lb h a=lb h b->Cl (AY fs) a b
theorem YO(hl:h.length=11)(c:t∈TT):h[(xi t).toNat]? =some (lb h t):=by
 unfold lb at_
 refine rL (sf (hl▸(CH t c).2)) ?_;rfl
theorem ZX(hl:h.length=11)(c:t∈TT):lb h t∈h:=qe (YO hl c)
theorem G7(hl:h.length=11)(c:t∈TT):r7 (xi t) (zs h)=some (.int (lb h t)):=by
 unfold r7 zs;refine rL (xg (CH t c).1) ?_;refine rL (Wg) (rL (YO hl c) ?_);rfl
theorem xI(hl:h.length=11)(c:t∈TT):lb (h.map (sw lo hi)) t=sw lo hi (lb h t):=by
 unfold lb at_
 refine rL (Wg) (rL (sf (hl▸(CH t c).2)) ?_);rfl
theorem EC(f:0<=lo)(c:lo<hi):sm (h.map (sw lo hi))<=sm h/\(hi∈h->sm (h.map (sw lo hi))<sm h):=by
 unfold sm;induction h with
 |nil=>exact⟨Ag _,λm=>(by nomatch m)⟩
 |cons y l i=>
  rw [Cf,Cf,Cf];by_cases e:y=hi
  ·haveI:=(Int.toNat_lt_toNat (Fe f c)).mpr c;have z:(sw lo hi y).toNat<y.toNat:=by refine rL (show sw _ _ y=lo from xg e) (rL e ?_);exact this
   exact⟨Uf (xb z i.1),λz'=>xb z i.1⟩
  ·exact rL (show sw _ _ y=y from og e) (⟨Eg i.1 _,λm=>Nat.add_lt_add_left (i.2 ((List.mem_cons.mp m).resolve_left (gc e))) _⟩)
theorem HI.step(I:HI fs h)(ha:a∈TT)(hb:b∈TT)(c:Cl (AY fs) a b)(e:lo=lb h a/\hi=lb h b\/lo=lb h b/\hi=lb h a)(hl:lo<hi):HI fs (h.map (sw lo hi))/\sm (h.map (sw lo hi))<sm h:=by
 have ml:=e.elim (λe=>e.1▸ZX I.len ha) λe=>e.1▸ZX I.len hb;have mh:=e.elim (λe=>e.2▸ZX I.len hb) λe=>e.2▸ZX I.len ha;refine⟨⟨(ng _).trans I.len,λx m=>(List.mem_map.mp m).elim λy m=>m.2▸ ?_,λx y hx hy q=> ?_⟩,(EC (I.j7 _ ml).1 hl).2 mh⟩
 ·unfold sw;split
  ·exact I.j7 _ ml
  ·exact I.j7 _ m.1
 rw [xI I.len hx,xI I.len hy] at q;have K:∀{z},z∈TT->(lb h z=lo\/lb h z=hi)->Cl (AY fs) z a:=λhz q=>by
  have:lb h _=lb h a\/lb h _=lb h b:=e.elim (λe=>q.imp (λq=>q.trans e.1) λq=>q.trans e.2) λe=>(q.imp (λq=>q.trans e.1) λq=>q.trans e.2).symm;exact this.elim (λg=>I.snd _ _ hz ha g) λg α f h1 h2=>(I.snd _ _ hz hb g α f h1 h2).trans (c α f h1 h2).symm
 have two:(lb h x=lo\/lb h x=hi)->(lb h y=lo\/lb h y=hi)->Cl (AY fs) x y:=λp q α f h1 h2=>(K hx p α f h1 h2).trans (K hy q α f h1 h2).symm;unfold sw at q;by_cases e1:lb h x=hi
 ·by_cases e2:lb h y=hi
  ·exact two (.inr e1) (.inr e2)
  ·rw [xg e1,og e2] at q;exact two (.inr e1) (.inl q.symm)
 ·by_cases e2:lb h y=hi
  ·rw [og e1,xg e2] at q;exact two (.inl q) (.inr e2)
  ·rw [og e1,og e2] at q;exact I.snd x y hx hy q
noncomputable def pD(p:kg×kg):vg:= .tuple [.int (xi p.1),.int (xi p.2)]
noncomputable def wt(h:dg kg)(p q:kg×kg):wg:=decide (sy p.1=sy q.1)&&(decide (xi p.1<xi q.1)&&decide (lb h p.2=lb h q.2))
noncomputable def BD(h:dg kg)(p:kg×kg)(c:dg (kg×kg)):dg (kg×kg):=(c.filter (wt h p)).map λq=>(p.1,q.1)
noncomputable abbrev II(F:AV)(h:dg kg)(b0:wg)(c:dg (yg×AV))(W:dg (kg×kg))(σ:Tg->gg d9):IC:=⟨[(0,F),(1,.a9 (.list (zs h))),(2,.a9 (.bool b0)),(3,.g9 (.Z8 0))]++c,[(0,.list true ((W.map pD).map .a9))],σ⟩
noncomputable def FA:M:=jI (jD (jE .eq J5 J8) (jD (jE .lt J7 bQ) (jE .eq (jS J1 J6) (jS J1 J9)))) (jX (jL J3 .append (Y1 (jU (Y2 J7 bQ)))) jN) jN jN
noncomputable abbrev mw(p:kg×kg):dg (yg×AV):=[(5,.a9 (.str (QG p.1))),(6,iv (xi p.2)),(7,iv (xi p.1))]
theorem DO{s t:kg}:(lay (.str (QG s))&&lay (.str (QG t)))=true/\gZ (.str (QG s)) (.str (QG t))=decide (sy s=sy t):=by
 unfold QG sy;cases decide (s<9)<;>cases decide (t<9)<;>exact⟨by kernel_rfl,by kernel_rfl⟩
theorem M1(hl:h.length=11):(zs h).length<=1000000:=b9 (hl▸by decide)
theorem Cw(hl:h.length=11)(hp:p∈t8):(∀q∈qs,q∈t8)->∀{W:dg (kg×kg)},W.length+qs.length<=1000000->k .next (II F h b0 (mw p) (W++BD h p qs) σ)->
  lp ((A9 P n FA).b (.all,[])) (U5 false [8,9,10]) (IC.keep [0,1,2,3,5,6,7]) k (qs.map ow) (II F h b0 (mw p) W σ):=by
 induction qs with
 |nil=>exactλz' {W} z' d=>(eg (λW=>k .next (II F h b0 (mw p) W σ)) (Fg W)).mp d
 |cons q qs ih=>
  intro hq W g d;have c:=λr (m)=>hq r (.tail _ m);haveI mp:=(A0 (hp)).2.1;haveI mq:=(A0 (hq q (.head _))).2.1;have s:wt h p q=false->k .next (II F h b0 (mw p) (W++BD h p qs) σ):=λe=>by
   unfold BD at d⊢;rw [Le (by refine rL e ?_;exact cf)] at d;exact d
  refine N8 DO.1 ?_;by_cases i:sy p.1=sy q.1
  ·refine D9 (DO.2.trans (Dg i)) ?_;by_cases e1:xi p.1<xi q.1
   ·refine D9 (Dg e1) (k9 (G7 hl mp) ⟨M1 hl,k9 (G7 hl mq) ⟨M1 hl,?_⟩⟩);by_cases e2:lb h p.2=lb h q.2
    ·refine D9 (Q8 e2) ⟨b9 (b9 (bg (Cg _ _) g)),?_⟩;refine o8 (ih c (by rw [jg,Hf];show _+(1+qs.length)<=_;rw [Mf 1];exact g) ?_) (eg (λl=>(⟨_,[(0,d9.list true l)],_⟩:IC)) (w7 (x:=(p.1,q.1))));unfold BD at d⊢;rw [Je (by unfold wt;rw [Dg i,Dg e1,Dg e2];rfl),Cf,List.append_cons] at d;exact d
    ·exact v9 (H8 e2) (o8 (ih c (Pf g) (s (by unfold wt;rw [Ig e2,Cc,Cc]))) rfl)
   ·exact v9 (Ig e1) (o8 (ih c (Pf g) (s (by unfold wt;refine rL (Ig e1) ?_;exact Cc _))) rfl)
  ·exact v9 (DO.2.trans (Ig i)) (o8 (ih c (Pf g) (s (by unfold wt;refine rL (Ig i) ?_;rfl))) rfl)
noncomputable def DA:M:=jH false [8,9,10] false (jJ 3) FA [0,1,2,3,5,6,7] jN
noncomputable def tC(h:dg kg)(ps:dg (kg×kg)):dg (kg×kg):=ps.flatMap λp=>BD h p t8
theorem sC(hl:h.length=11):(∀p∈ps,p∈t8)->∀{W:dg (kg×kg)},W.length+6*ps.length<=1000000->k .next (II F h b0 [] (W++tC h ps) σ)->
  lp ((A9 P n DA).b (.all,[])) (U5 false [5,6,7]) (IC.keep [0,1,2,3]) k (ps.map ow) (II F h b0 [] W σ):=by
 induction ps with
 |nil=>exactλz' {W} z' c=>(eg (λW=>k .next (II F h b0 [] W σ)) (Fg W)).mp c
 |cons p ps i=>
  intro f W d c;haveI j:(W++BD h p t8).length<=W.length+6:=by refine rL jg ?_;exact Eg (bg (Bg (ng _)) (Df ..)) _
  refine IT (o8 (Cw hl (f p (.head _)) (λz' m=>m) (bg (Eg (bg (by decide) (Pe 6 (Hg (Xg _)))) _) d) ?_) rfl);refine o8 (i (λq m=>f q (.tail _ m)) (bg (Qf j _) (by rw [Hf,Mf 6];exact d)) ?_) rfl;rw [Lg];exact c
noncomputable def DK:M:= .fV [13,14] (Y2 (jB .min (Y2 (jS J1 yw) (jS J1 xw))) (jB .max (Y2 (jS J1 yw) (jS J1 xw)))) (jI (jE .ne ww vw) (jG [1,2] (Y2 (jZ (.ite (jE .eq uw vw) ww uw) [15] true J1 jN [13,14]) (jK (.bool true))) jN) jN jN)
noncomputable def mn(h:dg kg)(a b:kg):kg:=if lb h b<lb h a then lb h b else lb h a
noncomputable def mx(h:dg kg)(a b:kg):kg:=if lb h a<lb h b then lb h b else lb h a
noncomputable abbrev dR(F:AV)(h:dg kg)(b0:wg):dg (yg×AV):=[(0,F),(1,.a9 (.list (zs h))),(2,.a9 (.bool b0)),(3,.g9 (.Z8 0))]
theorem GI(hl:h.length=11)(ha:a∈TT)(hb:b∈TT){T:dg (yg×d9)}{u:Mo}(h1:mn h a b=mx h a b->k .next ⟨dR F h b0++[(11,iv (xi a)),(12,iv (xi b)),(13,iv (mn h a b)),(14,iv (mx h a b))],T,σ⟩)
  (h2:mn h a b≠mx h a b->k .next ⟨dR F (h.map (sw (mn h a b) (mx h a b))) true++[(11,iv (xi a)),(12,iv (xi b)),(13,iv (mn h a b)),(14,iv (mx h a b))],T,σ⟩):
  (A9 P n DK).b u ⟨dR F h b0++[(11,iv (xi a)),(12,iv (xi b))],T,σ⟩ k:=by
 have z:=M1 hl;refine k9 (G7 hl ha) ⟨z,k9 (G7 hl hb) ⟨z,?_⟩⟩;refine k9 (G7 hl ha) ⟨z,k9 (x:=r7 (xi b) (zs h)) (G7 hl hb) ⟨z,?_⟩⟩;by_cases e:mn h a b=mx h a b
 ·exact v9 (p6 e) (h1 e)
 ·refine D9 (G6 e) ⟨bg (Bg (ng _)) z,?_⟩;rw [d6];refine j5 (λz'=>true) (λx=> .int (sw (mn h a b) (mx h a b) x)) (λx m K k=>k) (λx m z' K k=> ?_) λρ'=> ?_
  ·by_cases q:x=mx h a b
   ·refine D9 (Q8 q) ?_;rw [show sw (mn h a b) (mx h a b) x=mn h a b from xg q] at k;exact k
   ·refine v9 (H8 q) ?_;rw [show sw (mn h a b) (mx h a b) x=x from og q] at k;exact k
  ·rw [List.filter_eq_self.mpr λz' z'=>rfl,show h.map (λx=>Ó (sw (mn h a b) (mx h a b) x))=zs (h.map (sw (mn h a b) (mx h a b))) from(Vg ..).symm];exact L5 (h2 e)
theorem rA(h:dg kg)(a b:kg):(mn h a b=lb h a/\mx h a b=lb h b\/mn h a b=lb h b/\mx h a b=lb h a)/\mn h a b<=mx h a b:=by
 unfold mn mx;by_cases e:lb h b<lb h a
 ·refine rL (xg e) (rL (og (Vb e)) ?_);exact⟨.inr ⟨rfl,rfl⟩,Gd e⟩
 ·refine rL (og e) ?_;by_cases q:lb h a<lb h b
  ·refine rL (xg q) ?_;exact⟨.inl ⟨rfl,rfl⟩,Gd q⟩
  ·refine rL (og q) ?_;exact⟨.inl ⟨rfl,Yb (Int.not_lt.mp e) (Int.not_lt.mp q)⟩,Int.le_refl _⟩
theorem py(hw:∀w∈ws,w.1∈TT/\w.2∈TT/\Cl (AY fs) w.1 w.2):∀{h:dg kg} {b0:wg},HI fs h->∃h' b',HI fs h'/\(b'=b0/\h'=h/\(∀w∈ws,lb h w.1=lb h w.2)\/b'=true/\sm h'<sm h)/\∀{T:dg (yg×d9)} {u:Mo} {σ:Tg->gg d9} {F:AV} {k:KB},k .next ⟨dR F h' b',T,σ⟩->
  lp ((A9 P n DK).b u) (U5 false [11,12]) (IC.keep [0,1,2,3]) k ((ws.map pD).map .a9) ⟨dR F h b0,T,σ⟩:=by
 induction ws with
 |nil=>exactλ{h b0} I=>⟨h,b0,I,.inl ⟨rfl,rfl,λz' m=>(by nomatch m)⟩,λhk=>hk⟩
 |cons w ws ih=>
  intro h b0 I;have q:=hw w (.head _);have ih:= @ih λw m=>hw w (.tail _ m);have mm:=rA h w.1 w.2;by_cases e:mn h w.1 w.2=mx h w.1 w.2
  ·have e':=mm.1.elim (λm=>m.1.symm.trans (e.trans m.2)) λm=>m.2.symm.trans (e.symm.trans m.1);refine(ih I).imp λh' r=>r.imp λb' r=>⟨r.1,r.2.1.imp (λr=>⟨r.1,r.2.1,λz m=>(List.mem_cons.mp m).elim (λm=>m▸e') (r.2.2 z)⟩) id,λ{T u σ F k} hk=> ?_⟩;exact GI I.len q.1 q.2.1 (λz'=>o8 (r.2.2 hk) rfl) λn=>(n e).elim
  ·have J:=I.step q.1 q.2.1 q.2.2 mm.1 (Int.lt_iff_le_and_ne.mpr ⟨mm.2,e⟩);refine(ih J.1).imp λh' r=>r.imp λb' r=>⟨r.1,.inr (r.2.1.elim (λr=>⟨r.1,r.2.1▸J.2⟩) λr=>⟨r.1,Æ r.2 J.2⟩),λ{T u σ F k} hk=> ?_⟩;exact GI I.len q.1 q.2.1 (λz=>(e z).elim) λz'=>o8 (r.2.2 hk) rfl
noncomputable def jz(b:wg):Str:=ô b (S "part") (S "tie")
noncomputable def w6(f:wg×u9):vg:= .tuple [.str (jz f.1),.int (xi f.2.1),.int (xi f.2.2.1),.int f.2.2.2]
noncomputable def U2(g:dg (wg×u9)):AV:= .a9 (.list (g.map w6))
noncomputable def g8(g:dg (wg×u9)):dg u9:=(g.filter λf=> !f.1).map (·.2)
noncomputable def U8(g:dg (wg×u9)):dg u9:=(g.filter λf=>f.1).map (·.2)
def Qx(fs:dg u9)(h:dg kg):Prop:=(∀f∈fs,lb h f.1=lb h f.2.1)/\∀p q,p∈t8->q∈t8->sy p.1=sy q.1->p.1<q.1->lb h p.2=lb h q.2->lb h p.1=lb h q.1
noncomputable def IU(fs:dg u9)(h:dg kg):dg (kg×kg):=fs.map (λf=>(f.1,f.2.1))++tC h t8
theorem HU{w:kg×kg}:w∈IU fs h↔(∃f∈fs,(f.1,f.2.1)=w)\/∃p∈t8,∃q,(q∈t8/\wt h p q=true)/\(p.1,q.1)=w:=by
 exact List.mem_append.trans (Na List.mem_map (List.mem_flatMap.trans (vd λp=>ud Ef (List.mem_map.trans (vd λq=>ud Ö Ef)))))
theorem CL(i:∀f∈fs,f.1∈TT/\f.2.1∈TT)(I:HI fs h):∀w∈IU fs h,w.1∈TT/\w.2∈TT/\Cl (AY fs) w.1 w.2:=λw m=>by
 refine(HU.mp m).elim (λm=>m.elim λf m=> ?_) λm=>m.elim λp m=>m.2.elim λq r=> ?_
 ·refine rR m.2 ?_;exact⟨(i f m.1).1,(i f m.1).2,λj g c z'=>c _ _ ⟨f.2.2,m.1⟩⟩
 ·have hp:=m.1;haveI d:=r.1.1;refine rR r.2 ?_;exact⟨(A0 hp).1,(A0 d).1,λj g c e=>e _ _ _ _ hp d (qg (l9 r.1.2).1) (I.snd _ _ (A0 hp).2.1 (A0 d).2.1 (qg (l9 (l9 r.1.2).2).2) _ g c e)⟩
theorem iC:∀p∈t8,∀q∈t8,p.1<q.1->xi p.1<xi q.1:=by decide
theorem Qx.of(c:∀w∈IU fs h,lb h w.1=lb h w.2):Qx fs h:=⟨λf m=>c (f.1,f.2.1) (HU.mpr (.inl ⟨f,m,rfl⟩)),λp q hp d s l e=>c _ (HU.mpr (.inr ⟨p,hp,q,⟨d,by unfold wt;refine rL (Dg s) (rL (Dg e) (rL (Dg (iC p hp q d l)) ?_));rfl⟩,rfl⟩))⟩
theorem aK{i:yg}{d:vg}{kk:M}{u:Mo}{c:IC}{K:KB}(q:(A9 P n kk).b u (c.set i (.a9 d)) K):(A9 P n (.set i (.con d) kk)).b u c K:=q
theorem PH{i j:yg}{m kk:M}{u:Mo}{c:IC}{K:KB}(q:(A9 P n m).c u c λws c1=>ck (nu (G8 c.ρ u) (.Z8 j)&&c1.ρ.all λp=>nt (.Z8 j) p.2) (C6 (.Z8 j) (.list true ws)/\(A9 P n kk).b u ⟨W9 c1.ρ i (.g9 (.Z8 j)),W9 c1.t j (.list true ws),c1.b⟩ K)):(A9 P n (.DY i (.Z8 j) m kk)).b u c K:=q
variable{gs:dg (wg×u9)}
noncomputable def EA:M:=jH false [5,6,7] false (jJ 3) DA [0,1,2,3] (jH true [11,12] false J3 DK [0,1,2,3] jN)
noncomputable def CA:M:=jT 2 (jK (.bool false)) (.DY 3 (.Z8 0) (jZ (jU (Y2 (jS J4 (Yi 1)) (jS J4 (Yi 2)))) [4] true J0 (jE .eq (jS J4 (Yi 0)) (Ys "tie")) []) EA)
theorem ZK(I:HI fs h)(hl:fs.length<=1000)(q:lp ((A9 P n DK).b (.all,[.Z8 0])) (U5 false [11,12]) (IC.keep [0,1,2,3]) (λg c=>c.σ (.Z8 0)=some (.list false (((IU fs h).map pD).map .a9))/\put c (.Z8 0) (.list true (((IU fs h).map pD).map .a9)) λd=>(IW (kB (A9 P n .nil) (.all,[]) k) k) g d) (((IU fs h).map pD).map .a9) ⟨dR F h b0,[(0,.list false (((IU fs h).map pD).map .a9))],σ⟩):
  (A9 P n EA).b (.all,[]) (II F h b0 [] (fs.map λf=>(f.1,f.2.1)) σ) k:=by
 refine IT (sC I.len (λz' m=>m) (bg (Qf (bg (Bg (ng _)) hl) _) (by decide)) ?_);exact WY (⟨.Z8 0,.list _ _,.list _ _,rfl,K5,(⟨λv m=>(List.mem_map.mp m).elim λz' e=>e.2▸trivial,q⟩)⟩)
theorem iN{c:wg}:(lay (.str (jz c))&&lay (.str (S "tie")))=true/\gZ (.str (jz c)) (.str (S "tie"))= !c:=by
 cases c<;>exact⟨by kernel_rfl,by kernel_rfl⟩
theorem ZF(d:∀f∈g8 gs,f.1∈TT/\f.2.1∈TT)(hl:gs.length<=1000)(I:HI (g8 gs) h):∃h' b',HI (g8 gs) h'/\(b'=false/\Qx (g8 gs) h'\/b'=true/\sm h'<sm h)/\∀{T σ k},(∀o,W9 T 0 o=[(0,o)])->(∀o,k .next ⟨dR (U2 gs) h' b',[(0,o)],σ⟩)->
  (A9 P n CA).b (.all,[]) ⟨[(0,U2 gs),(1,.a9 (.list (zs h))),(2,.a9 (.bool true))],T,σ⟩ k:=by
 refine M8 (py (n:=n) (P:=P) (CL d I) I) λh' b' r=>⟨h',b',r.1,(r.2.1.imp (λr=>⟨r.1,by refine rL r.2.1 ?_;exact Qx.of r.2.2⟩) id),λ{T σ k} c g=> ?_⟩;refine aK (PH ?_);refine⟨b9 (b9 (bg hl (by decide))),?_⟩;refine rL Vg (j5 _ (λf=>pD (f.2.1,f.2.2.1)) (λx m K k=>N8 iN.1 ((eg _ iN.2).mpr k)) (λx m z' K k=>k) λi=>(⟨λv m=>(List.mem_map.mp m).elim λz' e=>e.2▸trivial,?_⟩));haveI e:((gs.filter λf=> !f.1).map λf=>pD (f.2.1,f.2.2.1))=((g8 _).map λf=>(f.1,f.2.1)).map pD:=by refine rL Vg (rL Vg ?_);rfl
 refine rL e ((eg (λt=>(A9 P n _).b _ ⟨dR _ h _,t,σ⟩ k) (c _)).mpr (ZK I (bg (Bg (ng _)) (bg (Df ..) hl)) (r.2.2 (by exact⟨rfl,g _⟩))))
structure Hm(fs:dg u9)(h:dg kg):Prop where
 I:HI fs h
 C:Qx fs h
theorem Hm.iff(H:Hm fs h)(d:a∈TT)(f:b∈TT):lb h a=lb h b↔Cl (AY fs) a b:=⟨H.I.snd a b d f,λc=>c _ _ (λx y q=>q.elim λm q=>H.C.1 _ q) λa b x y p q s e=>by
 rcases Int.lt_trichotomy a b with l|l|l
 ·exact H.C.2 _ _ p q s l e
 ·exact rL l rfl
 ·exact(H.C.2 _ _ q p s.symm l e.symm).symm⟩
theorem aE(g:∀f∈g8 gs,f.1∈TT/\f.2.1∈TT)(hl:gs.length<=1000):∀{N h},HI (g8 gs) h->sm h<N->∃h',Hm (g8 gs) h'/\∀{T σ k},(∀o,W9 T 0 o=[(0,o)])->(∀T,k .next ⟨[(0,U2 gs),(1,.a9 (.list (zs h'))),(2,.a9 (.bool false))],T,σ⟩)->
  wh ((A9 P n (.val (.var 2))).t (.all,[])) ((A9 P n CA).b (.all,[])) (IC.keep [0,1,2]) k (N+1) ⟨[(0,U2 gs),(1,.a9 (.list (zs h))),(2,.a9 (.bool true))],T,σ⟩:=by
 intro N;induction N with
 |zero=>exactλz' q=>(Wc _ q).elim
 |succ N i=>
  intro h I q;refine M8 (ZF (P:=P) (n:=n) g hl I) λh' z' r=>r.2.1.elim (λe=> ?_) λe=> ?_
  ·refine⟨h',⟨r.1,e.2⟩,λ{T _ k} c d=> ?_⟩;refine r.2.2 c λo=> ?_;refine rL e.1 ?_;exact d _
  ·refine(i r.1 (Og e.2 (Oe q))).imp λj s=>⟨s.1,λ{T _ k} c d=> ?_⟩;refine r.2.2 c λo=> ?_;refine rL e.1 ?_;exact b4 (s.2 (λz'=>rfl) d) rfl
noncomputable def hz:dg kg:=[0,1,2,3,4,5,6,7,8,9,10]
theorem HI.zero:HI fs hz:=⟨rfl,by decide,λa b h c e=>by
 refine rL ((by decide:∀a∈TT,∀b∈TT,lb _ a=lb _ b->a=b) a h b c e) ?_;exactλz' z' z' z'=>rfl⟩
theorem ew(c:∀f∈g8 gs,f.1∈TT/\f.2.1∈TT)(hl:gs.length<=1000):∃h,Hm (g8 gs) h/\∀σ,i7 P 1 .all 74 [U2 gs] σ (.a9 (.list (zs h))) σ:=by
 exact(aE (P:=P) (n:=0) c hl (N:=56) HI.zero (by decide)).imp λh r=>⟨r.1,λσ=>(enter ai rt rt (⟨⟨by decide,by decide⟩,57,(b4 (r.2 (λz'=>rfl) λz'=>done) rfl)⟩))⟩
variable{l m:dg kg}{y z:kg}{d:vg}{ds:dg vg}
theorem h5(q:lay d=true):gZ d d=true:=by refine rL VN ?_;exact PySem.SeqAt.eqv_refl d (l9 q).1
theorem WN{x:vg}:gZ (.list (x::ds)) (.list [])=false:=by rfl
theorem N4{c:wg}:(lay (.str (jz c))&&lay (.str (S "part")))=true/\gZ (.str (jz c)) (.str (S "part"))=c:=by
 cases c<;>exact⟨by kernel_rfl,by kernel_rfl⟩
theorem yI(q:∀d∈ds,d.canLay0=true/\d.depth<=1):lay (.list ds)=true:=by
 have h:Ze ds=true/\Qc ds<=1:=by
  induction ds with
  |nil=>exact⟨rfl,Xg _⟩
  |cons x l ih=>exact have i:=ih λd m=>q d (.tail _ m);⟨(Sg _ _).mpr ⟨(q x (.head _)).1,i.1⟩,Nat.max_le.mpr ⟨(q x (.head _)).2,i.2⟩⟩
 exact(Sg _ _).mpr ⟨h.1,Dg (bg (Hg h.2) (by decide))⟩
theorem lE{f:wg×u9}:(w6 f).canLay0=true/\(w6 f).depth<=1:=by
 cases f with
 |mk c f=>cases c<;>exact⟨by kernel_rfl,vf (by kernel_rfl)⟩
theorem wR:lay (.list (gs.map w6))=true:=yI λd m=>(List.mem_map.mp m).elim λf e=>e.2▸lE
theorem Kh{p:wg×u9->wg}:(!gZ (.list ((gs.filter p).map w6)) (.list []))=gs.any p:=by
 induction gs with
 |nil=>exact eg (!·) (h5 rfl)
 |cons x l ih=>
  rw [Ue];cases q:p x with
  |true=>rw [Je q];exact eg (!·) WN
  |false=>rw [Le (by rw [q];exact cf)];exact ih
theorem MT:gZ (.list (zs l)) (.list (zs m))=decide (l=m):=by
 show ua _ _=_;induction l generalizing m with
 |nil=>cases m<;>rfl
 |cons x l i=>
  cases m with
  |nil=>rfl
  |cons y m=>
   show(je _ _&&ua _ _)=_;refine rL i (rL (show je _ _=decide (x=y) by rfl) ?_);rw [Bool.eq_iff_iff,Sg,ae,ae,ae,List.cons.injEq]
noncomputable def both(h:dg kg)(a b:kg):dg kg:=Ì [lb h a,lb h b]
noncomputable def N0(h:dg kg)(g:dg (wg×u9))(a b:kg):wg:=decide (both h a b=both h 1 2)||g.any λf=>f.1&&decide (both h f.2.1 f.2.2.1=both h a b)
noncomputable def EZ(h:dg kg)(g:dg (wg×u9))(a b:kg):kg:=if lb h a=lb h b then 1 else ô (N0 h g a b) (-1) 0
def FT(g:dg (wg×u9)):Prop:=∀f∈g,f.2.1∈TT/\f.2.2.1∈TT
theorem CD:(1)∈TT/\(2)∈TT:=by decide
theorem Bk(hl:h.length=11)(p:a∈TT)(r:b∈TT)(o:FT gs)(j:gs.length<=1000):i7 P 1 .all 75 [.a9 (.list (zs h)),U2 gs,iv (xi a),iv (xi b)] σ (.a9 (.bool (N0 h gs a b))) σ:=by
 haveI z:=M1 hl;haveI i:∀{l m},(lay (.list (zs l))&&lay (.list (zs m)))=true:=λ{l m}=>(Sg _ _).mpr ⟨P6,P6⟩;refine enter Zj rt rt (k9 (G7 hl p) ⟨z,k9 (G7 hl r) ⟨z,?_⟩⟩);refine⟨[lb h a,lb h b],rfl,(by decide:2<64),?_⟩;refine k9 (G7 hl CD.1) ⟨z,k9 (G7 hl CD.2) ⟨z,?_⟩⟩;refine⟨[lb h 1,lb h 2],rfl,(by decide:2<64),?_⟩;refine N8 i ?_;by_cases e:both h a b=both h 1 2
 ·exact D9 (MT.trans (Dg e)) (w3 (by unfold N0;refine rL (Dg e) ?_;rfl))
 refine v9 (MT.trans (Ig e)) (⟨b9 (b9 (bg j (by decide))),?_⟩);refine rL Vg (j5 (λf=>f.1&&decide (both h f.2.1 f.2.2.1=both h a b)) _ (λf m K k=>N8 N4.1 ?_) (λf m K z' k=>k) λs=>L5 ?_)
 ·haveI q:=o f m;cases c:f.1 with
  |false=>rw [c] at k;exact v9 N4.2 k
  |true=>
   rw [c] at k;exact D9 N4.2 (k9 (G7 hl q.1) ⟨z,k9 (G7 hl q.2) ⟨z,(⟨[lb h _,lb h _],rfl,(by decide:2<64),N8 i (MT▸k)⟩)⟩⟩)
 refine N8 ((Sg _ _).mpr ⟨wR,rfl⟩) (w3 ?_);unfold N0;refine rL Kh (rL (Ig e) ?_);rfl
theorem jp(hl:h.length=11)(c:a∈TT)(f:b∈TT)(i:FT gs)(g:gs.length<=1000):i7 P 2 .all 76 [.a9 (.list (zs h)),U2 gs,iv (xi a),iv (xi b)] σ (iv (EZ h gs a b)) σ:=by
 haveI z:=M1 hl;refine enter Yj rt rt (k9 (G7 hl c) ⟨z,k9 (G7 hl f) ⟨z,?_⟩⟩);unfold EZ;by_cases e:lb h a=lb h b
 ·refine rL (xg e) ?_;exact D9 (Q8 e) done
 refine rL (og e) (v9 (H8 e) (Y8 (Bk hl c f i g) rt ?_));cases N0 h _ a b<;>exact done
noncomputable def UI(g:dg (wg×u9))(h:dg kg):wg:=decide (lb h 1=lb h 2)||g.any λf=>f.1&&decide (lb h f.2.1=lb h f.2.2.1)
theorem ip(hl:h.length=11)(i:FT gs)(j:gs.length<=1000)(H:∀σ,i7 P 1 .all 74 [U2 gs] σ (.a9 (.list (zs h))) σ):i7 P 2 .all 77 [U2 gs] σ (.a9 (.bool (UI gs h))) σ:=by
 haveI z:=M1 hl;refine enter Xj rt rt (Y8 (H _) rt ?_);refine k9 (G7 hl CD.1) ⟨z,k9 (G7 hl CD.2) ⟨z,?_⟩⟩;by_cases e:lb h 1=lb h 2
 ·exact D9 (Q8 e) (w3 (by unfold UI;refine rL (Dg e) ?_;rfl))
 refine v9 (H8 e) (⟨b9 (b9 (bg j (by decide))),?_⟩);refine rL Vg (j5 (λf=>f.1&&decide (lb h f.2.1=lb h f.2.2.1)) _ (λf m K k=>N8 N4.1 ?_) (λf m K z' k=>k) λo=>L5 ?_)
 ·haveI q:=i f m;cases c:f.1 with
  |false=>rw [c] at k;exact v9 N4.2 k
  |true=>
   rw [c] at k;exact D9 N4.2 (k9 (G7 hl q.1) ⟨z,k9 (G7 hl q.2) ⟨z,k⟩⟩)
 refine N8 ((Sg _ _).mpr ⟨wR,rfl⟩) (w3 ?_);unfold UI;refine rL Kh (rL (Ig e) ?_);rfl
variable{l1 l2:dg kg}{c w:kg}{o:gg p8}{f:u9}
theorem NU:Ì [x,y]=Ì [z,w]↔(x=z/\y=w)\/(x=w/\y=z):=by
 refine⟨λe=> ?_,λe=>e.elim (λe=>by rw [e.1,e.2]) λe=>by refine rL e.1 (rL e.2 ?_);exact eq_sortI ((Mb _).trans (ġ ..)) (sortI_rises _)⟩;have p:[x,y].Perm [z,w]:=(Mb _).symm.trans (e▸Mb _);refine(List.mem_cons.mp (p.mem_iff.mp (.head _))).elim (λq=> .inl ⟨q,?_⟩) λq=> .inr ⟨List.mem_singleton.mp q,?_⟩
 ·rw [q] at p;exact List.mem_singleton.mp ((ÿ p).mem_iff.mp (.head _))
 ·rw [List.mem_singleton.mp q] at p;exact List.mem_singleton.mp ((ÿ (p.trans (ġ ..))).mem_iff.mp (.head _))
theorem l4:f∈U8 gs↔(true,f)∈gs:=by
 refine List.mem_map.trans ⟨λq=>q.elim λx q=> ?_,λq=>⟨_,List.mem_filter.mpr ⟨q,rfl⟩,rfl⟩⟩;haveI m:=List.mem_filter.mp q.1;haveI e:x=(true,f):=nb m.2 q.2;exact e▸m.1
theorem z5:f∈g8 gs↔(false,f)∈gs:=by
 refine List.mem_map.trans ⟨λq=>q.elim λx q=> ?_,λq=>⟨_,List.mem_filter.mpr ⟨q,rfl⟩,rfl⟩⟩;haveI m:=List.mem_filter.mp q.1;have e:x=(false,f):=nb ((Ff _).resolve_left λz=>by haveI m:=z▸m;exact(by nomatch m.2)) q.2;exact e▸m.1
theorem Kw{f:wg×u9}(m:f∈gs)(e:f.1=true):f.2∈U8 gs:=l4.mpr (by cases f;subst e;exact m)
theorem nO{p:u9->wg}:(p (1,2,0)||gs.any λf=>f.1&&p f.2)=true↔∃c∈Pa (U8 gs),p c=true:=by
 unfold Pa;rw [Jf,List.any_eq_true];refine⟨λq=>q.elim (λq=>⟨_,.head _,q⟩) λq=>q.elim λf q=>have e:=l9 q.2;⟨f.2,.tail _ (Kw q.1 e.1),e.2⟩,λq=>q.elim λc q=>(List.mem_cons.mp q.1).imp (λe=>(eg p e).symm.trans q.2) λm=>⟨(true,c),l4.mp m,q.2⟩⟩
theorem iT(h:FT gs)(m:f∈Pa (U8 gs)):f.1∈TT/\f.2.1∈TT:=(List.mem_cons.mp m).elim (λe=>e▸CD) λm=>h _ (l4.mp m)
theorem wX(h:FT gs):∀f∈g8 gs,f.1∈TT/\f.2.1∈TT:=λf m=>h _ (z5.mp m)
theorem wQ:N0 h gs a b=true↔∃c∈Pa (U8 gs),both h c.1 c.2.1=both h a b:=by
 haveI e:N0 h _ a b=(decide (both h 1 2=both h a b)||gs.any λf=>f.1&&decide (both h _ _=both h a b)):=eg (·||_) (decide_eq_decide.mpr eq_comm);exact rL e ((nO (p:=λc=>decide (both h c.1 c.2.1=both h a b))).trans (vd λc=>ud Ef ae))
theorem Hm.part(H:Hm (g8 gs) h)(hF:FT gs)(ha:a∈TT)(hb:b∈TT):N0 h gs a b=true↔∃c,YT (g8 gs) (U8 gs) a b (some c):=by
 refine wQ.trans ⟨λq=>q.elim λc q=> ?_,λq=>q.elim λc q=> ?_⟩
 ·have m:=iT hF q.1;refine(NU.mp q.2).elim (λe=>⟨c,(H.iff ha m.1).mp e.1.symm,(H.iff hb m.2).mp e.2.symm,.inl q.1⟩) λe=>⟨(c.2.1,c.1,c.2.2),(H.iff ha m.2).mp e.2.symm,(H.iff hb m.1).mp e.1.symm,.inr q.1⟩
 ·refine q.2.2.elim (λm=>⟨c,m,?_⟩) λm=>⟨_,m,?_⟩
  ·have w:=iT hF m;exact NU.mpr (.inl ⟨((H.iff ha w.1).mpr q.1).symm,((H.iff hb w.2).mpr q.2.1).symm⟩)
  ·have w:=iT hF m;exact NU.mpr (.inr ⟨((H.iff hb w.1).mpr q.2.1).symm,((H.iff ha w.2).mpr q.1).symm⟩)
theorem z4.ne{fs ps:dg u9}(q:z4 fs ps){p:p8}(r:YT fs ps a b (some p))(e:Cl (AY fs) a b):False:=by
 have k:Cl (AY fs) p.1 p.2.1:=λα f h1 h2=>(r.1 α f h1 h2).symm.trans ((e α f h1 h2).trans (r.2.1 α f h1 h2));exact r.2.2.elim (λm=>q _ m k) λm=>q _ m k.symm
theorem Hm.BY(H:Hm (g8 gs) h)(hF:FT gs)(C:z4 (g8 gs) (U8 gs))(ha:a∈TT)(hb:b∈TT)(r:YT (g8 gs) (U8 gs) a b o):EZ h gs a b=tv o:=by
 unfold EZ;cases o with
 |none=>exact xg ((H.iff ha hb).mpr r)
 |some p=>
  rw [og λe=>C.ne r ((H.iff ha hb).mp e),(H.part hF ha hb).mpr ⟨p,r⟩];rfl
theorem Hm.Jw(H:Hm (g8 gs) h)(k:FT gs)(j:a∈TT)(i:b∈TT)(r:∀o,¬YT (g8 gs) (U8 gs) a b o):EZ h gs a b=0:=by
 unfold EZ;refine rL (og λe=>r none ((H.iff j i).mp e)) (rL ((Ff _).resolve_left λe=>((H.part k j i).mp e).elim λp q=>r _ q) ?_);rfl
noncomputable def tz(o:gg (gg p8)):kg:=(o.map tv).getD 0
theorem Good.truth(G:Good (g8 gs) (U8 gs) E)(H:Hm (g8 gs) h)(k:FT gs)(hs:E.P9 t=some (a,b))(j:a∈TT)(i:b∈TT):EZ h gs a b=tz (E.d8 t):=by
 cases e:E.d8 t with
 |none=>exact H.Jw k j i λo r=>(G.tells hs r).elim λo' q=>(by nomatch e.symm.trans q)
 |some o=>exact H.BY k G.cons j i (G.BY hs e)
theorem Hm.cons(H:Hm (g8 gs) h)(i:FT gs):UI gs h=false↔z4 (g8 gs) (U8 gs):=by
 have e:UI gs h=true↔∃c∈Pa _,lb h _=lb h c.2.1:=(nO (p:=λc=>decide (lb h c.1=lb h c.2.1))).trans (vd λc=>ud Ef ae);refine⟨λq f m k=> ?_,λq=>(Ff _).resolve_left λz=>(e.mp z).elim λc z=>q c z.1 ((H.iff (iT i z.1).1 (iT i z.1).2).mp z.2)⟩;rw [e.mpr ⟨f,m,(H.iff (iT i m).1 (iT i m).2).mpr k⟩] at q;exact(by nomatch q)
def KW(g:dg (wg×u9)):Prop:=∀f∈g,(f.2.1∈TT/\f.2.2.1∈TT)/\f.2.2.2∈[(-7),-5,-3,2,4,6]
theorem z0:(0)∉[(-7),-5,-3,2,4,6]:=by decide
theorem KW.ft(h:KW gs):FT gs:=λf m=>(h f m).1
noncomputable def E8(gs:dg (wg×u9))(l:dg kg):dg (wg×u9):=gs.filter λf=>decide (f.2.2.2∈l)
def a3(gs:dg (wg×u9))(l:dg kg):Prop:=bS l/\∀m∈l,∃f∈gs,f.2.2.2=m
theorem uR(h:bS l):l.length<=6:=V8 (h.1.imp Gc) h.2
theorem KW.E8(h:KW gs):KW (E8 gs l):=λf m=>h f (List.mem_filter.mp m).1
theorem AQ{f:wg×u9}:f∈E8 gs l↔f∈gs/\f.2.2.2∈l:=List.mem_filter.trans (ud Ef ae)
theorem U1:x∈Ì l↔x∈l:=(Mb l).mem_iff
theorem NC(h:l.Nodup):(Ì l).Pairwise (·<·):=((sortI_rises l).and ((Mb l).nodup_iff.mpr h)).imp Int.lt_iff_le_and_ne.mpr
theorem a3.of(e:KW gs)(h:l.Nodup)(q:∀m∈l,∃f∈gs,f.2.2.2=m):a3 gs (Ì l):=⟨⟨NC h,λx m=>(q x (U1.mp m)).elim λf w=>w.2▸(e f w.1).2⟩,λm h=>q m (U1.mp h)⟩
theorem a3.nd(h:a3 gs l):l.Nodup:=h.1.1.imp Gc
theorem mN:x∈rh l1 l2↔x∈l1\/x∈l2:=by
 refine U1.trans (List.mem_append.trans ?_);rw [Ö];by_cases q:x∈l1
 ·exact⟨λz'=> .inl q,λz'=> .inl q⟩
 ·refine rL (Ig q) ?_;exact Na Ef (â rfl)
theorem a3.join(q:KW gs)(j:a3 gs l1)(i:a3 gs l2):a3 gs (rh l1 l2):= .of q (List.nodup_append.mpr ⟨j.nd,i.nd.filter _,λa p b k e=>by
  haveI:=(List.mem_filter.mp k).2;rw [<-e,Dg p] at this;exact(by nomatch this)⟩) λm h=>(List.mem_append.mp h).elim (j.2 m) λh=>i.2 m (List.mem_filter.mp h).1
theorem BU(q:x∈l):x∈T7 l y:=by
 unfold T7;split
 ·exact q
 ·exact U1.mpr (Kg _ q)
theorem sH:y=0\/y∈T7 l y:=by
 by_cases e:y=0
 ·exact .inl e
 refine .inr ?_;unfold T7;by_cases q:y∈l
 ·rw [xg (.inr q)];exact q
 ·rw [og (not_or.mpr ⟨e,q⟩)];exact U1.mpr (Rg _ (.head _))
theorem a3.wr(hF:KW gs)(h:a3 gs l)(m:f∈Pa (U8 gs)):a3 gs (T7 l f.2.2):=by
 unfold T7;split
 ·exact h
 ·rename_i e;exact .of hF (f7 h.nd λq=>e (.inr q)) λx q=>(j8 q).elim (h.2 x) λz=>((List.mem_cons.mp m).elim (λw=>(e (.inl (w▸rfl))).elim) λm=>⟨_,l4.mp m,z.symm⟩)
theorem mZ(hF:KW gs)(t:Told (g8 gs) a b l):a3 gs l/\Cl (AY (g8 (E8 gs l))) a b:=t.elim λfd t=>by
 rw [t.1];refine⟨.of hF t.2.1 λm h=>(t.2.2.2.1 m h).2.elim λu q=>q.elim λv q=>⟨_,z5.mp q,rfl⟩,t.2.2.2.2.mono λx y q=>q.imp λm q=>z5.mpr (AQ.mpr ⟨z5.mp q.1,?_⟩)⟩;refine q.2.elim (λz=> ?_) λm=>U1.mpr m;have w:=(hF _ (z5.mp q.1)).2;rw [show m=0 from z] at w;exact(z0 w).elim
theorem t4{l e:dg kg}(h:∀m∈l,m∈e)(k:Cl (AY (g8 (E8 gs l))) a b):Cl (AY (g8 (E8 gs e))) a b:=k.mono λx y q=>q.imp λm q=>z5.mpr (AQ.mpr ((AQ.mp (z5.mp q)).imp id (h _)))
theorem z4.E8(q:z4 (g8 gs) (U8 gs)):z4 (g8 (E8 gs l)) (U8 (E8 gs l)):=λf m k=>q f ((List.mem_cons.mp m).elim (λe=>e▸ .head _) λm=> .tail _ (l4.mpr (AQ.mp (l4.mp m)).1)) (k.mono λx y q=>q.imp λm q=>z5.mpr (AQ.mp (z5.mp q)).1)
theorem LZ(h:KW gs)(m:f∈Pa (U8 gs)):f∈Pa (U8 (E8 gs (T7 l f.2.2))):=(List.mem_cons.mp m).elim (λe=>e▸ .head _) λq=>by
 have q:=l4.mp q;refine .tail _ (l4.mpr (AQ.mpr ⟨q,(sH).resolve_left λz=> ?_⟩));haveI w:=(h _ q).2;rw [show(true,f).2.2.2=0 from z] at w;exact z0 w
theorem tH(hF:KW gs)(q:Gx (g8 gs) (U8 gs) a b l o):a3 gs l/\YT (g8 (E8 gs l)) (U8 (E8 gs l)) a b o:=by
 cases o with
 |none=>exact mZ hF q
 |some c=>
  refine q.elim λl1 q=>q.elim λl2 q=> ?_;have b1:=mZ hF q.1;have b2:=mZ hF q.2.1;have bj:=b1.1.join hF b2.1;have s1:∀m∈l1,m∈l:=λm h=>q.2.2.1▸BU (mN.mpr (.inl h));have s2:∀m∈l2,m∈l:=λm h=>q.2.2.1▸BU (mN.mpr (.inr h));have e:=q.2.2.1;refine q.2.2.2.elim (λm=>⟨e▸bj.wr hF m,t4 s1 b1.2,t4 s2 b2.2,.inl (e▸LZ hF m)⟩) λm=>⟨e▸bj.wr (f:=(c.2.1,c.1,c.2.2)) hF m,t4 s1 b1.2,t4 s2 b2.2,.inr (e▸LZ hF m)⟩
theorem dU(hF:KW gs)(q:B4 (g8 gs) (U8 gs) l):a3 gs l/\¬z4 (g8 (E8 gs l)) (U8 (E8 gs l))/\¬z4 (g8 gs) (U8 gs):=q.elim λf q=>q.elim λl0 q=>by
 have b:=mZ hF q.2.1;have e:=q.2.2;exact⟨e▸b.1.wr hF q.1,λc=>c f (e▸LZ hF q.1) (t4 (λm h=>e▸BU h) b.2),λc=>c f q.1 q.2.1.all⟩
end
section
variable{P:y8}{n:yg}{g:q9}{K:R8}{E:G9}{L:Lw}{gs:dg (wg×u9)}{h l:dg kg}{a b t v x y z w:kg}{W:dg (kg×(kg×kg))}{p:kg×kg}
theorem eR{l:dg (kg×AV)}{q:AV}:lk ((x,q)::l) t=if x=t then some q else lk l t:=by
 unfold lk;refine rL (jd) ?_;by_cases e:x=t
 ·refine rL (xg e) (rL (Dg e) ?_);rfl
 ·exact rL (og e) (rL (Ig e) rfl)
theorem yV(n:(W.map (·.1)).Nodup)(m:(t,p)∈W):lk (u2 W) t=some (.a9 (xY p)):=by
 induction W with
 |nil=>exact(by nomatch m)
 |cons x W i=>
  have n:=List.nodup_cons.mp n;exact eR.trans ((List.mem_cons.mp m).elim (λe=>e▸xg rfl) λm=>(og λe=>n.1 (List.mem_map.mpr ⟨_,m,e.symm⟩)).trans (i n.2 m))
theorem oA{q:kg×(kg×kg)}(n:(W.map (·.1)).Nodup)(m:(t,p)∈W)(r:q∈W)(e:q.1=t):q=(t,p):=by
 induction W with
 |nil=>exact(by nomatch m)
 |cons x W i=>
  have n:=List.nodup_cons.mp n;haveI c:∀{u v},v∈W->u.1=v.1->u=x->False:=λ{u v} h e z=>n.1 (List.mem_map.mpr ⟨v,h,(z▸e).symm⟩);exact(List.mem_cons.mp m).elim (λa=>(List.mem_cons.mp r).elim (λb=>b.trans a.symm) λb=>(c b e.symm a).elim) λa=>(List.mem_cons.mp r).elim (λb=>(c a e b).elim) λb=>i n.2 a b
theorem gO:(u2 W).any (λp=>decide (p.1=t))=true↔∃p,(t,p)∈W:=by
 refine rL List.any_map ?_;rw [List.any_eq_true];exact⟨λq=>q.elim λy q=>⟨y.2,by haveI e:=qg q.2;refine rR e ?_;exact q.1⟩,λq=>q.elim λp q=>⟨_,q,Dg rfl⟩⟩
theorem lF(n:(W.map (·.1)).Nodup)(m:(t,p)∈W):X6 (u2 W) t (.a9 (xY p))=u2 W:=by
 unfold X6;rw [xg (gO.mpr ⟨_,m⟩)];unfold u2;rw [Vg];refine wd λq r=> ?_;show(if q.1=t then _ else _)=_;by_cases e:q.1=t
 ·rw [xg e,oA n m r e]
 ·rw [og e]
theorem rT(m:∀p,(t,p)∉W):X6 (u2 W) t (.a9 (xY p))=u2 (W++[(t,p)]):=by
 unfold X6;exact(og λe=>(gO.mp e).elim m)▸(Ng (l₂:=[(t,p)])).symm
def p5(L:Lw)(gs:dg (wg×u9)):Prop:=(L.ok L.ids/\L.facts L.ids=gs.map w6)/\gs.length<=1000
theorem p5.az(H:p5 L gs):i7 P 1 .all 78 [.g9 .state] (hl P g K E L) (U2 gs) (hl P g K E L):=by
 haveI q:=Mine.Internal.az (P:=P) (g:=g) (K:=K) (E:=E) H.1.1 (by rw [H.1.2,ng];exact bg H.2 (by decide));rw [H.1.2] at q;exact q
noncomputable def I4(g:dg (wg×u9)):dg kg:=g.map (·.2.2.2)
theorem fp(H:p5 L gs)(B:a3 gs l):i7 P 2 .all 79 [.g9 .state,.a9 (.list (zs l))] (hl P g K E L) (U2 (E8 gs l)) (hl P g K E L):=by
 have z6:gs.length<=1000000:=bg H.2 (by decide);refine enter Vj rt rt (Y8 H.az rt ?_);refine⟨b9 (b9 z6),?_⟩;rw [Vg];refine j5 (λz'=>true) (λf:wg×u9=> .int f.2.2.2) (λf m K k=>k) (λf m z' K k=>k) λρ'=> ?_;rw [show(gs.filter λz'=>true).map (λf:wg×u9=>Ó f.2.2.2)=zs (I4 gs) by rw [List.filter_eq_self.mpr λz' z'=>rfl];exact(Vg ..).symm];refine L5 ⟨l,rfl,B.1,N8 ((Sg _ _).mpr ⟨P6,P6⟩) (v9 (eg (!·) (h5 P6)) ?_)⟩;refine⟨H7 (bg (uR B.1) (by decide)),?_⟩;rw [d6];refine j5 (λx=> !decide (x∈I4 gs)) Ó (λx m K k=>N8 ((Sg _ _).mpr ⟨P6,rfl⟩) (u4▸k)) (λx m z' K k=>k) λρ'=>(L5 (N8 ((Sg _ _).mpr ⟨P6,rfl⟩) (v9 ?_ ?_)))
 ·rw [List.filter_eq_nil_iff.mpr λx m=>by
   have q:x∈I4 gs:=(B.2 x m).elim λf q=>List.mem_map.mpr ⟨f,q⟩;rw [Dg q];exact cf]
  exact eg (!·) (h5 rfl)
 refine⟨b9 (b9 z6),?_⟩;show rJ _ _ _ _ _ ((gs.map w6).map AV.a9) _ _;rw [Vg];exact j5 (λf:wg×u9=>decide (f.2.2.2∈l)) w6 (λf m K k=>N8 ((Sg _ _).mpr ⟨P6,rfl⟩) (u4▸k)) (λf m z' K k=>k) λρ'=>L5 done
theorem dw(hB:BK K)(H:p5 L gs)(hF:KW gs)(w:lk (u2 L.C9) t=some (.a9 (xY (xi a,xi b))))(d:lk (u2 L.told) t=some (.a9 (xY (v,x))))(ha:a∈TT)(hb:b∈TT)(M:Mz 4 36 .all [iv t] E (.a9 (.list (zs l))) E)(B:a3 gs l)(q:∀h,Hm (g8 (E8 gs l)) h->EZ h (E8 gs l) a b=v):
  i7 P 5 .all 80 [.g9 .state,.g9 .house,iv t] (hl P g K E L) (.a9 (.bool true)) (hl P g K E L):=by
 have F2:=hF.E8 (l:=l);have l2:(E8 gs l).length<=1000:=bg (Df ..) H.2;refine(ew (P:=P) (wX F2.ft) l2).elim λh r=>(enter Uj rt rt (Y8 (M P {g with r:=rU L} K hB λz' z' z=>(by nomatch z)) rt (q8 (fp H B) rt rt ?_)));refine k9 w (q8 (r.2 _) rt rt (q8 (jp r.1.I.len ha hb F2.ft l2) rt rt ?_));exact k9 d (w3 (by rw [Q8 (q h r.1)]))
variable{A:dg kg}{k:KB}{T:dg (kg×(kg×kg))}{tr:kg->kg}{vs:dg AV}
theorem iY{l:dg (kg×AV)}{c:wg}(e:l=u2 T):up (hl P g K E L) .ltold (.M9 (!c) l)=hl P g K E {L with told:=T,zt:=c}:=e▸B9 (λτ h=>by
 cases τ with
 |ltold=>exact(h rfl).elim
 |ls k t=>cases k<;>rfl
 |C7 k=>cases k<;>rfl
 |_=>rfl) rfl
theorem bM{l:dg (kg×AV)}(z:L.zt=false)(e:l=u2 T):up (hl P g K E L) .ltold (.M9 true l)=hl P g K E {L with told:=T}:=(iY (c:=false) e).trans (eg _ (by cases L;subst z;rfl))
theorem rW(e:vs=(zs A).map .a9):up (hl P g K E L) .fresh (.list true vs)=hl P g K E {L with fresh:=A}:=e▸B9 (λτ h=>by
 cases τ with
 |fresh=>exact(h rfl).elim
 |ls k t=>cases k<;>rfl
 |C7 k=>cases k<;>rfl
 |_=>rfl) rfl
theorem ZN{l:dg (kg×AV)}{c:wg}(e:l=u2 W):up (hl P g K E L) .lwat (.M9 (!c) l)=hl P g K E {L with C9:=W,zw:=c}:=e▸B9 (λτ h=>by
 cases τ with
 |lwat=>exact(h rfl).elim
 |ls k t=>cases k<;>rfl
 |C7 k=>cases k<;>rfl
 |_=>rfl) rfl
noncomputable def tk(T:dg (kg×(kg×kg)))(t:kg):wg:=T.any λp=>decide (p.1=t)
theorem X7:tk T t=true↔∃p,(t,p)∈T:=List.any_eq_true.trans ⟨λq=>q.elim λy q=>⟨y.2,by haveI e:=qg q.2;refine rR e ?_;exact q.1⟩,λq=>q.elim λp q=>⟨_,q,Dg rfl⟩⟩
theorem wI:(lk (u2 T) t).isSome=tk T t:=by
 induction T with
 |nil=>rfl
 |cons x T i=>
  refine(eg _ eR).trans (Eq.trans ?_ (Ue).symm);by_cases e:x.1=t
  ·refine rL (xg e) (rL (Dg e) ?_);rfl
  ·refine rL (og e) (rL (Ig e) ?_);exact i
noncomputable def D2(tr:kg->kg)(T:dg (kg×(kg×kg)))(ks:dg kg):dg kg:=ks.filter λt=> !decide (tr t=0)&& !tk T t
noncomputable def Lw.nt(L:Lw)(d:kg->kg)(A:dg kg):Lw:={L with told:=L.told++A.map λt=>(t,(d t,(L.ids.length:kg))),fresh:=L.fresh++A}
theorem NG:L.nt tr []=L:=by
 unfold Lw.nt;refine rL List.map_nil ?_;rw [Fg,Fg]
noncomputable def gF:M:= .n6 [4,5] (jS (jS J0 (Ys "watched")) J3) (jT 6 (jF 76 (Y4 J2 J1 J4 J5)) (jI (jD (jE .ne J6 (Yi 0)) (jE .notin J3 (jS J0 (Ys "told")))) (jY (jU (Y2 J6 (jB .len (Y1 (jS J0 (Ys "levels")))))) (jS J0 (Ys "told")) J3 (jX (jL (jS J0 (Ys "fresh")) .append (Y1 J3)) jN)) jN jN))
noncomputable abbrev UG(P:y8)(c:dg (wg×u9))(h:dg kg)(g:q9)(K:R8)(E:G9)(L:Lw):IC:=⟨[(0,.g9 .state),(1,U2 c),(2,.a9 (.list (zs h)))],[],hl P g K E L⟩
theorem Jv(D:h.length=11)(F:FT gs)(C:gs.length<=1000)(z:L.zt=false)(u:(L.C9.map (·.1)).Nodup)(j:L.ids.length<=1000/\L.told.length+L.C9.length<=1000/\L.fresh.length+L.C9.length<=1000):∀{W:dg (kg×(kg×kg))} {A:dg kg},A.length+W.length<=L.C9.length->(A++W.map (·.1)).Nodup->(∀w∈W,w∈L.C9/\∃a b,(a∈TT/\b∈TT)/\w.2=(xi a,xi b)/\EZ h gs a b=tr w.1)->
  k .next (UG P gs h g K E (L.nt tr (A++D2 tr L.told (W.map (·.1)))))->lp ((A9 P 3 gF).b (.st,[.lwat])) (U5 true [3]) (IC.keep [0,1,2]) k (W.map λw=>iv w.1) (UG P gs h g K E (L.nt tr A)):=by
 intro W;induction W with
 |nil=>exactλ{A} z' z' z' c=>(eg (λA=>k .next (UG P gs h g K E (L.nt tr A))) (Fg A)).mp c
 |cons w W l=>
  intro A f n hw c;haveI q:=hw w (.head _);refine M8 q.2 λa b d=> ?_;have s:(!decide (tr w.1=0)&& !tk L.told w.1)=false->lp ((A9 P 3 gF).b (.st,[.lwat])) (U5 true [3]) (IC.keep [0,1,2]) k (W.map λw=>iv w.1) (UG P gs h g K E (L.nt tr A)):=λe=>by
   refine l (bg (Eg (Gf _) _) f) ?_ (λw m=>hw w (.tail _ m)) ?_
   ·exact n.sublist (List.Sublist.append_left (List.sublist_cons_self _ _) _)
   ·unfold D2 at c⊢;rw [Cf,Le (by refine rL e ?_;exact cf)] at c;exact c
  haveI l1:(L.told++A.map λt=>(t,(tr t,(L.ids.length:kg)))).length<=1000:=by
   refine rL jg ?_;rw [ng];exact bg (Eg (bg (Cg _ _) f) _) j.2.1
  haveI l2:(L.fresh++A).length<=1000:=by
   refine rL jg ?_;exact bg (Eg (bg (Cg _ _) f) _) j.2.2
  refine k9 (yV u (p:=(xi a,xi b)) (d.2.1▸q.1)) (q8 (jp D d.1.1 d.1.2 F C) rt rt ?_);refine rL d.2.2 ?_;by_cases i:tr w.1=0
  ·exact v9 (p6 i) (o8 (s (rL (Dg i) rfl)) rfl)
  refine D9 (G6 i) ?_;have r:(lk (u2 (L.nt tr A).told) w.1).isSome=tk L.told w.1:=by
   refine rL wI ?_;unfold Lw.nt tk;refine rL List.any_append (rL List.any_map ?_);refine(eg _ (List.any_eq_false.mpr λy m e=> ?_)).trans (Bool.or_false _);exact(List.nodup_append.mp n).2.2 y m w.1 (.head _) (qg e)
  by_cases e1:tk L.told w.1=true
  ·exact v9 (eg (!·) (r.trans e1)) (o8 (s (rL e1 (Cc _))) rfl)
  haveI e1:=(Ff _).resolve_left e1;refine D9 (eg (!·) (r.trans e1)) ⟨b9 (bg j.1 (by decide)),?_⟩;haveI H:∀p,(w.1,p)∉(L.nt tr A).told:=λp m=>by
   rw [wI] at r;haveI:=r.symm.trans (X7.mpr ⟨p,m⟩);rw [e1] at this;exact(by nomatch this)
  refine N8 (eg (!·) z) ⟨b9 (bg l1 (by decide)),j9 (bM (T:=(L.nt tr A).told++[(w.1,(tr w.1,(L.ids.length:kg)))]) z ?_) ?_⟩
  ·haveI:=rT (p:=(tr w.1,(L.ids.length))) H;refine rR this ?_;rw [ng];rfl
  refine⟨H7 (bg l2 (by decide)),j9 (rW X9) ?_⟩;refine o8 (l (A:=A++[w.1]) (by rw [jg,Hf];show _+(1+W.length)<=_;rw [Mf 1];exact f) (by rw [Lg];exact n) (λw m=>hw w (.tail _ m)) ?_) ?_
  ·unfold D2 at c⊢;rw [Cf,Je (by refine rL (Ig i) (rL e1 ?_);rfl),List.append_cons] at c;exact c
  ·refine eg (λL=>UG P gs h g K E L) ?_;unfold Lw.nt;refine rL Ng ?_;rw [Lg,Lg];rfl
theorem hA(i:h.length=11)(c:FT gs)(f:gs.length<=1000)(z:L.zt=false)(n:(L.C9.map (·.1)).Nodup)(j:L.ids.length<=1000/\L.told.length+L.C9.length<=1000/\L.fresh.length+L.C9.length<=1000)(hw:∀w∈L.C9,∃a b,(a∈TT/\b∈TT)/\w.2=(xi a,xi b)/\EZ h gs a b=tr w.1){L':Lw}(e:L.nt tr (D2 tr L.told (L.C9.map (·.1)))=L')
  (d:k .next (UG P gs h g K E L')):lp ((A9 P 3 gF).b (.st,[.lwat])) (U5 true [3]) (IC.keep [0,1,2]) k (L.C9.map λw=>iv w.1) (UG P gs h g K E L):=by
 haveI q:=Jv i c f z n j (Bg (Tf _)) n (λw m=>⟨m,hw w m⟩) (by rw [Õ,e];exact d);rw [NG] at q;exact q
end
section
variable{P:y8}{n N k:yg}{g g':q9}{K:R8}{E E':G9}{L L':Lw}{gs:dg (wg×u9)}{h:dg kg}{a b t v x y z w:kg}{T acc:dg (kg×(kg×kg))}{tr:kg->kg}{vs:dg AV}
theorem HN{u:Mo}{τ:Tg}{o o':d9}{c:dg (yg×AV)}{t:dg (yg×d9)}{b b2:Tg->gg d9}{K:Mo->IC->(IC->(IC->Prop)->Prop)->Prop}(e:(L4 t b) τ=some o)(z:Fz o o')(q:τ.ti=none)(r:up b τ o'=b2)(k:K (u.1,τ::u.2) ⟨c,t,b2⟩ λd k=>d.σ τ=some o'/\put d τ o k):V5 u ⟨c,t,b⟩ K:=hX e z q (r.symm▸k)
theorem SU{τ:Tg}{o o':d9}{c:dg (yg×AV)}{t:dg (yg×d9)}{b b2:Tg->gg d9}{k:IC->Prop}(q:τ.ti=none)(e:b τ=some o')(r:up b τ o=b2)(h:k ⟨c,t,b2⟩):(⟨c,t,b⟩:IC).σ τ=some o'/\put ⟨c,t,b⟩ τ o k:=⟨(W8 q).trans e,(SY q).mpr ⟨_,r,h⟩⟩
theorem Ak(F:p5 L gs)(hF:KW gs)(zt:L.zt=false)(zw:L.zw=false)(nw:(L.C9.map (·.1)).Nodup)(hb:L.ids.length<=1000/\L.told.length+L.C9.length<=1000/\L.fresh.length+L.C9.length<=1000):
  ∃h,Hm (g8 gs) h/\∀tr:kg->kg,(∀w∈L.C9,∃a b,(a∈TT/\b∈TT)/\w.2=(xi a,xi b)/\EZ h gs a b=tr w.1)->i7 P 4 .st 81 [.g9 .state] (hl P g K E L) (.a9 .none) (hl P g K E (L.nt tr (D2 tr L.told (L.C9.map (·.1))))):=by
 refine(ew (P:=P) (wX hF.ft) F.2).imp λh r=>⟨r.1,λtr hw=> ?_⟩;refine enter Tj rt rt (q8 F.az rt rt (q8 (r.2 _) rt rt ?_));refine HN (τ:= .lwat) (eg (λb:wg=>some (d9.M9 (!b) (u2 L.C9))) zw) bY rfl (ZN (c:=true) rfl) ?_;show lp _ _ _ _ ((u2 L.C9).map λp=> .a9 (.int p.1)) _;rw [show((u2 L.C9).map λp=>AV.a9 (.int p.1))=L.C9.map λw=>iv w.1 from Vg ..];generalize e:L.nt tr (D2 tr L.told (L.C9.map (·.1)))=L2;have w2:L2.C9=L.C9/\L2.zw=false:=e▸⟨rfl,zw⟩;have e2:(Lw.nt {L with zw:=true} tr (D2 tr L.told (L.C9.map (·.1))))={L2 with zw:=true}:=by rw [<-e];rfl
 refine o8 (hA (L:={L with zw:=true}) r.1.I.len hF.ft F.2 zt nw hb hw e2 ?_) rfl;refine SU rfl (by rw [<-w2.1];rfl) ?_ E9;rw [<-w2.1];refine(ZN rfl).trans (eg (hl P g K E) ?_);cases L2;cases w2.2;rfl
theorem JQ{K c:Type}[ef K]{f:K->gg c}{k:K}{u:c}(h:f k=some u):f9 f k u=f:=funext λz=>by
 by_cases e:z=k
 ·exact rL e (rL i9 (rL h rfl))
 ·exact rL (e9 e) rfl
theorem K8{c d:Type}[ef c]{f:c->gg d}{k j:c}{v w:d}(h:f9 f k v j=some w):(j=k/\w=v)\/f j=some w:=by
 by_cases e:j=k
 ·rw [e,i9] at h;exact .inl ⟨e,(ig h).symm⟩
 ·rw [e9 e] at h;exact .inr h
noncomputable def Qw:dg (Str×Tg):=[(S "fresh",.fresh),(S "told",.ltold),(S "watched",.lwat),(S "levels",.levels)]
noncomputable def JH(s:Str)(τ:Tg):wg:=Qw.all λp=> !decide (p.2=τ)||decide (p.1=s)
theorem RL{s:Str}{τ:Tg}(h:JH s τ=true):∀p∈Qw,p.2=τ->p.1=s:=λp m e=>by
 haveI q:=List.all_eq_true.mp h p m;haveI q:=Dg e▸q;exact qg q
theorem QP{s:Str}{τ:Tg}{T:dg kg}(h:JH s τ=true):∀j v,j≠s->ID T j=some v->v.keeps (·≠τ):=λj v n e=>by
 have g:∀p∈Qw,j=p.1/\v= .g9 _->v.keeps (·≠τ):=λp m q=>q.2▸λz=>n (q.1.trans ((RL h) p m z));exact(K8 e).elim (g _ (.head _)) λe=>(K8 e).elim (g _ (.tail _ (.head _))) λe=>(K8 e).elim (g _ (.tail _ (.tail _ (.head _)))) λe=>(K8 e).elim (g _ (.tail _ (.tail _ (.tail _ (.head _))))) λe=>(K8 e).elim (λq=>q.2▸trivial) λe=>(by nomatch e)
theorem lJ{s:Str}{τ:Tg}(h:ID L.terms s=some (.g9 τ)):up (hl P g K E L) .state (.w8 (f9 (ID L.terms) s (.g9 τ)))=hl P g K E L:=rL (JQ h) (B9 (λτ h=>rfl) rfl)
theorem yS{y:yg}{ρ:dg (yg×AV)}{s:Str}{τ:Tg}{o:d9}{F:IC->Prop}{u:Mo}(h:ρ.lookup y=some (.g9 .state))(ht:L'.terms=L.terms)(hs:ID L.terms s=some (.g9 τ))(e:up (hl P g K E L) τ o=hl P g K E L')(hk:JH s τ=true)(hn:(nu u τ&&(ρ.all (λp=>nt τ p.2)&&(hb .state τ&&(!Q6 o&&(!d5 τ&&decide (s∈SK))))))=true)(ho:C6 τ o)(q:F ⟨ρ,[],hl P g K E L'⟩):
  Pw ⟨ρ,[],hl P g K E L⟩ u y s τ o F:=
 k9 h (N8 hn ⟨ho,QP hk,j9 ((eg (λb=>up b .state _) e).trans (ht▸lJ (ht▸hs))) q⟩)
theorem XV{ids:dg yg}{vs:dg AV}(e:vs=ids.map λi=> .g9 (.lvl i)):up (hl P g K E L) .levels (.list true vs)=hl P g K E {L with ids:=ids}:=by
 refine e▸B9 (λτ h=> ?_) rfl;cases τ with
 |levels=>exact(h rfl).elim
 |ls k t=>cases k<;>rfl
 |C7 k=>cases k<;>rfl
 |_=>rfl
theorem NE:∀{acc T:dg (kg×(kg×kg))},((acc++T).map (·.1)).Nodup->(T.map λp=>(p.1,xY p.2)).foldl (λl p=>X6 l p.1 (.a9 p.2)) (u2 acc)=u2 (acc++T):=by
 intro acc T;induction T generalizing acc with
 |nil=>exactλz'=>eg _ (Fg acc).symm
 |cons p T i=>
  intro n;show(T.map _).foldl _ (X6 _ p.1 _)=_;refine rL (rT λq m=>by
   rw [Ng] at n;exact(List.nodup_append.mp n).2.2 p.1 (List.mem_map.mpr ⟨_,m,rfl⟩) _ (.head _) rfl) ?_
  refine(i (by rw [Lg];exact n)).trans (eg _ (Lg _ [p] T))
theorem ME(n:(T.map (·.1)).Nodup):pJ (T.map λp=>(p.1,xY p.2))=u2 T:=NE (acc:=[]) n
noncomputable def N5(N:yg)(T:dg (kg×(kg×kg))):dg (kg×(kg×kg)):=T.filter λp=>decide (p.2.2<=N)
noncomputable def Lw.back(L:Lw)(N:yg):Lw:={L with ids:=af N,told:=N5 N L.told,fresh:=L.fresh.filter λt=>decide (t∈(N5 N L.told).map (·.1))}
theorem dp(Z:L.ids=af N)(X:N<=1000)(x:k+1<N)(z:L.zt=false)(n:(L.told.map (·.1)).Nodup)(R:L.told.length<=1000/\L.fresh.length<=1000)(F:i7 P 7 .s2 38 [.g9 .house,iv (k+1:yg)] (hl P g K E L) (.a9 .none) (hl P g' K E' L)):
  i7 P 8 .s2 82 [.g9 .state,.g9 .house,iv (k+1:yg)] (hl P g K E L) (.a9 .none) (hl P g' K E' (L.back (N-(k+1)))):=by
 have D:∀{o} {f:yg->o},(L.ids.map f).length=N:=by rw [Z];exactλ{o f}=>(ng _).trans Bf
 have h:∀{o:Type} {f:yg->o},(L.ids.map f).length<=1000000:=λ{o f}=>D▸bg X (by decide);refine enter Sj rt rt (Y8 F rt ?_);refine⟨h,?_⟩;refine rL D (k9 (rL (((Int.ofNat_sub (Uf x)).symm)) K7) ⟨h,?_⟩);have S:(L.ids.map λi=>AV.g9 (.lvl i)).take (N-(k+1))=(af (N-(k+1))).map λi=> .g9 (.lvl i):=by
  refine rL Z (rR Jb ?_);rw [List.take_range,Nat.min_eq_left (Pc _ _)]
 refine yS (L':={L with ids:=af _}) rfl rfl rfl (XV S) rfl rfl (λv m=>by rw [S] at m;exact(List.mem_map.mp m).elim λi q=>q.2▸rfl) (HN (τ:= .ltold) (eg (λb:wg=>some (d9.M9 (!b) (u2 L.told))) z) bY rfl (iY (c:=true) rfl) ?_);refine⟨b9 (b9 (bg R.1 (by decide))),?_⟩;refine rL (Vg ..) ?_;haveI a:∀{o:Type} {f:yg->o},((af _).map f).length=N-(k+1):=(ng _).trans Bf;haveI Q:∀{o:Type} {f:yg->o},((af _).map f).length<=1000000:=λ{o f}=>by refine rL a ?_;exact bg (Pc _ _) (bg X (by decide))
 refine j5 (λp:kg×(kg×kg)=>decide (p.2.2<=((N-(k+1):yg)))) _ (λp m K q=> ?_) (λp m z' K q=>q) λC=>L5 ?_
 ·refine k9 (yV n m) ⟨Q,?_⟩;refine rL a ?_;exact q
 refine SU rfl rfl (b2:=hl P g' K E' {L with ids:=af (N-(k+1))}) ((iY rfl).trans (eg _ (by cases L;subst z;rfl))) ?_;haveI kd:((N5 (N-(k+1)) L.told).map (·.1)).Nodup:=n.sublist (ba _ Ca);refine rL (show(L.told.filter λp:kg×(kg×kg)=>decide (p.2.2<=((N-(k+1):yg)))).map _=zs ((N5 _ L.told).map (·.1)) from(Vg ..).symm) (⟨H7 (b9 (bg (bg (Df ..) R.1) (by decide))),?_⟩);refine rL d6 (rL Vg ?_);refine j5 _ (λp=> .tuple [.int p.1,xY p.2]) (λp m K q=>q) (λp m z' K q=> ?_) λC=>⟨(N5 (N-(k+1)) L.told).map λp=>(p.1,xY p.2),?_,?_⟩
 ·exact k9 (yV n (List.mem_filter.mp m).1) q
 ·refine rL (List.filter_eq_self.mpr λz' z'=>rfl) (rL Vg (rL Vg ?_));rfl
 refine rL (ME kd) (yS (L':={L with ids:=af _,told:=N5 _ L.told}) rfl rfl rfl (bM z rfl) rfl rfl (λy m=>(List.mem_map.mp m).elim λz' e=>e.2▸trivial) (hX (τ:= .fresh) rfl K5 rfl ?_));refine⟨I8,H7 (bg R.2 (by decide)),?_⟩;refine rL d6 (j5 _ _ (λt m K q=>N8 ((Sg _ _).mpr ⟨P6,rfl⟩) (u4▸q)) (λt m z' K q=>q) λC=>(GZ rfl (eg (λl=>some _) d6) ?_));refine yS (L':=L.back _) rfl rfl rfl (rW rfl) rfl rfl I8 E9
variable{A:dg kg}{L1 L2:dg (dg kg)}
theorem SI{α:Type}{h:α->AV}{T:IC->KT->Prop}{Ee:IC->KE->Prop}{ρ:dg (yg×AV)}{one:wg}{is:dg yg}{tt:dg (yg×d9)}{b:Tg->gg d9}{l:dg α}
  (ht:∀x∈l,∀K:KT,(∀ρ',K false ⟨ρ',tt,b⟩)->U5 one is (h x) ⟨ρ,tt,b⟩ λc0=>T c0 K):∀{ρ0:dg (yg×AV)} {K:KL},(∀ρ',K [] ⟨ρ',tt,b⟩)->rJ T Ee ρ one is (l.map h) ⟨ρ0,tt,b⟩ K:=by
 induction l with
 |nil=>exactλk=>k _
 |cons x l ih=>exactλ{ρ0 K} k=>ht x (.head _) _ λρ'=>ih (λx m=>ht x (.tail _ m)) k
theorem VU(p:L1.Perm L2)(h:bH L2):I0 L1=I0 L2:=bV ((Xc _ _).trans p) h (RP _)
theorem bH.perm(p:L1.Perm L2)(h:bH L2):bH L1:=⟨λl m=>h.1 l (p.mem_iff.mp m),(p.map _).nodup_iff.mpr h.2⟩
theorem aW:lay (.list (iP L1))=true:=yI λd m=>(List.mem_map.mp m).elim λl e=>e.2▸by
 haveI h:Ze (zs l)=true/\Qc (zs l)<=0:=by
  clear e m;induction l with
  |nil=>exact⟨rfl,Ag _⟩
  |cons x l i=>exact⟨(Sg _ _).mpr ⟨rfl,i.1⟩,Nat.max_le.mpr ⟨Ag _,i.2⟩⟩
 exact⟨h.1,Hg h.2⟩
noncomputable def uG(f:kg->kg)(l:dg kg):dg (dg kg):=l.map λt=>[t,f t]
theorem tG{f:kg->kg}{l:dg kg}(n:l.Nodup):bH (uG f l):=⟨λx m=>(List.mem_map.mp m).elim λt e=>e.2▸List.cons_ne_nil _ _,by
 refine rL Vg (rL (show((λx=>x.headD 0)∘λt=>[t,f t])=id from rfl) ?_);rw [Î];exact n⟩
structure dQ(E:G9)(L:Lw):Prop where
 zt:L.zt=false
 zw:L.zw=false
 nw:(L.C9.map (·.1)).Nodup
 w1:∀w∈L.C9,w.1∈UW/\∃a b,(a∈TT/\b∈TT)/\w.2=(xi a,xi b)/\E.P9 w.1=some (a,b)
 w2:∀t a b,E.P9 t=some (a,b)->(t,(xi a,xi b))∈L.C9
 nt:(L.told.map (·.1)).Nodup
 td:∀p∈L.told,p.1∈UW/\∃o,E.d8 p.1=some o/\tv o=p.2.1
 nf:L.fresh.Nodup
 fr:∀t∈L.fresh,tk L.told t=true
 nn:E.news.Nodup
 ns:∀t,t∈E.news↔t∈L.fresh\/((∃o,E.d8 t=some o)/\tk L.told t=false)
def Aw(E:G9)(L:Lw):Prop:=∀t o,E.d8 t=some o->tk L.told t=true
noncomputable def DZ(E:G9)(t:kg):kg:=tz (E.d8 t)
theorem dQ.lk(A:dQ E L)(m:tk L.told t=true):t∈UW/\(∃o,E.d8 t=some o)/\∃x,lk (u2 L.told) t=some (.a9 (xY (DZ E t,x))):=(X7.mp m).elim λp m=>by
 haveI q:=A.td _ m;refine⟨q.1,q.2.imp λo w=>w.1,p.2,q.2.elim λo w=> ?_⟩;refine rL (yV A.nt m) ?_;unfold DZ;exact w.1▸eg (λv=>some (AV.a9 (xY (v,p.2)))) w.2.symm
theorem dQ.len(A:dQ E L):L.C9.length<=12/\L.told.length<=12/\L.fresh.length<=12:=by
 haveI k:∀{T:dg (kg×(kg×kg))},(T.map (·.1)).Nodup->(∀p∈T,p.1∈UW)->T.length<=12:=λ{T} n h=>bg (Bg (ng _).symm) (V8 n λx m=>(List.mem_map.mp m).elim λp e=>e.2▸h p e.1);exact⟨k A.nw λw m=>(A.w1 w m).1,k A.nt λw m=>(A.td w m).1,V8 A.nf λt m=>(A.lk (A.fr t m)).1⟩
theorem dQ.dw(A:dQ E L)(e1:L'.C9=L.C9)(e2:L'.told=L.told)(F:p5 L' gs)(hF:KW gs)(G:Good (g8 gs) (U8 gs) E)(hB:BK K)(m:tk L.told t=true):i7 P 5 .all 80 [.g9 .state,.g9 .house,iv t] (hl P g K E L') (.a9 (.bool true)) (hl P g K E L'):=by
 have q:=A.lk m;refine q.2.1.elim λo ho=>G.li.elim λes I=>(I.tk _ _ ho).elim λa s=>s.elim λb s=>q.2.2.elim λx d=> ?_;have ms:=A.w2 t a b s.1;refine(A.w1 _ ms).2.elim λa' r=>r.elim λb' r=> ?_;have e:=Zf (ig (r.2.2.symm.trans s.1));refine(G.JP s.1 ho).elim λl M=> ?_;have y:=tH hF M.2;refine Mine.Internal.dw hB F hF (e1▸yV A.nw ms) (e2▸d) (e.1▸r.1.1) (e.2▸r.1.2) M.1 y.1 λh H=> ?_;unfold DZ;rw [ho];exact H.BY hF.E8.ft G.cons.E8 (e.1▸r.1.1) (e.2▸r.1.2) y.2
theorem dJ{L L':Lw}(e:L'.lv=L.lv){l:dg yg}:L'.facts l=L.facts l:=by
 induction l with
 |nil=>rfl
 |cons i l d=>exact(eg (λf=>(f i).getD []++L'.facts l) e).trans (eg _ d)
theorem p5.c(F:p5 L gs)(e:L'.lv=L.lv)(i:L'.ids=L.ids):p5 L' gs:=⟨⟨by unfold Lw.ok;refine rL e (rL i ?_);exact F.1.1,by refine rL i (rL (dJ e) ?_);exact F.1.2⟩,F.2⟩
theorem dQ.ask(A:dQ E L)(f:Aw E L):dQ {E with news:=[]} {L with fresh:=[]}:={zt:=A.zt,zw:=A.zw,nw:=A.nw,w1:=A.w1,w2:=A.w2,nt:=A.nt,td:=A.td,nf:=uf,fr:=λz' m=>((by nomatch m)),nn:=uf,ns:=λt=>⟨λm=>((by nomatch m)),λq=>q.elim (λm=>(by nomatch m)) λq=>q.1.elim λo w=>nomatch (f t o w).symm.trans q.2⟩}
theorem Good.ask{fs p:dg u9}(G:Good fs p E):Good fs p {E with news:=[]}:=⟨G.li,G.nt,G.ct,G.cl,G.qu,uf,λz' m=>(by nomatch m)⟩
theorem YP{y:yg}{s:Str}{τ:Tg}{kk:M}{u:Mo}{c:IC}{K:KB}(q:Pw c u y s τ (.list true []) λd=>(A9 P n kk).b u d K):(A9 P n (.eZ y s τ (.lst .nil) kk)).b u c K:=q
noncomputable def Uv:M:= .eZ 0 (S "fresh") .fresh (jP jN) (Yr (jE .eq (jZ J3 [3,4] false J2 (.not (.val (jF 80 (Y3 J0 J1 J3)))) [0,1]) (jP jN)))
theorem cp(A:dQ E L)(f:Aw E L)(F:p5 L gs)(X:KW gs)(G:Good (g8 gs) (U8 gs) E)(hB:BK K):i7 P 6 .st 83 [.g9 .state,.g9 .house] (hl P g K E L) (.a9 (.bool true)) (hl P g K {E with news:=[]} {L with fresh:=[]}):=by
 haveI R:∀{k},k<=12->k<=1000000:=λh=>bg h (by decide);haveI Q:=A.len;refine enter Rj rt rt (hX (τ:= .fresh) rfl K5 rfl ?_);refine⟨I8,H7 (R Q.2.2),?_⟩;refine rL d6 (j5 _ (λt=> .tuple [.int t,.int (DZ E t)]) (λt m K q=>q) (λt m z' K q=>(A.lk (A.fr t m)).2.2.elim λx d=>k9 d q) λZ=>L5 (GZ rfl (eg (λl=>some _) d6) ?_));haveI e1:(L.fresh.filter λz'=>true).map _=iP (uG (DZ E) L.fresh):=by
  unfold iP uG;refine rL (List.filter_eq_self.mpr λz' z'=>rfl) (rL Vg ?_);rfl
 haveI hd:=tG (f:=DZ E) A.nf;refine⟨uG _ _,e1,Qg (b9 Q.2.2) (by decide),hd,?_⟩;have nm:=λt=>(A.ns t).trans (Ma λq=>q.1.elim λo w=>nomatch (f t o w).symm.trans q.2);have O:=(î A.nn A.nf).mpr nm;have j:∀t∈E.news,E.d8 t=some ((E.d8 t).getD none)/\j7 t=true:=λt m=>haveI q:=A.lk (A.fr t ((nm t).mp m));⟨q.2.1.elim λo w=>by refine rL w ?_;rfl,gK t q.1⟩;haveI U:=O.length_eq▸Q.2.2;refine q8 (Bu j A.nn (R U) P {g with r:=rU L} K hB λz' z' z=>(by nomatch z)) rt rt ?_;haveI V:E.news.map (EI λt=>(E.d8 t).getD _)=iP (uG (DZ E) _):=by
  unfold iP uG;refine rL Vg (wd λt m=> ?_);show PyData.tuple [.int t,.int _]= .tuple [.int t,.int (tz _)];refine rL ((j t m).1) ?_;rfl
 haveI Y:=VU (O.map _) hd;refine⟨uG _ _,V,Qg (b9 U) (by decide),hd.perm (O.map _),?_⟩;refine rL Y (N8 ((Sg _ _).mpr ⟨aW,aW⟩) (v9 (eg _ (h5 aW)) ?_));refine(show∃d,d=PyData.list []/\i7 P 1 .st 35 [.g9 .house] _ _ (hl P g K {E with news:=[]} L) from⟨_,rfl,Bu (E:={E with news:=[]}) (f:=λz'=>none) (λz' m=>(by nomatch m)) uf (Xg _) P {g with r:=rU L} K hB λz' z' z=>(by nomatch z)⟩).elim λd C=>(q8 C.2 rt rt (N8 (rL C.1 rfl) (v9 (rL C.1 (eg _ (h5 rfl))) ?_)));suffices q:(A9 P 5 Uv).b (.st,[]) ⟨[(0,.g9 .state),(1,.g9 .house),(2,.a9 _)],[],hl P g K {E with news:=[]} L⟩ _ from q;refine YP (yS (L':={L with fresh:=[]}) rfl rfl rfl (rW rfl) rfl rfl E6 ?_);haveI J:∀l∈I0 _,∃t,tk _ t=true/\l=[t,DZ E t]:=λl m=>(List.mem_map.mp ((Xc _ _).mem_iff.mp m)).elim λt q=>⟨t,A.fr t q.1,q.2.symm⟩;refine⟨b9 (b9 (bg (Bg (List.length_mergeSort _)) (b9 (R Q.2.2)))),?_⟩;refine rL Vg ?_;exact SI (λl m K q=>(J l m).elim λt w=>(w.2▸q8 ((A.ask f).dw rfl rfl (F.c rfl rfl) X G.ask hB w.1) rt rt (q _))) λZ=>(w3 (eg (λb=>AV.a9 _) (h5 rfl)))
variable{S:G9}{top:dg (wg×u9)}{lv:dg (dg (wg×u9))}{m:kg}{T':dg (kg×(kg×kg))}{ms:dg kg}{fs ps:dg u9}{es Q:dg N9}{f:u9}{c:wg}
noncomputable def P4(lv:dg (dg (wg×u9))):dg (wg×u9):=lv.reverse.flatten
theorem v6:P4 (top::lv)=P4 lv++top:=by unfold P4;refine rL Nd (rL List.flatten_append ?_);exact eg _ (Fg _)
theorem T2{f:wg×u9}:P4 ((top++[f])::lv)=P4 (top::lv)++[f]:=by rw [v6,v6,Lg]
theorem OY:g8 (gs++[(c,f)])=ô c (g8 gs) (g8 gs++[f]):=by
 unfold g8;rw [List.filter_append,Ng];cases c
 ·rfl
 ·exact Fg _
theorem TY:U8 (gs++[(c,f)])=ô c (U8 gs++[f]) (U8 gs):=by
 unfold U8;rw [List.filter_append,Ng];cases c
 ·exact Fg _
 ·rfl
abbrev z3(gs:dg (wg×u9))(E:G9):Prop:=Good (g8 gs) (U8 gs) E
def Jx(T:dg (kg×(kg×kg)))(n:yg)(S:G9):Prop:=(∀p∈T,p.2.2<=(n:kg)->∃o,S.d8 p.1=some o/\tv o=p.2.1)/\∀t o,S.d8 t=some o->∃p∈T,p.1=t/\p.2.2<=(n:kg)
theorem Jx.eq(h:Jx T n S)(e:∀p,p.2.2<=(n:kg)->(p∈T↔p∈T')):Jx T' n S:=⟨λp m q=>h.1 p ((e p q).mpr m) q,λt o q=>(h.2 t o q).imp λp w=>⟨(e p w.2.2).mp w.1,w.2⟩⟩
noncomputable def Z4(T:dg (kg×(kg×kg))):dg (dg (wg×u9))->dg kg->G9->Prop
 |[],_,_=>False
 |_::lv,ms,E=>(lv=[]/\ms=[])\/∃S ms',ms=ms'++[(S.trail.length:kg)]/\z3 (P4 lv) S/\t5 S E/\Jx T lv.length S/\Z4 T lv ms' S
theorem Z4.ext(h:Z4 T lv ms E)(s:t5 E E'):Z4 T lv ms E':=by
 cases lv with
 |nil=>exact h
 |cons f _=>exact h.imp id λh=>h.imp λS h=>h.imp λm h=>⟨h.1,h.2.1,h.2.2.1.trans s,h.2.2.2⟩
theorem Z4.tp{t:dg (wg×u9)}(h:Z4 T (top::lv) ms E):Z4 T (t::lv) ms E:=h
theorem Z4.eq:∀{lv d E},Z4 T lv d E->(∀p,p.2.2<(lv.length:kg)->(p∈T↔p∈T'))->Z4 T' lv d E:=by
 intro lv;induction lv with
 |nil=>exactλh z'=>h
 |cons f _ i=>exactλ{d E} h e=>h.imp id λh=>h.imp λS h=>h.imp λm h=>⟨h.1,h.2.1,h.2.2.1,h.2.2.2.1.eq λp q=>e p (Ģ q),i h.2.2.2.2 λp q=>e p (Int.lt_trans q (Int.lt_succ _))⟩
theorem Z4.drop:∀{lv l E n},Z4 T lv l E->n+1<lv.length->∃S j d,l=j++(S.trail.length:kg)::d/\d.length=n/\z3 (P4 (lv.drop (n+1))) S/\t5 S E/\Jx T (lv.drop (n+1)).length S/\Z4 T (lv.drop (n+1)) j S:=by
 intro lv;induction lv with
 |nil=>exactλh=>h.elim
 |cons f _ i=>
  intro l E n h q;refine h.elim (λh=>by haveI q:=h.1▸q;exact(Wc _ (ze q)).elim) λh=>M8 h λS m h=> ?_;cases n with
  |zero=>exact⟨S,m,[],h.1,rfl,h.2⟩
  |succ n=>exact(i h.2.2.2.2 (ze q)).imp λe q=>q.imp λj q=>q.elim λd q=>⟨d++[(S.trail.length:kg)],by rw [h.1,q.1,Lg];rfl,List.length_append.trans (eg _ q.2.1),q.2.2.1,q.2.2.2.1.trans h.2.2.1,q.2.2.2.2⟩
theorem Z4.len:∀{lv d E},Z4 T lv d E->d.length+1=lv.length:=by
 intro lv;induction lv with
 |nil=>exactλh=>h.elim
 |cons f _ i=>exactλ{d E} h=>h.elim (λh=>by refine rL h.1 (rL h.2 ?_);rfl) λh=>M8 h λS m h=>by refine rL h.1 (rL jg ?_);exact eg _ (i h.2.2.2.2)
structure Bas(lv:dg (dg (wg×u9)))(E:G9)(L:Lw):Prop where
 S0:KW (P4 lv)
 D7:dQ E L
 tl:∀p∈L.told,p.2.2<=(lv.length:kg)
 I5:Z4 L.told lv E.marks E
structure S9(lv:dg (dg (wg×u9)))(E:G9)(L:Lw):Prop extends Bas lv E L where
 DT:Aw E L
 good:z3 (P4 lv) E
theorem Bas.ZG(I:Bas lv E L)(hl:lv.length<=1000):E.marks.length<=1000:=bg (Gf _) (bg (Bg I.I5.len) hl)
theorem Good.vX(G:Good fs ps E):E.trail.length<=132:=G.li.elim λz' L=>L.vX
theorem BC(h:∀p∈T,p.1≠t):tk T t=false:=(Ff _).resolve_left λe=>(X7.mp e).elim λp m=>h _ m rfl
theorem dQ.wp(A:dQ E L)(w:Nw E E')(nn:E'.news.Nodup)(s1:∀w∈L.C9,E'.P9 w.1=E.P9 w.1)(s2:∀t a b,E'.P9 t=some (a,b)->E.P9 t=some (a,b)):dQ E' L where
 zt:=A.zt
 zw:=A.zw
 nw:=A.nw
 w1:=λw m=>⟨(A.w1 w m).1,(A.w1 w m).2.imp λa q=>q.imp λb q=>⟨q.1,q.2.1,(s1 w m).trans q.2.2⟩⟩
 w2:=λt a b q=>A.w2 t a b (s2 t a b q)
 nt:=A.nt
 td:=λp m=>⟨(A.td p m).1,(A.td p m).2.imp λo q=>⟨w.up _ _ q.1,q.2⟩⟩
 nf:=A.nf
 fr:=A.fr
 nn:=nn
 ns:=λt=>w.nw.elim λnew q=>by
  rw [q.1];refine List.mem_append.trans ⟨λh=>h.elim (λh=>((A.ns t).mp h).imp id λh=>⟨h.1.imp λo=>w.up t o,h.2⟩) λh=> .inr ⟨((q.2.2 t).mp h).2,BC λp m e=> ?_⟩,λh=>h.elim (λh=> .inl ((A.ns t).mpr (.inl h))) λh=> ?_⟩
  ·exact(A.td p m).2.elim λo r=>nomatch (e▸r.1).symm.trans ((q.2.2 t).mp h).1
  ·cases r:E.d8 t with
   |none=>exact .inr ((q.2.2 t).mpr ⟨r,h.1⟩)
   |some o=>exact .inl ((A.ns t).mpr (.inr ⟨⟨o,r⟩,h.2⟩))
theorem S9.push(I:S9 lv E L){i:dg yg}{f:yg->gg (dg vg)}:S9 ([]::lv) {E with marks:=E.marks++[(E.trail.length:kg)]} {L with ids:=i,lv:=f}:=by
 have e:P4 ([]::lv)=P4 lv:=v6.trans (Fg _);have G:=I.good;refine{S0:=e.symm▸I.S0,D7:={zt:=I.D7.zt,zw:=I.D7.zw,nw:=I.D7.nw,w1:=I.D7.w1,w2:=I.D7.w2,nt:=I.D7.nt,td:=I.D7.td,nf:=I.D7.nf,fr:=I.D7.fr,nn:=I.D7.nn,ns:=I.D7.ns},tl:=λp m=>Hc (I.tl p m) (Gd (Int.lt_succ _)),I5:= ?_,DT:=I.DT,good:=e.symm▸⟨G.li,G.nt,G.ct,G.cl,G.qu,G.nw⟩};refine .inr ⟨E,E.marks,rfl,I.good,t5.refl.to rfl rfl,⟨λp m z'=>(I.D7.td p m).2,λt o q=>(X7.mp (I.DT t o q)).elim λp m=>⟨_,m,rfl,I.tl _ m⟩⟩,I.I5⟩
theorem HY{p:kg×(kg×kg)}:p∈N5 N T↔p∈T/\p.2.2<=N:=List.mem_filter.trans (ud Ef ae)
theorem Bas.pop(I:Bas lv E L)(hm:lv.length<=1000)(li:LI fs ps E.toCor E.trail.length es Q)(nw:NW E)(hc:E.clash=none\/E.u0=E.marks.length)(hk:k+1<lv.length):
  ∃E',(∀(P:y8) (g:q9) (K:R8),BK K->(∀κ t,false=false->g.z κ t=false)->∃g',g'.r=g.r/\g'.z=g.z/\i7 P 7 .s2 38 [.g9 .house,iv (k+1:yg)] (hp P g K E) (.a9 .none) (hp P g' K E'))/\Bas (lv.drop (k+1)) E' (L.back (lv.length-(k+1)))/\z3 (P4 (lv.drop (k+1))) E':=by
 refine(I.I5.drop hk).elim λS q=>q.elim λmk0 q=>q.elim λmk1 q=> ?_;have hl:=I.I5.len;refine(wG q.2.2.1 q.2.2.1.cons q.2.2.2.1 (by rw [q.2.1];rfl) q.1 (bg (Gf _) (bg (Bg hl) hm)) li nw (hc.imp id λh=>by rw [h,q.1,jg];exact Int.ofNat_lt.mpr (se (ye _)))).imp λE' r=>⟨r.1,?_,r.2.1⟩;have A:=I.D7;have dl:(lv.drop (k+1)).length=lv.length-(k+1):=Mc ..;have sn:=q.2.2.2.2.1;rw [dl] at sn;have r5:=r.2.2.2.2;refine r5.2.elim λE0 z=> ?_;have up:∀t o,S.d8 t=some o->E'.d8 t=some o:=λt o h=>z.2.2.up t o (z.1▸h);have kd:((N5 (lv.length-(k+1)) L.told).map (·.1)).Nodup:=A.nt.sublist (ba _ Ca);have tk1:∀t,tk (N5 (lv.length-(k+1)) L.told) t=true↔∃o,S.d8 t=some o:=λt=>X7.trans ⟨λh=>h.elim λp m=>(sn.1 _ (HY.mp m).1 (HY.mp m).2).imp λo w=>w.1,λh=>h.elim λo w=>(sn.2 t o w).elim λp w=>⟨p.2,HY.mpr ⟨by rw [<-w.2.1];exact w.1,w.2.2⟩⟩⟩;have mk:∀t,t∈(N5 (lv.length-(k+1)) L.told).map (·.1)↔tk (N5 (lv.length-(k+1)) L.told) t=true:=λt=>List.mem_map.trans (ć ⟨λh=>h.elim λp w=>⟨p.2,by rw [<-w.2];exact w.1⟩,λh=>h.elim λp w=>⟨_,w,rfl⟩⟩ X7.symm);have fm:∀t,t∈(L.back (lv.length-(k+1))).fresh↔t∈L.fresh/\∃o,S.d8 t=some o:=λt=>List.mem_filter.trans (ud Ef (decide_eq_true_iff.trans ((mk t).trans (tk1 t))));refine{S0:=λf m=>I.S0 f ?_,D7:={zt:=A.zt,zw:=A.zw,nw:=A.nw,w1:=λw m=>⟨(A.w1 w m).1,(A.w1 w m).2.imp λa q=>q.imp λb q=>⟨q.1,q.2.1,by rw [r5.1];exact q.2.2⟩⟩,w2:=λt a b q=>A.w2 t a b (by rw [<-r5.1];exact q),nt:=kd,td:=λp m=>⟨(A.td p (HY.mp m).1).1,(sn.1 p (HY.mp m).1 (HY.mp m).2).imp λo w=>⟨up _ _ w.1,w.2⟩⟩,nf:=A.nf.filter _,fr:=λt m=>(tk1 t).mpr ((fm t).mp m).2,nn:=r.2.1.nw.1,ns:=λt=> ?_},tl:=λp m=>by rw [dl];exact(HY.mp m).2,I5:= ?_}
 ·have m:=List.mem_flatten.mp m;exact m.elim λl m=>List.mem_flatten.mpr ⟨l,List.mem_reverse.mpr (List.mem_of_mem_drop (List.mem_reverse.mp m.1)),m.2⟩
 ·refine z.2.2.nw.elim λnew w=> ?_;rw [w.1,z.2.1];have t0:∀{t},tk (N5 (lv.length-(k+1)) L.told) t=false↔S.d8 t=none:=λ{t}=>⟨λh=>(Option.eq_none_or_eq_some (S.d8 t)).elim id λe=>by rw [(tk1 t).mpr e] at h;exact((by nomatch h)),λh=>(Ff _).resolve_left λe=>((tk1 t).mp e).elim λo w=>((by nomatch h.symm.trans w))⟩;refine List.mem_append.trans ⟨λh=>h.elim (λh=> .inl ?_) λh=> .inr ⟨((w.2.2 t).mp h).2,t0.mpr (z.1▸((w.2.2 t).mp h).1)⟩,λh=>h.elim (λh=> .inl ?_) λh=> .inr ((w.2.2 t).mpr ⟨z.1▸t0.mp h.2,h.1⟩)⟩
  ·have h:=List.mem_filter.mp h;have s:=Option.isSome_iff_exists.mp h.2;refine(fm t).mpr ⟨((A.ns t).mp h.1).resolve_right λe=> ?_,s⟩;refine(X7.mp ((tk1 t).mpr s)).elim λp m=> ?_;have:=X7.mpr ⟨p,(HY.mp m).1⟩;rw [e.2] at this;exact(by nomatch this)
  ·have h:=(fm t).mp h;exact List.mem_filter.mpr ⟨(A.ns t).mpr (.inl h.1),Option.isSome_iff_exists.mpr h.2⟩
 ·rw [r.2.2.2.1];refine(q.2.2.2.2.2.ext r.2.2.1).eq λp h=> ?_;rw [dl] at h;exact⟨λm=>HY.mpr ⟨m,Gd h⟩,λm=>(HY.mp m).1⟩
def sL(lv:dg (dg (wg×u9)))(E:G9)(L:Lw):Prop:=Bas lv E L/\(∃fs ps es Q,LI fs ps E.toCor E.trail.length es Q)/\NW E/\(z3 (P4 lv) E\/∃l,E.clash=some l/\E.u0=E.marks.length/\B4 (g8 (P4 lv)) (U8 (P4 lv)) l)
theorem Bas.cg(I:Bas lv E L){c:dg kg}{s:yg}{i:dg yg}{f:yg->gg (dg vg)}:Bas lv E {L with cells:=c,spot:=s,ids:=i,lv:=f}:={S0:=I.S0,D7:={zt:=I.D7.zt,zw:=I.D7.zw,nw:=I.D7.nw,w1:=I.D7.w1,w2:=I.D7.w2,nt:=I.D7.nt,td:=I.D7.td,nf:=I.D7.nf,fr:=I.D7.fr,nn:=I.D7.nn,ns:=I.D7.ns},tl:=I.tl,I5:=I.I5}
theorem sL.cg(I:sL lv E L){c:dg kg}{s:yg}{i:dg yg}{f:yg->gg (dg vg)}:sL lv E {L with cells:=c,spot:=s,ids:=i,lv:=f}:=⟨I.1.cg,I.2⟩
theorem S9.cg(I:S9 lv E L){c:dg kg}{s:yg}{i:dg yg}{f:yg->gg (dg vg)}:S9 lv E {L with cells:=c,spot:=s,ids:=i,lv:=f}:={toBas:=I.toBas.cg,DT:=I.DT,good:=I.good}
theorem S9.uv(I:S9 lv E L):sL lv E L:=⟨I.toBas,I.good.li.elim λes q=>⟨_,_,es,_,q⟩,I.good.nw,.inl I.good⟩
theorem S9.fact(I:S9 (top::lv) E L)(hl:(top::lv).length<=1000)(ha:a∈TT)(hb:b∈TT)(hm:m∈[(-7:kg),-5,-3,2,4,6])(hp:(U8 (P4 (top::lv))).length<20):
  ∃E',Me 8 (ô c 26 14) .st [iv a,iv b,iv m] E (.a9 .none) E'/\sL ((top++[(c,(a,b,m))])::lv) E' L:=by
 have Eh:∀{E'},Dd (g8 (P4 ((top++[(c,(a,b,m))])::lv))) (U8 (P4 ((top++[(c,(a,b,m))])::lv))) E E'->sL ((top++[(c,(a,b,m))])::lv) E' L:=λ{E'} d=>by
  refine⟨{S0:=λf q=>(j8 (T2▸q)).elim (I.S0 f) λz=>z▸⟨⟨ha,hb⟩,hm⟩,D7:=I.D7.wp d.1.nw d.2.2.2.1.1 (λw z'=>by rw [d.2.1]) (λt a b q=>by rw [<-d.2.1];exact q),tl:=I.tl,I5:= ?_},?_,d.2.2.2.1,d.2.2.2.2.imp id λq=>q.imp λl q=>⟨q.1,by rw [d.1.I4];exact q.2.1,q.2.2⟩⟩
  ·rw [d.1.I4];exact(I.I5.ext d.1.l6).tp
  ·exact d.2.2.1.elim λps' q=>q.elim λes q=>q.elim λQ q=>⟨_,_,es,Q,q⟩
 have C:=I.good.cons;have M:=I.toBas.ZG hl;cases c with
 |false=>
  refine(NO I.good C ha hb M).imp λE' r=>⟨r.1,Eh ?_⟩;rw [T2,OY,TY];exact r.2
 |true=>
  refine(hV I.good C ha hb M hp).imp λE' r=>⟨r.1,Eh ?_⟩;rw [T2,OY,TY];exact r.2
theorem S9.watch(I:S9 lv E L)(hl:lv.length<=1000)(h0:E.P9 t=none)(ht:t∈UW)(ha:a∈TT)(hb:b∈TT):
  ∃Ea Eb E',Me 7 10 .st [iv a] E (.a9 .none) Ea/\Me 7 10 .st [iv b] Ea (.a9 .none) Eb/\Me 4 32 .st [iv t,iv a,iv b] Eb (.a9 .none) E'/\sL lv E' {L with C9:=L.C9++[(t,(xi a,xi b))]}:=by
 refine(tP I.good I.good.cons h0 ht ha hb (I.toBas.ZG hl)).imp λEa r=>r.imp λEb r=>r.imp λE' r=>⟨r.1,r.2.1,r.2.2.1,?_⟩;have r:=r.2.2.2;have A:=I.D7.wp (E':={E' with P9:=E.P9}) ⟨r.2.1.nw.up,r.2.1.nw.nw⟩ r.1.nw.1 (λz' z'=>rfl) (λz' z' z'=>id);have no:∀w∈L.C9,w.1≠t:=λw m e=>(I.D7.w1 w m).2.elim λa q=>q.elim λb q=>nomatch (e▸q.2.2).symm.trans h0;refine⟨{S0:=I.S0,D7:={zt:=A.zt,zw:=A.zw,nw:= ?_,w1:=λw m=> ?_,w2:=λz u v q=> ?_,nt:=A.nt,td:=A.td,nf:=A.nf,fr:=A.fr,nn:=A.nn,ns:=A.ns},tl:=I.tl,I5:= ?_},r.1.li.elim λes q=>⟨_,_,es,_,q⟩,r.1.nw,.inl r.1⟩
 ·rw [Ng];exact f7 I.D7.nw λm=>(List.mem_map.mp m).elim λw q=>no w q.1 q.2
 ·refine(j8 m).elim (λm=>⟨(A.w1 w m).1,(A.w1 w m).2.imp λa q=>q.imp λb q=>⟨q.1,q.2.1,?_⟩⟩) λe=>⟨e▸ht,a,b,⟨ha,hb⟩,e▸rfl,?_⟩
  ·rw [r.2.2,e9 (no w m)];exact q.2.2
  ·rw [r.2.2,e];exact i9
 ·rw [r.2.2] at q;refine(K8 q).elim (λq=> ?_) λq=>Kg _ (A.w2 z u v q);have e:=Zf q.2;rw [q.1,e.1,e.2];exact Rg _ (.head _)
 ·rw [r.2.1.I4];exact I.I5.ext r.2.1.l6
theorem bI{o:gg (gg p8)}:tz o≠0↔∃p,o=some p:=by
 cases o with
 |none=>exact⟨λh=>(h rfl).elim,λh=>h.elim λz' e=>(by nomatch e)⟩
 |some p=>cases p<;>exact⟨λz'=>⟨_,rfl⟩,λz' e=>(by nomatch e)⟩
theorem Bas.PG(I:Bas lv E L)(G:z3 (P4 lv) E)(hi:L.ids.length=lv.length):S9 lv E (L.nt (DZ E) (D2 (DZ E) L.told (L.C9.map (·.1)))):=by
 have A:=I.D7;have nm:∀t,t∈D2 (DZ E) L.told (L.C9.map (·.1))↔(∃o,E.d8 t=some o)/\tk L.told t=false:=λt=>by
  unfold D2;rw [Ö,Sg];refine⟨λq=>⟨bI.mp λe=> ?_,(Ff _).resolve_left λe=> ?_⟩,λq=>⟨q.1.elim λo h=>G.li.elim λes W=>(W.tk t o h).elim λa s=>s.elim λb s=>List.mem_map.mpr ⟨_,A.w2 t a b s.1,rfl⟩,?_,by rw [q.2];rfl⟩⟩
  ·have:=q.2.1;rw [show DZ E t=0 from e] at this;exact(by nomatch this)
  ·have:=q.2.2;rw [e] at this;exact(by nomatch this)
  ·rw [Ig (show DZ E t≠0 from bI.mpr q.1)];rfl
 have nA:(D2 (DZ E) L.told (L.C9.map (·.1))).Nodup:=A.nw.filter _;generalize D2 (DZ E) L.told (L.C9.map (·.1))=B at nm nA⊢;have tkn:∀t,tk (L.nt (DZ E) B).told t=true↔tk L.told t=true\/t∈B:=λt=>by
  refine X7.trans (ć ?_ (Na X7.symm Ef));refine⟨λq=>q.elim λp m=>(List.mem_append.mp m).imp (λm=>⟨p,m⟩) λm=>(List.mem_map.mp m).elim λu r=>(show u=t from(Zf r.2).1)▸r.1,λq=>q.elim (λq=>q.imp λp m=>Kg _ m) λm=>⟨_,Rg _ (List.mem_map.mpr ⟨t,m,rfl⟩)⟩⟩
 have nk:∀t∈B,tk L.told t=true->False:=λt m e=>by rw [((nm t).mp m).2] at e;exact(by nomatch e)
 have DT:Aw E (L.nt (DZ E) B):=λt o h=>(tkn t).mpr ((Ff (tk L.told t)).imp id λe=>(nm t).mpr ⟨⟨o,h⟩,e⟩);refine{S0:=I.S0,D7:={zt:=A.zt,zw:=A.zw,nw:=A.nw,w1:=A.w1,w2:=A.w2,nt:= ?_,td:=λp m=> ?_,nf:= ?_,fr:=λt m=>(tkn t).mpr ((List.mem_append.mp m).imp (A.fr t) id),nn:=A.nn,ns:=λt=> ?_},tl:=λp m=> ?_,I5:=I.I5.eq λp h=> ?_,DT:=DT,good:=G}
 ·show((L.told++B.map _).map _).Nodup;rw [Ng,Vg];refine List.nodup_append.mpr ⟨A.nt,?_,λx hx y hy e=> ?_⟩
  ·rw [show((λx:kg×(kg×kg)=>x.1)∘λt=>(t,(DZ E t,(L.ids.length))))=id from rfl,Î];exact nA
  ·rw [show((λx:kg×(kg×kg)=>x.1)∘λt=>(t,(DZ E t,(L.ids.length:kg))))=id from rfl,Î] at hy;exact nk y hy (X7.mpr ((List.mem_map.mp hx).elim λp q=>⟨p.2,by rw [<-e,<-q.2];exact q.1⟩))
 ·refine(List.mem_append.mp m).elim (A.td p) λm=>(List.mem_map.mp m).elim λu r=> ?_;refine((nm u).mp r.1).1.elim λo h=>G.li.elim λes W=>(W.tk u o h).elim λa s=>s.elim λb s=>⟨r.2▸(W.sk u a b s.1).1,o,r.2▸h,r.2▸ ?_⟩;show tv o=tz (E.d8 u);rw [h];rfl
 ·exact List.nodup_append.mpr ⟨A.nf,nA,λx hx y hy e=>nk y hy (e▸A.fr x hx)⟩
 ·refine(A.ns t).trans (ć (Na Ef (nm t).symm) (List.mem_append.symm.trans (Ma λq=>q.1.elim λo h=> ?_).symm));have:=DT t o h;rw [q.2] at this;exact(by nomatch this)
 ·exact(List.mem_append.mp m).elim (I.tl p) λm=>(List.mem_map.mp m).elim λu r=>by rw [<-r.2];exact ē (eg Nat.cast hi)
 ·refine⟨λm=>Kg _ m,λm=>(List.mem_append.mp m).elim id λm=>(List.mem_map.mp m).elim λu r=> ?_⟩;rw [<-r.2] at h;exact(Int.lt_irrefl _ (hi▸h)).elim
theorem S9.ask(I:S9 lv E L):S9 lv {E with news:=[]} {L with fresh:=[]}:={S0:=I.S0,D7:=I.D7.ask I.DT,tl:=I.tl,I5:=I.I5.ext (t5.refl.to rfl rfl),DT:=I.DT,good:=I.good.ask}
theorem HK{c:dg kg}{s:yg}{i:dg yg}{f:yg->gg (dg vg)}{r:dg kg}:S9 [[]] G9.nul ⟨c,s,i,f,r,[],[],[],false,false⟩:=by
 have no:∀{t},¬Kn (λz':kg=>(none)) t:=λh=>h.elim λz' h=>(by nomatch h);have of:∀{α:Type} {p:kg->α->Prop},Of (λz'=>none) (λz'=>none) p:=⟨λz' z'=>rfl,λz' h=>(by nomatch h)⟩;have W:LI [] [] G9.nul.toCor 0 [] []:={kn:=λz' z' h=>((by nomatch h)),sub:=λz' z' h=>(no h).elim,mem:=of,use:=of,b8:=of,C9:=of,bd:=λz' z' z' z' h=>((by nomatch h)),val:=of,tb:=λz' z' h=>((by nomatch h)),P:=⟨⟨λz' z' z' h=>((by nomatch h)),λz' z' z' h=>((by nomatch h)),λt=>⟨[],t,.nil t,rfl⟩⟩,⟨λz' z' z' h=>((by nomatch h))⟩,λp e q h=>(List.append_ne_nil_of_right_ne_nil p (List.cons_ne_nil e q) h.symm).elim⟩,c1:=λa z' h=>(no (t:=a) (h.imp λz' h=>h.1)).elim,c2:=λz' h=>((by nomatch h)),tc:=λz' z' z' h=>(no h).elim,fx:=λz' h=>((by nomatch h)),qj:=λz' h=>((by nomatch h)),pk:=λz' h=>((by nomatch h)),sk:=λz' z' z' h=>((by nomatch h)),tk:=λz' z' h=>((by nomatch h)),pl:=Xg _,nI:=by decide};have G:z3 (P4 [[]]) G9.nul:=⟨⟨[],W⟩,λf z' h=>(no (t:=f.1) (h.imp λz' h=>h.1)).elim,λz' z' z' h=>((by nomatch h)),rfl,rfl,uf,λz' h=>((by nomatch h))⟩;exact{S0:=λz' h=>((by nomatch h)),D7:={zt:=rfl,zw:=rfl,nw:=uf,w1:=λz' h=>((by nomatch h)),w2:=λz' z' z' h=>((by nomatch h)),nt:=uf,td:=λz' h=>((by nomatch h)),nf:=uf,fr:=λz' h=>((by nomatch h)),nn:=uf,ns:=λt=>⟨λh=>((by nomatch h)),λh=>h.elim (λh=>(by nomatch h)) λh=>h.1.elim λz' h=>(by nomatch h)⟩},tl:=λz' h=>((by nomatch h)),I5:= .inl ⟨rfl,rfl⟩,DT:=λz' z' h=>((by nomatch h)),good:=G}
end
section
variable{P:y8}{m i N k:yg}{g:q9}{K:R8}{E:G9}{L L':Lw}{u w x t d:kg}{c:wg}{cs:dg kg}{ids:dg yg}{lv:dg (dg (wg×u9))}{top:dg (wg×u9)}{ds:dg vg}{qs:dg (kg×kg)}{q:kg×kg}{W:dg (kg×(kg×kg))}
noncomputable def hZ(f:yg->gg (dg vg)):dg (dg (wg×u9))->Prop
 |[]=>True
 |top::lv=>f lv.length=some (top.map w6)/\hZ f lv
variable{f:yg->gg (dg vg)}
theorem hZ.drop(h:hZ f lv):∀k,hZ f (lv.drop k):=by
 induction lv with
 |nil=>exactλk=>by refine rL List.drop_nil ?_;exact h
 |cons f _ i=>exactλk=>Nat.casesOn k h λk=>i h.2 k
noncomputable def Lw.at(L:Lw)(i:yg)(d:dg vg):Lw:={L with lv:=λj=>if j=i then some d else L.lv j}
theorem hZ.at(h:hZ L.lv lv)(q:lv.length<=i):hZ (L.at i ds).lv lv:=by
 induction lv with
 |nil=>exact h
 |cons f _ e=>exact⟨(og (Ie (Nat.lt_of_succ_le q))).trans h.1,e h.2 (Pf q)⟩
theorem QV:∀k,(P4 (lv.drop k)).length<=(P4 lv).length:=by
 induction lv with
 |nil=>exactλk=>by refine rL List.drop_nil ?_;exact Ag _
 |cons f _ i=>exactλk=>Nat.casesOn k (Ag _) λk=>bg (i k) (rL v6 (rL jg (Cg _ _)))
theorem NQ{l e:dg yg}:L.facts (l++e)=L.facts l++L.facts e:=by
 induction l with
 |nil=>rfl
 |cons i l h=>exact(eg _ h).trans (Lg ..).symm
theorem hZ.facts(h:hZ L.lv lv):L.facts (af lv.length)=(P4 lv).map w6:=by
 induction lv with
 |nil=>rfl
 |cons f _ i=>
  exact rL v6 (rL Ng (rR (i h.2) (rL Yd (rL List.range_succ (rL NQ (eg _ ((Fg _).trans (eg (Option.getD · []) h.1))))))))
theorem hZ.ok(h:hZ L.lv lv):L.ok (af lv.length):=by
 induction lv with
 |nil=>exactλz' m=>(by nomatch m)
 |cons f _ j=>exactλi m=>(Nat.lt_or_eq_of_le (Oe (List.mem_range.mp m))).elim (λq=>j h.2 i (List.mem_range.mpr q)) λe=>⟨_,e▸h.1⟩
theorem iM{vs:dg AV}(e:vs=ds.map .a9):up (hl P g K E L) (.lvl i) (.list true vs)=hl P g K E (L.at i ds):=by
 refine e▸B9 (λτ h=> ?_) (eg (λd:gg _=>d.bind _) (xg rfl));cases τ with
 |lvl j=>exact eg (λd:gg _=>d.bind _) (og λq=>h (eg _ q)).symm
 |ls k t=>cases k<;>rfl
 |C7 k=>cases k<;>rfl
 |_=>rfl
theorem tE{l:dg (kg×AV)}(z:L.zw=false)(e:l=u2 W):up (hl P g K E L) .lwat (.M9 true l)=hl P g K E {L with C9:=W}:=(ZN (c:=false) e).trans (eg _ (by cases L;subst z;rfl))
structure LS(m:yg)(L:Lw)(lv:dg (dg (wg×u9))):Prop where
 ids:L.ids=af lv.length
 lP:hZ L.lv lv
 ht:L.terms=TL
 ce:L.cells.length<=48
 sp:L.spot<=5*m+1
 ln:lv.length<=m+1
 fl:(P4 lv).length<=m
theorem LS.Ey(s:LS m L lv)(hm:m<=100):p5 L (P4 lv):=⟨by refine rL s.ids ?_;exact⟨s.lP.ok,s.lP.facts⟩,bg s.fl (bg hm (by decide))⟩
theorem FK(hw:0<w):0<=l7 cs i w/\l7 cs i w<w:=by
 unfold l7;cases cs[i]? with
 |none=>exact⟨Int.emod_nonneg _ (gc (Gc hw)),Int.emod_lt_of_pos _ hw⟩
 |some x=>exact⟨Int.emod_nonneg _ (gc (Gc hw)),Int.emod_lt_of_pos _ hw⟩
theorem M4(hw:0<N):∃k,k<N/\l7 cs i N=k:=by
 haveI q:=FK (cs:=cs) (i:=i) (Int.natCast_pos.mpr hw);exact⟨(l7 _ i N).toNat,(đ q.1).mpr q.2,(db q.1).symm⟩
noncomputable def Lw.nx(L:Lw):Lw:={L with spot:=L.spot+1}
theorem SZ{wide:kg}(hw:0<wide)(hs:L.spot<=1000)(h:L.cells.length<=1000)(e:l7 L.cells L.spot wide=x):i7 P 1 .st 72 [.g9 .feed,iv wide] (hl P g K E L) (iv x) (hl P g K E L.nx):=e▸Ek hw hs h
noncomputable def yx(u:kg):kg:=ô (decide (u<9)) (u+3) (u-8)
theorem qP:∀k<11,yx (k:yg)∈TT/\xi (yx k)=k/\TL[k]? =some (yx k):=by decide
noncomputable def MN:dg (kg×kg):=[(0,1),(1,2),(0,2),(3,4),(0,3),(3,5),(2,5),(6,7),(7,8),(6,9),(7,9),(8,9)]
theorem vA{c:IC}{Q:AV->Prop}(h:MN[k]? =some q)(e:k<12)(r:Q (.a9 (xY q))):Mh c (.a9 OO) (iv k) Q:=by
 unfold OO;refine N8 ((Sg _ _).mpr ⟨Dg (me _),Dg (Int.ofNat_le.mpr (bg (Uf e) (by decide)))⟩) (k9 (x:=(MN.map xY)[(Int.toNat _)]?) ?_ r);rw [Int.toNat_natCast,Wg,h];rfl
noncomputable def MQ:dg (kg×kg):=[(3,4),(4,5),(3,5),(6,7),(3,6),(6,8),(5,8),(9,10),(10,11)]
theorem qA:∀k<12,(∃q∈MQ,MN[k]? =some (xi q.1,xi q.2))\/∃t∈[(9),10,11],MN[k]? =some (xi t,9):=by decide
theorem pT:∀q∈MQ,(((q.1∈TT/\q.2∈TT)/\q.1<q.2)/\(xi q.1≠9/\xi q.2≠9))/\((q.1=q.1.toNat/\q.1.toNat<60)/\(q.2=q.2.toNat/\q.2.toNat<60))/\(0<=xi q.1/\TL[(xi q.1).toNat]? =some q.1)/\(0<=xi q.2/\TL[(xi q.2).toNat]? =some q.2):=by decide
theorem WZ(h:0<=u/\TL[u.toNat]? =some t):r7 u (zs TL)=some (.int t):=by
 unfold r7 zs;refine rL (xg h.1) ?_;refine rL (Wg) (rL h.2 ?_);rfl
theorem jq{i j:yg}(h:i<60)(h':j<60):[(i:kg),j]∈KY:=pd _ (Rg _ (List.mem_flatMap.mpr ⟨i,List.mem_map.mpr ⟨i,List.mem_range.mpr h,rfl⟩,List.mem_map.mpr ⟨j,List.mem_map.mpr ⟨j,List.mem_range.mpr h',rfl⟩,rfl⟩⟩))
theorem WG(m:q∈MQ):[q.1,q.2]∈KY:=by
 haveI w:=(pT q m).2.1;refine rL w.1.1 (rL w.2.1 ?_);exact jq w.1.2 w.2.2
def WQ(qs:dg (kg×kg))(w:kg×(kg×kg)):Prop:=(w.1∈[(9:kg),10,11]/\w.2=(xi w.1,9))\/∃i q,qs[i]? =some q/\w.1=((12+i:yg):kg)/\w.2=(xi q.1,xi q.2)
structure oX(qs:dg (kg×kg))(K:R8)(L:Lw):Prop where
 eb:EB qs K
 nd:qs.Nodup
 mq:∀q∈qs,q∈MQ
 wq:∀w∈L.C9,WQ qs w
theorem oX.len(B:oX qs K L):qs.length<=9:=V8 B.nd B.mq
theorem oX.cg(B:oX qs K L)(e:L'.C9=L.C9):oX qs K L':=⟨B.eb,B.nd,B.mq,e.symm▸B.wq⟩
theorem aI:∀i<9,((12+i:yg):kg)∈UW/\((12+i:yg):kg)∉[(9),10,11]:=by decide
theorem vC:∀t∈[(9),10,11],t∈UW/\t∈TT/\(∃x,Ap t x)/\((0<=xi t/\TL[(xi t).toNat]? =some t)):=λt m=>⟨(by decide:∀t∈[(9),10,11],t∈UW) t m,(by decide:∀t∈[(9),10,11],t∈TT) t m,(((by decide:∀t∈[(9),10,11],∃p∈t8,p.1=t) t m).elim λp q=>⟨p.2,by refine rR q.2 ?_;exact q.1⟩),(by decide:∀t∈[(9),10,11],(0<=xi t/\TL[(xi t).toNat]? =some t)) t m⟩
variable{K':R8}{E':G9}{v mk:kg}{kk:KB}
noncomputable abbrev ρ8(m d:kg):dg (yg×AV):=[(0,.g9 .feed),(1,.g9 .state),(2,.g9 .house),(3,.g9 .bank),(4,iv m),(6,iv d),(5,.a9 (.list (zs TL)))]
noncomputable def CK:M:=jY (jU (Y2 J7 J8)) (jS J1 (Ys "watched")) J9 (jX (jM J2 31 (Y1 J9)) jN)
theorem uP(z:L.zw=false)(h:L.C9.length<=1000)(e:X6 (u2 L.C9) t (.a9 (xY (u,v)))=u2 W)(F:i7 P 8 .st 31 [.g9 .house,iv t] (hl P g K E {L with C9:=W}) (.a9 .none) (hl P g K E' {L with C9:=W}))(f:∀j,kk .next ⟨j,[],hl P g K E' {L with C9:=W}⟩):
  (A9 P 8 CK).b (.s2,[]) ⟨ρ8 mk d++[(7,iv u),(8,iv v),(9,iv t)],[],hl P g K E L⟩ kk:=N8 (eg (!·) z) ⟨b9 (bg h (by decide)),j9 (tE z e) (Y8 F rt (f _))⟩
noncomputable def AK:M:=jT 9 (.ite (jE .eq J8 (Yi 9)) (jS J5 J7) (jM J3 62 (Y4 (Ys "=") (jU (Y2 (jB .min (Y2 (jS J5 J7) (jS J5 J8))) (jB .max (Y2 (jS J5 J7) (jS J5 J8))))) (jJ 2) (Yi 0)))) CK
noncomputable def eF:M:= .n6 [7,8] (jS (jJ 4) (jF 72 (Y2 J0 (Yi 12)))) AK
theorem vP(hs:L.spot<=1000)(e:L.cells.length<=1000)(f:l7 L.cells L.spot 12=k)(j:k<12)(h:MN[k]? =some q)
  (r:(A9 P 8 AK).b (.s2,[]) ⟨ρ8 mk d++[(7,iv q.1),(8,iv q.2)],[],hl P g K E L.nx⟩ kk):(A9 P 8 eF).b (.s2,[]) ⟨ρ8 mk d,[],hl P g K E L⟩ kk:=q8 (SZ (by decide) hs e f) rt rt (vA h j r)
theorem Go(m:t∈[(9),10,11])(r:(A9 P 8 CK).b (.s2,[]) ⟨ρ8 mk d++[(7,iv (xi t)),(8,iv 9),(9,iv t)],[],hl P g K E L⟩ kk):
  (A9 P 8 AK).b (.s2,[]) ⟨ρ8 mk d++[(7,iv (xi t)),(8,iv 9)],[],hl P g K E L⟩ kk:=k9 (WZ (vC t m).2.2.2) ⟨by decide,r⟩
theorem Ho(m:q∈MQ)(F:i7 P 1 .all 62 [.g9 .bank,.a9 (.str (S "=")),.a9 (.tuple (zs [q.1,q.2])),iv 0,.a9 (.int 0)] (hl P g K E L) (iv t) (hl P g K' E L))(r:(A9 P 8 CK).b (.s2,[]) ⟨ρ8 mk d++[(7,iv (xi q.1)),(8,iv (xi q.2)),(9,iv t)],[],hl P g K' E L⟩ kk):
  (A9 P 8 AK).b (.s2,[]) ⟨ρ8 mk d++[(7,iv (xi q.1)),(8,iv (xi q.2))],[],hl P g K E L⟩ kk:=by
 haveI w:=pT q m;have f:∀{Q:vg->Prop},Q _->rd _ λd=>(zs TL).length<=1000000/\Q d:=λh=>k9 (WZ w.2.2.1) ⟨by decide,h⟩;have e:∀{Q:vg->Prop},Q _->rd _ λd=>(zs TL).length<=1000000/\Q d:=λh=>k9 (WZ w.2.2.2) ⟨by decide,h⟩;refine v9 (H8 w.1.2.2) (f (e ?_));refine f (e ?_);haveI e1:(if q.2<q.1 then q.2 else q.1)=q.1:=og (Vb w.1.1.2);haveI j:(if q.1<q.2 then q.2 else q.1)=q.2:=xg w.1.1.2;haveI l:i7 P 1 .all 62 [.g9 .bank,.a9 _,.a9 (.tuple [.int (if q.2<q.1 then q.2 else q.1),.int (if q.1<q.2 then q.2 else q.1)]),iv 0,.a9 _] _ _ _:=by refine rL e1 (rL j ?_);exact F
 exact q8 l rt rt r
variable{n:yg}{Ea Eb:G9}{a b:kg}
theorem wP(I:S9 lv E L)(hl':lv.length<=1000)(ht:t∈UW)(ha:a∈TT)(hb:b∈TT)(hw:∀w∈L.C9,w.1=t->w.2=(xi a,xi b)):
  ∃E' W,sL lv E' {L with C9:=W}/\(∀w∈W,w∈L.C9\/w=(t,(xi a,xi b)))/\X6 (u2 L.C9) t (.a9 (xY (xi a,xi b)))=u2 W/\((E.P9 t).isSome=true/\E'=E\/E.P9 t=none/\∃Ea Eb,Me 7 10 .st [iv a] E (.a9 .none) Ea/\Me 7 10 .st [iv b] Ea (.a9 .none) Eb/\Me 4 32 .st [iv t,iv a,iv b] Eb (.a9 .none) E'):=by
 cases h0:E.P9 t with
 |none=>
  refine(I.watch hl' h0 ht ha hb).elim λEa r=>r.elim λEb r=>r.elim λE' r=>⟨E',_,r.2.2.2,λw m=>j8 m,rT λp m=> ?_,.inr ⟨rfl,Ea,Eb,r.1,r.2.1,r.2.2.1⟩⟩;exact(I.D7.w1 _ m).2.elim λa q=>q.elim λb q=>(by nomatch q.2.2.symm.trans h0)
 |some p=>
  have m:=I.D7.w2 t p.1 p.2 h0;have e:=hw _ m rfl;exact⟨E,L.C9,I.uv,λw m=> .inl m,lF I.D7.nw (e▸m),.inl ⟨rfl,rfl⟩⟩
theorem HJ(I:S9 lv E L)(B:oX qs K L)(hs:L.spot<=1000)(S:L.cells.length<=1000)(C:lv.length<=1000):∃E' W l K',sL lv E' {L.nx with C9:=W}/\oX l K' {L.nx with C9:=W}/\∀{P} {g:q9} {V d} {kk:KB},(∀κ t,g.z κ t=false)->(∀M,kk .next ⟨M,[],hl P g K' E' {L.nx with C9:=W}⟩)->
  (A9 P 8 eF).b (.s2,[]) ⟨ρ8 V d,[],hl P g K E L⟩ kk:=by
 haveI R:L.C9.length<=1000:=bg I.D7.len.1 (by decide);refine(M4 (cs:=L.cells) (i:=L.spot) (by decide)).elim λk F=>(qA k F.1).elim (λr=>r.elim λq r=> ?_) λr=>r.elim λt r=> ?_
 ·haveI w:=pT q r.1;refine D6 (fJ B.eb (Qg B.len (by decide)) (WG r.1)) λi l K' z=> ?_;have D:=λp m=>(z.2.2.2.1 p m).elim (B.mq p) λe=>e▸r.1;haveI n:=z.2.2.2.2.1 B.nd;have U:∀{j p},l[j]? =some p->j<9:=λh=>Og (List.getElem?_eq_some_iff.mp h).1 (V8 n D);have O:=aI i (U z.2.1);refine M8 (wP I C O.1 w.1.1.1.1 w.1.1.1.2 λp m e=> ?_) λE' W y=> ?_
  ·refine(B.wq p m).elim (λh=>(O.2 (e▸h.1)).elim) λh=>M8 h λj z' h=> ?_;exact rL h.2.2 (rL (ig ((z.2.2.1 j _ h.1).symm.trans ((Qe (Int.ofNat.inj (h.2.1.symm.trans e)))▸z.2.1))) rfl)
  refine⟨E',W,l,K',y.1.cg,⟨z.1,n,D,λp m=>(y.2.1 p m).elim (λm=>(B.wq p m).imp id λh=>h.imp λj h=>h.imp λp' h=>⟨z.2.2.1 j _ h.1,h.2⟩) λe=> .inr ⟨i,q,z.2.1,e▸rfl,e▸rfl⟩⟩,λ{P g _ d _} hz J=> ?_⟩;exact vP hs S F.2 F.1 r.2 (Ho r.1 (z.2.2.2.2.2 P {g with r:=rU _} E) (uP I.D7.zw R y.2.2.1 (y.2.2.2.elim (λh=>(h.2▸ez h.1 P {g with r:=rU {L.nx with C9:=W}} K' z.1.bk λκ t z'=>hz κ t)) λh=>M8 h.2 λX Z h'=>(Hu (as:=[]) (z.1.n1 i q z.2.1).2 h.1 h'.1 h'.2.1 h'.2.2 z.1.bk λκ t z'=>hz κ t)) J))
 ·haveI w:=vC t r.1;refine M8 (wP I C w.1 w.2.1 CD.1 λp m e=> ?_) λE' W y=> ?_
  ·exact(B.wq p m).elim (λh=>e▸h.2) λh=>M8 h λj p' h=>(((λm h=>(aI _ h).2 m) (h.2.1▸e.symm▸r.1) (Og (List.getElem?_eq_some_iff.mp h.1).1 B.len)).elim)
  refine⟨E',W,qs,K,y.1.cg,⟨B.eb,B.nd,B.mq,λp m=>(y.2.1 p m).elim (B.wq p) λe=> .inl ⟨e▸r.1,e▸rfl⟩⟩,λ{P g _ d _} hz J=> ?_⟩;exact vP hs S F.2 F.1 r.2 (Go r.1 (uP I.D7.zw R y.2.2.1 (y.2.2.2.elim (λh=>(h.2▸ez h.1 P {g with r:=rU {L.nx with C9:=W}} K B.eb.bk λκ t z'=>hz κ t)) λh=>M8 h.2 λX Z h'=>w.2.2.1.elim λx hx=>(Gu hx h.1 h'.1 h'.2.1 h'.2.2 P {g with r:=rU {L.nx with C9:=W}} K B.eb.bk λκ t z'=>hz κ t)) J))
variable{g':q9}{o:d9}
noncomputable def yA(i:yg):M:=jX (jL (jS J1 (Ys "levels")) .append (Y1 (jW (.lvl i) (jP jN)))) (jX (jM J2 37 jN) jN)
theorem ZE(h:L.ids=af i)(l:E.marks.length<=1000000)(s:E.trail.length<=1000000)(y:i<=1000000)(hB:BK K)(B:∀f,kk .next ⟨f,[],hl P g K {E with marks:=E.marks++[(E.trail.length:kg)]} {L.at i [] with ids:=af (i+1)}⟩):
  (A9 P 8 (yA i)).b (.s2,[]) ⟨ρ8 mk d,[],hl P g K E L⟩ kk:=by
 refine⟨E6,(λo e=> ?_),?_⟩
 ·haveI e:=ig e;subst e;exactλv m=>(List.mem_map.mp m).elim λj q=>q.2▸λz=>Nat.lt_irrefl i (Qg (Bg (eg (λτ=>match τ with| .lvl j=>j|_=>0) z).symm) (List.mem_range.mp (h▸q.1)))
 refine j9 (iM (ds:=[]) rfl) (⟨?_,j9 (XV (ids:=af (i+1)) ?_) ?_⟩)
 ·rw [ng];refine rL h (rL Bf ?_);exact y
 ·show L.ids.map _++_=_;refine rL h (rL List.range_succ (rL Ng ?_));rfl
 exact q8 (Kk l s P {g with r:=rU {L.at i [] with ids:=af _}} K hB λz' z' z=>(by nomatch z)) rt rt (B _)
noncomputable def BA:M:=jX (jF 82 (Y3 J1 J2 (jO .add (Yi 1) (jF 72 (Y2 J0 (jO .sub (jB .len (Y1 (jS J1 (Ys "levels")))) (Yi 1))))))) jN
theorem eD(hs:L.spot<=1000)(y:L.cells.length<=1000)(j:L.ids=af N)(s:N<=1000)(r:l7 L.cells L.spot (N-1)=k)(h:k+1<N)
  (F:i7 P 8 .s2 82 [.g9 .state,.g9 .house,iv (k+1:yg)] (hl P g K E L.nx) (.a9 .none) (hl P g' K E' L')) (p:∀z,kk .next ⟨z,[],hl P g' K E' L'⟩):
  (A9 P 8 BA).b (.s2,[]) ⟨ρ8 mk d,[],hl P g K E L⟩ kk:=by
 haveI l:∀{e} {f:yg->e},(L.ids.map f).length=N:=by rw [j];exactλ{e f}=>(ng _).trans Bf
 refine⟨l▸bg s (by decide),?_⟩;refine rL l (q8 (SZ (Int.sub_pos_of_lt (Int.ofNat_lt.mpr (Qg (Hg (Xg k)) h))) hs y r) rt rt ?_);haveI e1:(1:kg)+k=(k+1:yg):=Int.add_comm ..;haveI F:=e1.symm▸F;exact Y8 F rt (p _)
noncomputable def fF:M:=jX (jL (jS (jS J1 (Ys "levels")) (.neg (Yi 1))) .append (Y1 (jU (Y4 (.ite (jE .eq J6 (Yi 2)) (Ys "part") (Ys "tie")) J7 J8 J4)))) (jI (jE .eq J6 (Yi 2)) (jX (jM J2 26 (Y3 (jS J5 J7) (jS J5 J8) J4)) jN) (jX (jM J2 14 (Y3 (jS J5 J7) (jS J5 J8) J4)) jN) jN)
noncomputable def AA:M:=jT 7 (jF 72 (Y2 J0 (Yi 9))) (jT 8 (.ite (jE .lt J7 (Yi 6)) (jF 72 (Y2 J0 (Yi 6))) (jO .add (Yi 6) (jF 72 (Y2 J0 (.ite (jE .eq J6 (Yi 2)) (Yi 3) (Yi 5)))))) fF)
theorem qS:∀a∈TT,0<=xi a/\TL[(xi a).toNat]? =some a:=by decide
theorem gq(hs:L.spot<=900)(hc:L.cells.length<=1000):∃a b,(a∈TT/\b∈TT)/\∀{P:y8} {g:q9} {K:R8} {E:G9} {mk:kg} {kk:KB},(A9 P 8 fF).b (.s2,[]) ⟨ρ8 mk d++[(7,iv (xi a)),(8,iv (xi b))],[],hl P g K E L.nx.nx⟩ kk->(A9 P 8 AA).b (.s2,[]) ⟨ρ8 mk d,[],hl P g K E L⟩ kk:=by
 have hs':L.spot<=1000:=bg hs (by decide);have hs2:L.nx.spot<=1000:=bg (Hg hs) (by decide);refine(M4 (cs:=L.cells) (i:=L.spot) (N:=9) (by decide)).elim λk hk=> ?_;have yk:=qP k (Og hk.1 (by decide));refine⟨yx (k),?_⟩;rw [yk.2.1];by_cases k6:k<6
 ·refine(M4 (cs:=L.cells) (i:=L.spot+1) (N:=6) (by decide)).elim λj hj=> ?_;have yj:=qP j (Og hj.1 (by decide));refine⟨yx (j),⟨yk.1,yj.1⟩,λ{P g K E mk kk} r=> ?_⟩;rw [yj.2.1] at r;refine q8 (SZ (by decide) hs' hc hk.2) rt rt (D9 (Dg (Int.ofNat_lt.mpr k6)) ?_);exact q8 (SZ (by decide) hs2 hc hj.2) rt rt r
 ·have go:∀N:yg,N<=5->0<N->∃b,b∈TT/\∃j:yg,l7 L.cells (L.spot+1) N=j/\xi b=6+(j):=λN h h0=>(M4 h0).elim λj hj=>by
   have yj:=qP (6+j) (Nat.add_lt_add_left (Og hj.1 h) 6);exact⟨_,yj.1,j,hj.2,yj.2.1⟩
  have k6':=Ig λz=>k6 (Int.ofNat_lt.mp z);by_cases d2:d=2
  ·refine(go 3 (by decide) (by decide)).imp λb z=>⟨⟨yk.1,z.1⟩,λ{P g K E mk kk} r=>z.2.elim λj z=> ?_⟩;rw [z.2] at r;refine q8 (SZ (by decide) hs' hc hk.2) rt rt (v9 k6' (D9 (Q8 d2) ?_));exact q8 (SZ (by decide) hs2 hc z.1) rt rt r
  ·refine(go 5 (by decide) (by decide)).imp λb z=>⟨⟨yk.1,z.1⟩,λ{P g K E mk kk} r=>z.2.elim λj z=> ?_⟩;rw [z.2] at r;refine q8 (SZ (by decide) hs' hc hk.2) rt rt (v9 k6' (v9 (H8 d2) ?_));exact q8 (SZ (L:=L.nx) (by decide) hs2 hc z.1) rt rt r
theorem cD(hB:BK K)(hz:∀κ t,g.z κ t=false)(ha:a∈TT)(hb:b∈TT)(hi:L.ids=af (i+1))(hi6:i<1000000)(hd:L.lv i=some ds)(h6:ds.length<=1000000)(e:decide (d=2)=c)
  (F:Me 8 (ô c 26 14) .st [iv a,iv b,iv mk] E (.a9 .none) E') (hq:∀ρ',kk .next ⟨ρ',[],hl P g K E' (L.at i (ds++[w6 (c,(a,b,mk))]))⟩):
  (A9 P 8 fF).b (.s2,[]) ⟨ρ8 mk d++[(7,iv (xi a)),(8,iv (xi b))],[],hl P g K E L⟩ kk:=by
 have lr:(((af (i+1)).map λi=>AV.g9 (.lvl i)).length)=i+1:=(ng _).trans Bf;refine k9 (a:= .g9 (.lvl i)) ?_ ⟨?_,?_⟩
 ·rw [hi];refine(og (by decide)).trans ((xg rfl).trans ?_);rw [lr,Sa,Wg,Ba (be i)];rfl
 ·rw [hi,lr];exact hi6
 have el:(L.lv i).bind Mine.Internal.ls=some (.list true (ds.map .a9)):=by rw [hd];rfl
 have st:ds.map AV.a9++[.a9 (w6 (c,(a,b,mk)))]=(ds++[w6 (c,(a,b,mk))]).map .a9:=by rw [Ng];rfl
 cases c with
 |true=>
  refine D9 e (k9 el (k9 (x:=(L.lv i).bind Mine.Internal.ls) el ⟨b9 h6,j9 (iM st) (D9 e ?_)⟩));refine k9 (WZ (qS a ha)) ⟨by decide,k9 (WZ (qS b hb)) ⟨by decide,?_⟩⟩;exact Y8 (F P {g with r:=rU (L.at i (ds++[w6 (true,(a,b,mk))]))} K hB λκ t z'=>hz κ t) rt (hq _)
 |false=>
  refine v9 e (k9 el (k9 (x:=(L.lv i).bind Mine.Internal.ls) el ⟨b9 h6,j9 (iM st) (v9 e ?_)⟩));refine k9 (WZ (qS a ha)) ⟨by decide,k9 (x:=r7 (xi b) (zs TL)) (WZ (qS b hb)) ⟨by decide,?_⟩⟩;exact Y8 (F P {g with r:=rU (L.at i (ds++[w6 (false,(a,b,mk))]))} K hB λκ t z'=>hz κ t) rt (hq _)
variable{b':Tg->gg d9}
noncomputable def Tv(i:yg):M:=jI (jE .isin J6 (jU (Y2 (Yi 3) (Yi 4)))) eF (jI (jE .eq J6 (Yi 5)) (yA i) (jI (jD (jE .eq J6 (Yi 6)) (jE .gt (jB .len (Y1 (jS J1 (Ys "levels")))) (Yi 1))) BA (jI (jE .ne J6 (Yi 6)) AA jN jN) jN) jN) jN
theorem V3(i:yg)(hs:L.spot<=1000)(e:L.cells.length<=1000)(f:L.terms=TL)(h:(A9 P 8 (Tv i)).b (.s2,[]) ⟨ρ8 mk (l7 L.cells L.spot 8),[],hl P g K E L.nx⟩ (Eh (.a9 .none) b')):i7 P 9 .s2 84 [.g9 .feed,.g9 .state,.g9 .house,.g9 .bank,iv mk] (hl P g K E L) (.a9 .none) b':=by
 refine enter (Qj i) rt rt (q8 (SZ (by decide) hs e rfl) rt rt ?_);refine rL f ?_;exact h
theorem xk(I:S9 lv E L)(B:oX qs K L)(s:LS m L lv)(hm:m<=10)(Z:mk∈[(-7:kg),-5,-3,2,4,6]):∃E' L' S O K',(∀P g,(∀κ t,g.z κ t=false)->∃Q,(∀κ t,Q.z κ t=false)/\i7 P 9 .s2 84 [.g9 .feed,.g9 .state,.g9 .house,.g9 .bank,iv mk] (hl P g K E L) (.a9 .none) (hl P Q K' E' L'))/\(LS (m+1) L' S/\L'.spot<=5*(m+1))/\oX O K' L'/\sL S E' L':=by
 have M:L.cells.length<=1000:=bg s.ce (by decide);have hs:=bg s.sp (Hg (Pe 5 hm));have G:L.spot<=1000:=bg hs (by decide);have u:=bg s.ln (Hg hm);have y:lv.length<=1000:=bg u (by decide);haveI J:∀{k},k<=1000->k<=1000000:=λh=>bg h (by decide);have H:∀k,k<=4->L.spot+k<=5*(m+1):=λk h=>bg (mf s.sp h) (Bg (Nat.succ_add _ _));by_cases x:l7 L.cells L.spot 8∈[(3),4]
 ·refine T6 (HJ (L:=L.nx) I.cg (B.cg rfl) (bg (Hg hs) (by decide)) M y) λE' W O K' r=>⟨E',{L.nx.nx with C9:=W},lv,O,K',λP g hz=>⟨g,hz,V3 0 G M s.ht (D9 (u4.trans (Dg x)) (r.2.2 hz λR=>E9))⟩,⟨⟨s.ids,s.lP,s.ht,s.ce,bf (H 2 (by decide)),bf s.ln,bf s.fl⟩,H 2 (by decide)⟩,r.2.1,r.1⟩
 have n:=u4.trans (Ig x);by_cases Y:l7 L.cells L.spot 8=5
 ·refine⟨_,_,[]::lv,qs,K,λP g hz=>⟨g,hz,V3 lv.length G M s.ht (v9 n (D9 (Q8 Y) (ZE s.ids (J (I.toBas.ZG y)) (bg I.good.vX (by decide)) (J y) B.eb.bk λR=>E9)))⟩,⟨⟨rfl,⟨xg rfl,s.lP.at (Ag _)⟩,s.ht,s.ce,bf (H 1 (by decide)),Hg s.ln,?_⟩,H 1 (by decide)⟩,B.cg rfl,((I.push (i:=[]) (f:=λz'=>none)).cg).uv⟩;refine rL v6 ?_;rw [Fg];exact bf s.fl
 by_cases U:l7 L.cells L.spot 8=6
 ·have F:(L.nx.ids.map λi=>AV.g9 (.lvl i)).length=lv.length:=(ng _).trans ((eg uc s.ids).trans Bf);haveI T:=F▸J y;by_cases h1:lv.length<=1
  ·refine⟨E,L.nx,lv,qs,K,λP g hz=>⟨g,hz,V3 0 G M s.ht (v9 n (v9 (H8 Y) (D9 (Q8 U) ⟨T,v9 (Ig ?_) (v9 (p6 U) E9)⟩)))⟩,⟨⟨s.ids,s.lP,s.ht,s.ce,bf (H 1 (by decide)),bf s.ln,bf s.fl⟩,H 1 (by decide)⟩,B.cg rfl,(I.cg).uv⟩;exact rL F (Int.not_lt.mpr (Int.ofNat_le.mpr h1))
  ·haveI o:=Qb h1;refine(M4 (cs:=L.cells) (i:=L.spot+1) (Fb o)).elim λk q=> ?_;have N:=Nat.add_lt_of_lt_sub q.1;have V:S9 lv E L.nx.nx:=I.cg;haveI ln:=V.D7.len;refine I.good.li.elim λes W=>((V.toBas.pop y W I.good.nw (.inl I.good.cl) N).elim λE' r=> ?_);refine⟨E',L.nx.nx.back (lv.length-(k+1)),lv.drop (k+1),qs,K,λP g hz=>(r.1 P {g with r:=rU L.nx.nx} K B.eb.bk λκ t z'=>hz κ t).elim λQ w=>⟨Q,λκ t=>w.2.1▸hz κ t,V3 0 G M s.ht (v9 n (v9 (H8 Y) (D9 (Q8 U) ⟨T,D9 (Dg ?_) (eD (bg (Hg hs) (by decide)) M s.ids y ?_ N (dp s.ids y N V.D7.zt V.D7.nt ⟨bg ln.2.1 (by decide),bg ln.2.2 (by decide)⟩ ?_) λR=>E9)⟩)))⟩,⟨⟨by refine rL Mc ?_;rfl,s.lP.drop _,s.ht,s.ce,bf (H 2 (by decide)),bg (Bg (Mc ..)) (bg (Pc _ _) (bf s.ln)),bg (QV _) (bf s.fl)⟩,H 2 (by decide)⟩,B.cg rfl,r.2.1,r.2.2.li.elim λes W=>⟨_,_,es,_,W⟩,r.2.2.nw,.inl r.2.2⟩
   ·refine rL F ?_;exact Int.ofNat_lt.mpr o
   ·refine rR q.2 (rL (Int.ofNat_sub (Uf o)) ?_);rfl
   ·exact rL (show hl P Q K E' L.nx.nx=hp P Q K E' from eg (λr=>hp P {Q with r:=r} K E') w.1.symm) w.2.2
 cases lv with
 |nil=>exact I.I5.elim
 |cons v lv=>
  refine M8 (gq (L:=L.nx) (d:=l7 L.cells L.spot 8) (bg (Hg hs) (by decide)) M) λa b r=> ?_;refine(I.fact (c:=decide (l7 L.cells L.spot 8=2)) y r.1.1 r.1.2 Z (Qg (bg (Bg (ng _)) (bg (Df ..) (bg s.fl hm))) (by decide))).elim λE' z=> ?_;haveI fl:=s.fl;rw [v6,jg] at fl;refine⟨E',(L.nx.nx.nx.at lv.length _),(v++[(decide (l7 L.cells L.spot 8=2),(a,b,mk))])::lv,qs,K,λP g hz=>⟨g,hz,V3 0 G M s.ht (v9 n (v9 (H8 Y) (v9 (H8 U) (v9 rfl (D9 (G6 U) (r.2 (cD B.eb.bk hz r.1.1 r.1.2 s.ids (Og (be _) (J y)) s.lP.1 (bg (Bg (ng _)) (bg (bg (Wb _ _) fl) (bg hm (by decide)))) rfl z.1 λR=>E9)))))))⟩,⟨⟨s.ids,⟨(xg rfl).trans (eg some (Ng (l₂:=[(decide (l7 L.cells L.spot 8=2),(a,b,mk))])).symm),s.lP.2.at (Ag _)⟩,s.ht,s.ce,bf (H 3 (by decide)),bf s.ln,?_⟩,H 3 (by decide)⟩,B.cg rfl,z.2.cg⟩;refine rL T2 (rL jg ?_);exact Hg s.fl
variable{l:dg kg}{gs:dg (wg×u9)}{ρ:dg (yg×AV)}{ns:Fd->Prop}
noncomputable abbrev xp(e:dg (yg×AV)):wg:=e.all λp=>gN .s2 p.2
noncomputable def cF:M:=jX (jF 81 (Y1 J4)) (jI (jD (jE .eq (jF 72 (Y2 J1 (Yi 2))) (Yi 1)) (.not (.val (jF 83 (Y2 J4 J3))))) (Yr (jK (.bool false))) jN jN)
theorem fu(I:Bas lv E L)(G:z3 (P4 lv) E)(s:LS m L lv)(hm:m<=100):i7 P 4 .st 81 [.g9 .state] (hl P g K E L) (.a9 .none) (hl P g K E (L.nt (DZ E) (D2 (DZ E) L.told (L.C9.map (·.1))))):=by
 haveI A:=I.D7;haveI l:=A.len;haveI t:∀{a b},a<=12->b<=12->a+b<=1000:=λh h'=>bg (mf h h') (by decide);refine(Ak (s.Ey hm) I.S0 A.zt A.zw A.nw ⟨by refine rL s.ids (rL Bf ?_);exact bg s.ln (bg (Hg hm) (by decide)),t l.2.1 l.1,t l.2.2 l.1⟩).elim λh H=>H.2 _ λw m=>(A.w1 w m).2.imp λa q=>q.imp λb q=>⟨q.1,q.2.1,G.truth H.1 I.S0.ft q.2.2 q.1.1 q.1.2⟩
theorem LS.nt(s:LS m L lv){t:kg->kg}{A:dg kg}:LS m (L.nt t A) lv:=⟨s.ids,s.lP,s.ht,s.ce,s.sp,s.ln,s.fl⟩
theorem XR(I:Bas lv E L)(G:z3 (P4 lv) E)(B:oX qs K L)(s:LS m L lv)(sp:L.spot<=5*m)(hm:m<=100)(h1:ρ.lookup 1=some (.g9 .feed))(h3:ρ.lookup 3=some (.g9 .house))(h4:ρ.lookup 4=some (.g9 .state))(hk:xp ρ=true)(hk':(ρ.all λp=>gN .st p.2)=true)
  (q:∀E' L',S9 lv E' L'->oX qs K L'->LS m L' lv->kk .next ⟨ρ,[],hl P g K E' L'⟩):(A9 P 9 cF).b (.top,[]) ⟨ρ,[],hl P g K E L⟩ kk:=by
 have kp:∀{a:AV},LF a=true->(sF (.top,[]) .st&&(ρ.all λp=>gN .st p.2)&&LF a)=true:=λh=>(Sg _ _).mpr ⟨(Sg _ _).mpr ⟨rfl,hk'⟩,h⟩;have J:=I.PG G (by rw [s.ids,Bf]);have F8:=fu (P:=P) (g:=g) (K:=K) I G s hm;generalize e:L.nt (DZ E) (D2 (DZ E) L.told (L.C9.map (·.1)))=L2 at J F8;have s2:=e▸s.nt;have B2:oX qs K L2:=e▸B.cg rfl;have sp2:L2.spot<=5*m:=e▸sp;have hs2:L2.spot<=1000:=bg sp2 (bg (Pe 5 hm) (by decide));have s3:LS m L2.nx lv:=⟨s2.ids,s2.lP,s2.ht,s2.ce,Hg sp2,s2.ln,s2.fl⟩;have J3:S9 lv E L2.nx:=J.cg;refine k9 h4 (q8 F8 rt (kp rfl) (k9 h1 (q8 (SZ (by decide) hs2 (bg s2.ce (by decide)) rfl) rt (kp rfl) ?_)));by_cases x1:l7 L2.cells L2.spot 2=1
 ·refine D9 (Q8 x1) (k9 h4 (k9 h3 (q8 (cp J3.D7 J3.DT (s3.Ey hm) J3.S0 J3.good B2.eb.bk) rt (kp rfl) ?_)));exact q _ _ J3.ask (B2.cg rfl) ⟨s3.ids,s3.lP,s3.ht,s3.ce,s3.sp,s3.ln,s3.fl⟩
 ·exact v9 (H8 x1) (q _ _ J3 (B2.cg rfl) s3)
theorem home(F:p5 L gs)(e:KW gs):∃h,Hm (g8 gs) h/\(∀{g E},i7 P 1 .all 78 [.g9 .state] (hl P g K E L) (U2 gs) (hl P g K E L))/\∀{σ},i7 P 2 .all 77 [U2 gs] σ (.a9 (.bool (UI gs h))) σ:=
 (ew (wX e.ft) F.2).imp λh r=>⟨r.1,λ{g E}=>F.az,λ{σ}=>ip r.1.I.len e.ft F.2 r.2⟩
noncomputable abbrev ρ5(ns:Fd->Prop):dg (yg×AV):=[(0,.raw ns),(1,.g9 .feed),(2,.g9 .bank),(3,.g9 .house),(4,.g9 .state)]
noncomputable abbrev ρ7(ns:Fd->Prop)(x:kg)(d:vg):dg (yg×AV):=[(0,.raw ns),(1,.g9 .feed),(2,.g9 .bank),(3,.g9 .house),(4,.g9 .state),(5,iv x),(6,.a9 d)]
noncomputable def dF:M:=jT 7 (jF 79 (Y2 J4 J6)) (jI (.or (jE .isv J7 (jK .none)) (.not (.val (jF 77 (Y1 J7))))) (Yr (jK (.bool false))) jN (jI (jE .eq (jB .len (Y1 (jS J4 (Ys "levels")))) (Yi 1)) (Yr (jE .isnot (jM J3 35 jN) (jK .none))) jN (jX (jF 82 (Y3 J4 J3 (Yi 1))) jN)))
theorem JJ(I:Bas lv E L)(li:∃fs ps es Q,LI fs ps E.toCor E.trail.length es Q)(nw:NW E)(B:oX qs K L)(s:LS m L lv)(hm:m<=100)(hz:∀κ t,g.z κ t=false)(hc:E.u0=E.marks.length)(C:B4 (g8 (P4 lv)) (U8 (P4 lv)) l)(hr:∀c,kk (.ret (.a9 (.bool true))) c)
  (hq:∀g E lv' ρ' k,O5 [0,1,2,3,4] ρ'=ρ5 ns->ρ'.lookup 1=some (.g9 .feed)->ρ'.lookup 3=some (.g9 .house)->ρ'.lookup 4=some (.g9 .state)->xp ρ'=true->(ρ'.all λp=>gN .st p.2)=true->(∀κ t,g.z κ t=false)->Bas lv' E (L.back k)->z3 (P4 lv') E->LS m (L.back k) lv'->oX qs K (L.back k)->kk .next ⟨ρ',[],hl P g K E (L.back k)⟩):
  (A9 P 9 dF).b (.top,[]) ⟨ρ7 ns x (.list (zs l)),[],hl P g K E L⟩ kk:=by
 have cb:=dU I.S0 C;have F:=s.Ey hm;have F2:=I.S0.E8 (l:=l);have l2:(E8 (P4 lv) l).length<=1000:=bg (Df ..) F.2;refine q8 (fp F cb.1) rt rt ((ew (P:=P) (wX F2.ft) l2).elim λh r=> ?_);have T:=ip (σ:=hl P g K E L) r.1.I.len F2.ft l2 r.2;rw [(Ff (UI (E8 (P4 lv) l) h)).resolve_right λz=>cb.2.1 ((r.1.cons F2.ft).mp z)] at T;refine q8 T rt rt ?_;have ll:(L.ids.map λi=>AV.g9 (.lvl i)).length=lv.length:=(ng _).trans ((eg uc s.ids).trans Bf);have hl1:lv.length<=1000:=bg s.ln (bg (Hg hm) (by decide));refine⟨ll▸bg hl1 (by decide),?_⟩;rw [ll];by_cases r0:lv.length=1
 ·refine D9 (Q8 (eg Nat.cast r0)) ?_;have nl:=li.elim λfs q=>q.elim λps q=>q.elim λes q=>q.elim λQ W=>W.news nw;have told:∀t∈E.news,E.d8 t=some ((E.d8 t).getD none)/\j7 t=true:=λt m=>(nw.2 t m).elim λo h=>⟨by rw [h];rfl,li.elim λfs q=>q.elim λps q=>q.elim λes q=>q.elim λQ W=>(W.tk t o h).elim λa s=>s.elim λb s=>gK t (W.sk t a b s.1).1⟩;exact q8 (Bu told nw.1 (bg nl (by decide)) P {g with r:=rU L} K B.eb.bk λz' z' z=>(by nomatch z)) rt rt (hr _)
 refine v9 (H8 λz=>r0 (Int.ofNat.inj z)) ?_;have h1:0+1<lv.length:=by
  cases lv with
  |nil=>exact I.I5.elim
  |cons a lv=>exact We (Nat.pos_of_ne_zero λz=>r0 (eg (·+1) z))
 have ln:=I.D7.len;refine li.elim λfs q=>q.elim λps q=>q.elim λes q=>q.elim λQ W=>((I.pop hl1 W nw (.inr hc) h1).elim λE' z=>(z.1 P {g with r:=rU L} K B.eb.bk λκ t z'=>hz κ t).elim λg' w=> ?_);have w2:=w.2.2;rw [show hp P g' K E'=hl P g' K E' L from eg (λr=>hp P {g' with r:=r} K E') w.1] at w2;exact q8 (dp s.ids hl1 h1 I.D7.zt I.D7.nt ⟨bg ln.2.1 (by decide),bg ln.2.2 (by decide)⟩ w2) rt rt (hq _ _ _ _ _ rfl rfl rfl rfl rfl rfl (λκ t=>w.2.1▸hz κ t) z.2.1 z.2.2 ⟨by rw [Mc];rfl,s.lP.drop _,s.ht,s.ce,s.sp,bg (Bg (Mc ..)) (bg (Pc _ _) s.ln),bg (QV _) s.fl⟩ (B.cg rfl))
noncomputable def zK:M:=jX (jF 84 (Y5 J1 J4 J3 J2 (jO .mul (jO .add J5 (Yi 2)) (.ite (jE .eq (jO .mod J5 (Yi 2)) (Yi 0)) (Yi 1) (.neg (Yi 1)))))) (jT 6 (jM J3 8 jN) (jI (jE .ne (jE .isnot J6 (jK .none)) (jF 77 (Y1 (jF 78 (Y1 J4))))) (Yr (jK (.bool false))) jN (jI (jE .isnot J6 (jK .none)) dF jN cF)))
noncomputable def Sv:M:=jT 6 (jM J3 8 jN) (jI (jE .ne (jE .isnot J6 (jK .none)) (jF 77 (Y1 (jF 78 (Y1 J4))))) (Yr (jK (.bool false))) jN (jI (jE .isnot J6 (jK .none)) dF jN cF))
noncomputable def Pv(m:yg):kg:=((m:kg)+2)*(if(m:kg)%2=0 then 1 else-1)
theorem aF:∀m<6,Pv m∈[(-7),-5,-3,2,4,6]:=by decide
theorem DF(hm:m<6)(F:i7 P 9 .s2 84 [.g9 .feed,.g9 .state,.g9 .house,.g9 .bank,iv (Pv m)] (hl P g K E L) (.a9 .none) b')(q:(A9 P 9 Sv).b (.top,[]) ⟨ρ5 ns++[(5,iv m)],[],b'⟩ kk):(A9 P 9 zK).b (.top,[]) ⟨ρ5 ns++[(5,iv m)],[],hl P g K E L⟩ kk:=by
 haveI f:∀{b},IntMulOk _ b:=ė (intBits_le_64 (Int.lt_of_lt_of_le (by decide) (Int.add_nonneg (me m) (by decide))) (Fe (Int.add_le_add_right (Int.ofNat_le.mpr (Uf hm)) 2) (by decide)));refine⟨by decide,?_⟩;unfold Pv at F;by_cases e:(m:kg)%2=0
 ·rw [xg e] at F;exact D9 (Q8 e) ⟨f,Y8 F rt q⟩
 ·rw [og e] at F;exact v9 (H8 e) ⟨f,Y8 F rt q⟩
theorem lap(I:S9 lv E L)(B:oX qs K L)(s:LS m L lv)(hm:m<6)(hz:∀κ t,g.z κ t=false)(hr:∀c,kk (.ret (.a9 (.bool true))) c)
  (hq:∀g E L lv qs K ρ',O5 [0,1,2,3,4] ρ'=ρ5 ns->(∀κ t,g.z κ t=false)->S9 lv E L->oX qs K L->LS (m+1) L lv->kk .next ⟨ρ',[],hl P g K E L⟩):
  (A9 P 9 zK).b (.top,[]) ⟨ρ5 ns++[(5,iv m)],[],hl P g K E L⟩ kk:=by
 refine(xk I B s (bg (Uf hm) (by decide)) (aF m hm)).elim λE' r=>r.elim λL' r=>r.elim λlv' r=>r.elim λqs' r=>r.elim λK' r=>(r.1 P g hz).elim λg' w=> ?_;have s':=r.2.1.1;have sp':=r.2.1.2;have B':=r.2.2.1;have p:=r.2.2.2;have hm':m+1<=100:=bg (Nat.succ_le_of_lt hm) (by decide);refine DF hm w.2 ((home (P:=P) (K:=K') (s'.Ey hm') p.1.S0).elim λh H=>p.2.2.2.elim (λG=> ?_) λz=>z.elim λl z=> ?_)
 ·have C8:=l8 (λl z=>by rw [G.cl] at z;exact(by nomatch z)) P {g' with r:=rU L'} K' B'.eb.bk λz' z' z=>(by nomatch z);rw [G.cl] at C8;refine q8 C8 rt rt (q8 H.2.1 rt rt ?_);have T:=H.2.2 (σ:=hl P g' K' E' L');rw [(H.1.cons p.1.S0.ft).mpr G.cons] at T;exact q8 T rt rt (XR p.1 G B' s' sp' hm' rfl rfl rfl rfl rfl λE2 L2 J B2 s2=>hq _ _ _ _ _ _ (ρ7 ns m .none) rfl w.1 J B2 s2)
 ·have cb:=dU p.1.S0 z.2.2;have C8:=l8 (λl y=>by rw [z.1] at y;exact ig y▸bg (uR cb.1.1) (by decide)) P {g' with r:=rU L'} K' B'.eb.bk λz' z' z=>(by nomatch z);rw [z.1] at C8;refine q8 C8 rt rt (q8 H.2.1 rt rt ?_);have T:=H.2.2 (σ:=hl P g' K' E' L');rw [(Ff (UI (P4 lv') h)).resolve_right λy=>cb.2.2 ((H.1.cons p.1.S0.ft).mp y)] at T;refine q8 T rt rt (JJ p.1 p.2.1 p.2.2.1 B' s' hm' w.1 z.2.1 z.2.2 (λc=>hr c) λg2 E2 lv2 ρ' k e h1 h3 h4 k1 k2 hz2 I2 G2 s2 B2=> ?_);exact XR I2 G2 B2 s2 sp' hm' h1 h3 h4 k1 k2 λE3 L3 J B3 s3=>hq _ _ _ _ _ _ ρ' e hz2 J B3 s3
noncomputable def xA:M:=Yr (.DW (jF 83 (Y2 J4 J3)) (.one (jE .eq (.fz (jZ J8 [8] true (jS J4 (Ys "told")) (.not (.val (jF 80 (Y3 J4 J3 J8)))) [3,4])) (jP jN))))
theorem ux(I:S9 lv E L)(B:oX qs K L)(s:LS m L lv)(hm:m<=100)(j:∀c,kk (.ret (.a9 (.bool true))) c):(A9 P 9 xA).b (.top,[]) ⟨ρ5 ns,[],hl P g K E L⟩ kk:=by
 haveI F:=s.Ey hm;refine q8 (cp I.D7 I.DT F I.S0 I.good B.eb.bk) rt rt ?_;haveI J:=I.ask;generalize e1:({E with news:=[]})=r at J⊢;generalize e2:({L with fresh:=[]})=e at J⊢;haveI h:p5 e (P4 lv):=e2▸F.c rfl rfl;refine HN (τ:= .ltold) (eg (λb=>some (d9.M9 _ _)) J.D7.zt) bY rfl (iY (c:=true) rfl) (⟨b9 (b9 (bg J.D7.len.2.1 (by decide))),?_⟩);refine rL (Vg ..) (SI (λp m K q=> ?_) λy=> ?_)
 ·exact q8 (J.D7.dw rfl rfl (h.c rfl rfl) J.S0 J.good B.eb.bk (X7.mpr ⟨_,m⟩)) rt rt (q _)
 refine SU rfl rfl (b2:=hl P g K _ e) ((iY rfl).trans (eg _ (by have:=J.D7.zt;cases e;subst this;rfl))) ?_;exact j _
theorem eu(j:∀c,kk (.ret (.a9 (.bool true))) c):∀{N m g E L lv f K r},m+N<=6->O5 [0,1,2,3,4] r=ρ5 ns->(∀κ t,g.z κ t=false)->S9 lv E L->oX f K L->LS m L lv->
  (∀g E L lv f K,S9 lv E L->oX f K L->LS (m+N) L lv->kk .next ⟨ρ5 ns,[],hl P g K E L⟩)->lp ((A9 P 9 zK).b (.top,[])) (U5 true [5]) (IC.keep [0,1,2,3,4]) kk ((List.range' m N).map λ(i:yg)=>iv i) ⟨r,[],hl P g K E L⟩:=by
 intro N;induction N with
 |zero=>
  intro m g E L _ _ K r _ h _ I B s q;show kk .next ⟨O5 [0,1,2,3,4] _,_,_⟩;refine rL h ?_;exact q _ _ _ _ _ _ I B s
 |succ N p=>
  intro m g E L _ _ K _ hm h hz I B s q;haveI e:=(Af m N).symm;show(A9 P 9 _).b _ ⟨W9 (O5 [0,1,2,3,4] _) 5 _,[],hl P g K E L⟩ _;exact h▸lap I B s (Og (Hb (Cg m N)) hm) hz (λc=>j c) λg E L z' z' K z' h hz I B s=>(p (e▸hm) h hz I B s (e▸q))
noncomputable def wA:M:=jH false [5] true (jB .range (Y1 (jO .add (Yi 3) (jF 72 (Y2 J1 (Yi 4)))))) zK [0,1,2,3,4] xA
theorem bD(I:S9 lv E L)(B:oX qs K L)(f:L.spot=0)(s:LS 0 L.nx lv)(hz:∀κ t,g.z κ t=false)(j:∀c,kk (.ret (.a9 (.bool true))) c)(e:O5 [0,1,2,3,4] ρ=ρ5 ns)(r:ρ.lookup 1=some (.g9 .feed))(h:(ρ.all λp=>gN .st p.2)=true):(A9 P 9 wA).b (.top,[]) ⟨ρ,[],hl P g K E L⟩ kk:=by
 refine k9 r ((M4 (cs:=L.cells) (i:=L.spot) (N:=4) (by decide)).elim λk q=> ?_);refine q8 (SZ (by decide) (f▸by decide) (bg s.ce (by decide)) q.2) rt ((Sg _ _).mpr ⟨(Sg _ _).mpr ⟨rfl,h⟩,rfl⟩) ?_;haveI h:=Oe q.1;exact⟨⟨(me (3+k)),(Int.ofNat_le.mpr (bg (Eg h 3) (by decide)))⟩,(rL (show HB _=(List.range' 0 (3+k)).map λ(i:yg)=>iv i from by refine rR List.range_eq_range' ?_;rfl) (eu (kk:=IW _ _) j (bg (Bg (Tf _)) (Eg h 3)) e hz I.cg (B.cg rfl) s λg E L z' z' K I B s=>(ux I B s (bg (Bg (Tf _)) (bg (Eg h 3) (by decide))) j)))⟩
noncomputable def L0(cs:dg kg):Lw:=⟨cs.take 48,0,[0],λi=>if i=0 then some [] else none,TL,[],[],[],false,false⟩
noncomputable def h0(cs:dg kg):Tg->gg d9:=up (λz'=>none) .feed (vR (cs.take 48) 0)
noncomputable def h1(P:y8)(cs:dg kg):Tg->gg d9:=y0 (qY VJ) P.B (Y0 VJ) (up (h0 cs) .bank (.inst P.B []))
noncomputable def h2(P:y8)(cs:dg kg):q9:=iq (up (h1 P cs) .house (.inst P.C []))
noncomputable def s1(P:y8)(cs:dg kg):Tg->gg d9:=up (up (hp P (h2 P cs) KZ G9.nul) (.lvl 0) (.list true [])) .levels (.list true [.g9 (.lvl 0)])
noncomputable def s2(P:y8)(cs:dg kg):Tg->gg d9:=up (up (up (s1 P cs) .lwat (.M9 true [])) .ltold (.M9 true [])) .fresh (.list true [])
theorem mJ:up (s2 P cs) .state (.w8 (ID TL))=hl P (h2 P cs) KZ G9.nul (L0 cs):=funext λτ=>by
 cases τ with
 |ls k t=>cases k<;>rfl
 |C7 k=>cases k<;>rfl
 |lvl k=>cases k<;>rfl
 |_=>rfl
noncomputable def Rv:M:=jT 4 (jW .state (.dS (.pr (Ys "terms") (jF 73 (Y1 J2)) (.pr (Ys "levels") (jW .levels (jP (Y1 (jW (.lvl 0) (jP jN))))) (.pr (Ys "watched") (jW .lwat .dL) (.pr (Ys "told") (jW .ltold .dL) (.pr (Ys "fresh") (jW .fresh (jP jN)) jN))))))) wA
theorem qk:LS 0 (L0 cs).nx [[]]:=⟨rfl,⟨rfl,trivial⟩,rfl,Aa _ _,Ag 1,Ag 1,Ag 0⟩
theorem IJ(h:∀c,kk (.ret (.a9 (.bool true))) c):(A9 P 9 Rv).b (.top,[]) ⟨[(0,.raw ns),(2,.g9 .bank),(1,.g9 .feed),(3,.g9 .house)],[],hp P (h2 P cs) VJ G9.nul⟩ kk:=by
 refine q8 (Dk) rt rt (⟨E6,(λo e=>(by nomatch e)),j9 rfl ?_⟩);refine⟨(λv m=>List.mem_singleton.mp m▸rfl),(λo e=>(by nomatch e)),j9 rfl ?_⟩;refine⟨(λz' m=>(by nomatch m)),(λo e=>(by nomatch e)),j9 rfl ?_⟩;refine⟨(λz' m=>(by nomatch m)),(λo e=>(by nomatch e)),j9 rfl ?_⟩;exact⟨E6,(λo e=>(by nomatch e)),j9 rfl (⟨(λx v e=>(K8 e).elim (λe=>e.2▸rfl) λe=>(K8 e).elim (λe=>e.2▸rfl) λe=>(K8 e).elim (λe=>e.2▸rfl) λe=>(K8 e).elim (λe=>e.2▸rfl) λe=>(K8 e).elim (λe=>e.2▸trivial) λe=>(by nomatch e)),j9 mJ (bD HK ⟨EB.zero,uf,λz' m=>((by nomatch m)),λz' m=>((by nomatch m))⟩ rfl qk (λz' z'=>rfl) h rfl rfl rfl)⟩)⟩
end
section
variable{P:y8}{k:yg}{kk:KB}{o:d9}{ds:dg vg}{cs c:dg kg}
theorem dY{U:Tg->Prop}{s:yg}:(vR c s).keeps U:=λx v e=>(K8 e).elim (λe=>e.2▸trivial) λe=>(K8 e).elim (λe=>e.2▸trivial) λe=>(by nomatch e)
theorem GN{U:Tg->Prop}{τ:Tg}(e:h0 cs τ=some o):o.keeps U:=by
 by_cases q:τ= .feed
 ·haveI e:=q▸e;exact ig e▸dY
 ·exact nomatch (v8 q).symm.trans e
theorem UO{U:Tg->Prop}(e:ls ds=some o):o.keeps U:=ig e▸λz' m=>(List.mem_map.mp m).elim λz' e=>e.2▸trivial
theorem FM{U:Tg->Prop}(e:Y0 VJ k=some o):o.keeps U:=by
 rcases k with _|_|_|_|_|_|_|_|_|_|k
 case succ.succ.succ.succ.succ.succ.succ.succ.succ.zero=>
  exact ig e▸λx v e=>(K8 e).elim (λe=>e.2▸trivial) λe=>(K8 e).elim (λe=>e.2▸trivial) λe=>(by nomatch e)
 case succ.succ.succ.succ.succ.succ.succ.succ.succ.succ=>exact(by nomatch e)
 all_goals exact UO e
theorem FN{τ:Tg}(n:τ≠ .house)(e:h1 P cs τ=some o):o.keeps (·≠ .house):=by
 cases τ with
 |bank=>exact ig e▸λp m=>U7 (List.all_eq_true.mp (rfl:(qY _).all (λp=>nt .house _)=true) p m)
 |bk k=>exact FM e
 |feed=>exact ig e▸dY
 |ls k t=>cases k<;>exact(s9 e rfl).elim
 |C7 k=>cases k<;>exact(s9 e rfl).elim
 |_=>exact(s9 e rfl).elim
theorem uk(hz:cs.length<=1000)(hr:∀c,kk (.ret (.a9 (.bool true))) c):(A9 P 9 Xq).b (.top,[]) ⟨[(0,.raw (SJ cs))],[],λz'=>none⟩ kk:=by
 refine⟨cs,rfl,b9 (bg hz (by decide)),?_⟩;refine⟨bg (Aa _ _) (by decide),?_⟩;refine⟨(λx v e=>(K8 e).elim (λe=>e.2▸trivial) λe=>(K8 e).elim (λe=>e.2▸trivial) λe=>(by nomatch e)),j9 (σ':=h0 cs) ?_ ?_⟩
 ·unfold h0 vR zs;rw [<-Jb];rfl
 refine⟨8,rfl,.sU,_,(Hk rfl (λj=>rfl)).up (by decide),(λτ o h e=>GN e),N8 rfl ?_⟩;refine⟨8,rfl,.sU,_,(l0 rfl ⟨rfl,λk=>rfl⟩ (λk=>rfl)).up (by decide),(λτ o h e=>FN h e),N8 rfl ?_⟩;exact IJ hr
end
section
variable{W:Wd}{ns:dg kg}{vs:dg zg}{L c d:yg}{x y:Str}
theorem cN:À (L+1) (pg.sc 85).names []=[(S "state",L+1+1),(S "house",L+1)]:=by kernel_rfl
noncomputable def ax(L:yg):dg (Str×yg):=[(S "state",L+1+1),(S "house",L+1)]
theorem mY:(ax L).lookup x=some c↔(x=S "state"/\c=L+1+1)\/(x=S "house"/\c=L+1):=by
 refine rL th (rL th ?_);by_cases e:x=S "state"
 ·exact rL (xg e) (⟨λq=> .inl ⟨e,(ig q).symm⟩,λq=>q.elim (λq=>q.2▸rfl) λq=>absurd (e.symm.trans q.1) (by decide)⟩)
 ·refine rL (og e) ?_;by_cases a:x=S "house"
  ·exact rL (xg a) (⟨λq=> .inr ⟨a,(ig q).symm⟩,λq=>q.elim (λq=>(e q.1).elim) λq=>q.2▸rfl⟩)
  ·exact rL (og a) (⟨λq=>((by nomatch q)),λq=>q.elim (λq=>(e q.1).elim) λq=>(a q.1).elim⟩)
noncomputable def AF(nm:Str)(cd:zg)(fa L:yg):Ia:={envOfC nm (pg.sc 85) L fa cd with cells:=ax L}
theorem cw{nm:Str}{a:zg}{f:yg}:envOfC nm (pg.sc 85) L f a=AF nm a f L:=eg (λc=>{envOfC _ _ L _ _ with cells:=c}) cN
noncomputable def CF(nm:Str)(c:zg)(f L:yg):FD:=⟨callerA.deeper (AF nm c f L),AF nm c f L,[L,L+1+1,L+1],by kernel_rfl⟩
theorem sM(h:(ax L).lookup x=some c):c∈[L,L+1+1,L+1]/\L<c:=(mY.mp h).elim (λq=>by refine rL q.2 ?_;exact⟨.tail _ (.head _),Gb (be L)⟩) λq=>by refine rL q.2 ?_;exact⟨.tail _ (.tail _ (.head _)),be L⟩
theorem IK{P:y8}{nm:Str}{g:zg}{b L:yg}:FS ((CF nm g b L).f P 9):=
 ⟨(CF _ _ _ L).k,rfl,rfl,rfl,(by show 1+claimMargin+1+2*9<900;decide),(by show 4+3+20*9<9000;decide),λx y c e f=>(mY.mp e).elim (λp=>(mY.mp f).elim (λq=>p.1.trans q.1.symm) λq=>(Í _ (p.2.symm.trans q.2)).elim) λp=>(mY.mp f).elim (λq=>(Í _ (q.2.symm.trans p.2)).elim) λq=>p.1.trans q.1.symm,
  λx c e=>qd (sM e).2,.head _,λa h=>(List.mem_cons.mp h).imp id λh=>(List.mem_cons.mp h).elim (λe=>⟨_,mY.mpr (.inl ⟨rfl,e⟩)⟩) λh=>⟨_,mY.mpr (.inr ⟨rfl,List.mem_singleton.mp h⟩)⟩,λz' x c e=>(sM e).1,
  λx e=>Option.isSome_iff_exists.mp (show((ax L).lookup x).isSome=true from(show ax L=_ from cN.symm)▸Č _ _ _ (.inl e))⟩
theorem law_go(k:KF W.K){L D l:yg}{m:Str->gg zg}{C:zg}{nm:Str}{Q:Flow->Gg->Prop}{E:zg->Gg->Prop}{s:Gg}{B:dg Xf}{w A:Fd}(hB:B=pg.body 85)(F:Fr W.b L s.heap m)(G:News W.b L s.heap [(L+1+1,w),(L+1,A)])(J:∃v,w.data= .cell v)(M:∃v,A.data= .cell v)(hm:m (S "script")=some (.ref l))(hl:W.b.IsList l vs.toArray)(T:IntsAre vs ns)(hz:ns.length<=1000)
  (q:∀s',SS s s'->(∃I,Fr W.b L s'.heap I)->Q (.ret (.bool true)) s'):Yg (Mk W) (callerA.deeper (envOfC nm (pg.sc 85) L D C)) (execs B (envOfC nm (pg.sc 85) L D C)) Q E s:=by
 refine dC (id hl) λK R V n hd=> ?_;haveI Y:∀a,L<=a->W.b.get? a=none:=λa h=>Option.eq_none_iff_forall_ne_some.mpr λo e=>Nat.not_lt.mpr (bg F.above h) (de e);haveI c1:=l9 (l9 (l9 (l9 Pp).1).1).1;haveI hs:∀τ o,(L4 [] λz'=>none) τ=some o->False:=λτ o e=>by
  cases q:τ.ti with
  |none=>have e:=W8 q▸e;cases e
  |some _=>have e:=o4 q▸e;cases e
 haveI H:(pg.sc 85).names.lookup (S "script")=some .local:=by kernel_rfl
 refine((ok (P:=Sq W k) (BP (qg c1.1) c1.2) _).b _ _ _ (uk (kk:=λZ z'=>Z= .ret _) hz λc=>rfl) λτ o e=>(hs _ o e).elim).casesOn λZ z' X z' e1=> ?_;haveI X:=e1▸X;have p:∀x v,List.lookup x (yY Vq [(0,.raw _)])=some v->x=S "script"/\v= .raw _:=λx v e=>by
  haveI e:List.lookup x [(S "script",AV.raw (SJ ns))]=some v:=e;rw [xf] at e;split at e
  ·rename_i g;exact⟨beq_iff_eq.mp g,(ig e).symm⟩
  ·cases e
 haveI U:ST ((CF nm C D L).f (Sq W k) 9) (IC.cx _ ⟨[(0,.raw _)],[],λz'=>none⟩) ⟨W.b.get?,λz'=>none,λz'=>none,λz'=>0,λz'=>none⟩ s.heap:=
  ⟨⟨λa o e=>e,λa o e=>e.elim (F.keep a o) (nomatch ·),(λa z' o e=>(by nomatch e)),(λa z' o e=>(by nomatch e)),(λa o e=>(by nomatch e)),λτ o e=>(hs _ o e).elim,λτ o a e=>(hs _ o e).elim,λτ o a e=>(hs _ o e).elim,(λa z' e=>(by nomatch e))⟩,
   IK,⟨m,F.ns,λx v e z'=>by
    refine zA (p x v e) λd y=> ?_;subst d;subst y;exact⟨_,hm,l,K,rfl,R,V,_,n,hd,T⟩⟩,λx v e z=>by
    haveI z:=(p x v e).1▸z;exact z.elim (λz=>by cases H.symm.trans z) (λz=>by cases H.symm.trans z),λx c e=>(mY.mp e).elim (λq=>J.imp λv h=>q.2▸⟨w,(G _ (.head _)).1,h⟩) λq=>M.imp λv h=>q.2▸⟨A,(G _ (.tail _ (.head _))).1,h⟩,λa t=>Gh.O4 ⟨rfl,Y a ((λa t=>(List.mem_cons.mp t).elim (λe=>e▸Ag _) λt=>(List.mem_cons.mp t).elim (λe=>e▸bf (Gf _)) λt=>List.mem_singleton.mp t▸Gf _) a t),rfl,rfl⟩,λx c e=>⟨rfl,.inl (sM e).1⟩⟩
 refine Jg (X _ rfl B (hB▸(l9 Pp).2) _ s U) (λf z' r=> ?_) λz' z' z=>z.elim;obtain⟨G',_,u,⟨v,e,O⟩,N⟩:=r;exact rL e (rL (O) (q _ N (u.fr.ns.imp λI z=>⟨z.1,λb o e=>u.sr.y9 _ _ (.inl (u.sr.base _ _ e)),F.above⟩)))
end
namespace head
def tw10004968210546728623:=True
def tw10046488721125158466:=True
def tw10064413085623696276:=True
def tw1012307322726500892:=True
def tw10144926432722608811:=True
def tw10165431968968751118:=True
def tw10178686243629489081:=True
def tw10196448298402465541:=True
def tw10209039374229592208:=True
def tw10218059707884530613:=True
def tw102436769383368030:=True
def tw10245341562508545917:=True
def tw1026916259146773914:=True
def tw10288341847844054694:=True
def tw10289556748277466078:=True
def tw10310981372384372519:=True
def tw10313022789138511893:=True
def tw10323350097857441997:=True
def tw10326433227229921549:=True
def tw10333269780963272991:=True
def tw10338859181450622609:=True
def tw10343487397458017819:=True
def tw10390551338457105969:=True
def tw10403513753302479130:=True
def tw104248997913267698:=True
def tw10440470256551273718:=True
def tw10441500689708926378:=True
def tw10465892010561581982:=True
def tw10467852365440921670:=True
def tw10478411361968804352:=True
def tw10483051397799219287:=True
def tw10532295789626618253:=True
def tw10543712386442291379:=True
def tw10574963512794415595:=True
def tw1059163318146682468:=True
def tw10611000914816789194:=True
def tw10619135741265857928:=True
def tw10657940773215961958:=True
def tw10677006617423633188:=True
def tw10696463899954577153:=True
def tw10703926824214995897:=True
def tw10714201629055478824:=True
def tw10742104010770387711:=True
def tw10743851739164386354:=True
def tw10749026946326621215:=True
def tw10771887539982464465:=True
def tw10778376083544448290:=True
def tw10781547089232763873:=True
def tw10786028702629105334:=True
def tw10793811875839641842:=True
def tw10805854467555709794:=True
def tw10806634533459545381:=True
def tw1081918594029998349:=True
def tw10827897679061541192:=True
def tw10829295815040425643:=True
def tw10845594368882550940:=True
def tw10875764276356024609:=True
def tw10885930716135163624:=True
def tw10910662148547809146:=True
def tw10918473249476564785:=True
def tw10919377325588878479:=True
def tw10936523832443784857:=True
def tw1094486055635779632:=True
def tw10982946209367121509:=True
def tw11032554134783566749:=True
def tw11046677887984482611:=True
def tw1108876809500496841:=True
def tw11132521630908735952:=True
def tw11148025639844457423:=True
def tw11164902317844157328:=True
def tw11175660098989979826:=True
def tw11221188208691760953:=True
def tw11232978470920408358:=True
def tw1125208917562807246:=True
def tw11278131861169923487:=True
def tw11287203536343631484:=True
def tw11309609833603199455:=True
def tw11312444847361870107:=True
def tw11333961214768286601:=True
def tw11377860342115682839:=True
def tw11409394182237674072:=True
def tw11414849079480288724:=True
def tw11485815400417367690:=True
def tw11498089366116190899:=True
def tw11509219436781461689:=True
def tw11532515657967676718:=True
def tw11542963386671024406:=True
def tw1154745801677483937:=True
def tw11566841906782242053:=True
def tw11575903973748849822:=True
def tw11604614444025938197:=True
def tw11654851693395710637:=True
def tw11661065636700889516:=True
def tw11679397435755134892:=True
def tw11680863635135381657:=True
def tw11706630770760164152:=True
def tw11709681379492831003:=True
def tw11729432960898958820:=True
def tw11734387023926553616:=True
def tw11735541712165610263:=True
def tw11743441244443810487:=True
def tw11798683024389638473:=True
def tw11811601694450153820:=True
def tw11860589723203421292:=True
def tw11929757218136065980:=True
def tw11931330559654779212:=True
def tw11931392740866613471:=True
def tw11947121389895320567:=True
def tw1194786874175587333:=True
def tw11964108435493509918:=True
def tw11966087129274986415:=True
def tw11982184262622975068:=True
def tw12042323147584365760:=True
def tw12049423146163859425:=True
def tw12071836986092510387:=True
def tw12075202227317634358:=True
def tw12078229439370049644:=True
def tw12097889611720191176:=True
def tw12102787196800394369:=True
def tw12125221754952656040:=True
def tw12142385515706650059:=True
def tw12169433661247332737:=True
def tw12203473416507285816:=True
def tw1221140237713410010:=True
def tw12228158594811739220:=True
def tw12229761515936767099:=True
def tw12268107022977922378:=True
def tw12278463079101488128:=True
def tw12303835990030654623:=True
def tw12304027531897825301:=True
def tw12306518083596781285:=True
def tw12314344313618072767:=True
def tw12322725726572001430:=True
def tw12328297505516256082:=True
def tw12349259055231604262:=True
def tw12400829552769024433:=True
def tw12455520345694358024:=True
def tw1247117338844145269:=True
def tw1247440197491546652:=True
def tw12490366024630467340:=True
def tw12533188119829535936:=True
def tw12534521552944749137:=True
def tw12566224135570047525:=True
def tw12583066597068699183:=True
def tw1258453716306658304:=True
def tw12584948273278941721:=True
def tw12604432008983877658:=True
def tw12619512236032086282:=True
def tw12621192663148488146:=True
def tw12639482037638911433:=True
def tw12648024291328057292:=True
def tw12708123234126680708:=True
def tw12708590966113040610:=True
def tw12742234505937585760:=True
def tw12757151084355026914:=True
def tw1278451321631604521:=True
def tw12813849968160126556:=True
def tw12824015591217091490:=True
def tw12833563696867029993:=True
def tw12876724109531853304:=True
def tw12881004197342179623:=True
def tw12887062192404025258:=True
def tw12905125323518435587:=True
def tw12906616878968439657:=True
def tw12962800675557643984:=True
def tw12969973581304291635:=True
def tw12992531038351979029:=True
def tw13007202087462836646:=True
def tw13038121054318420537:=True
def tw13052173369479026832:=True
def tw13064243383841480089:=True
def tw13074133843078740547:=True
def tw13090210470212044747:=True
def tw13105012303010250491:=True
def tw13109634056560066191:=True
def tw13111057102255539402:=True
def tw13141228108489976410:=True
def tw13148544108415269593:=True
def tw13149666652136121732:=True
def tw1317351591387112958:=True
def tw13179102330720381960:=True
def tw13221240968849860500:=True
def tw13231323889132105171:=True
def tw1323558778686592361:=True
def tw13251416305544386811:=True
def tw13252064799419665012:=True
def tw13257972016065767947:=True
def tw13272653632137012334:=True
def tw1328941141683245047:=True
def tw13311012694725994139:=True
def tw13312725732919641165:=True
def tw13388910588309091474:=True
def tw13398390100420220105:=True
def tw13401292336569751603:=True
def tw13430421801755068649:=True
def tw13433233657428206792:=True
def tw13436008565774967011:=True
def tw13446957514743792861:=True
def tw13456512384384106229:=True
def tw13486987100687975238:=True
def tw13503784445409987810:=True
def tw13537632495512367073:=True
def tw13565100068041680847:=True
def tw13565670087438899335:=True
def tw1358449597577685809:=True
def tw13586621658033168467:=True
def tw13589924676094017053:=True
def tw13647467613375884496:=True
def tw1373012823760850595:=True
def tw13752030441720751821:=True
def tw13763259863565942290:=True
def tw13790758832561892277:=True
def tw13812406104552094168:=True
def tw13825956281807410768:=True
def tw13839247677454372258:=True
def tw13851134797264264420:=True
def tw13854868483263387329:=True
def tw13864285028588155430:=True
def tw13864736982000498215:=True
def tw13882234696957952739:=True
def tw13896250499497688330:=True
def tw13912586304887420795:=True
def tw13938314743558959367:=True
def tw14082094871413604490:=True
def tw14086282813714110018:=True
def tw14109380674944687050:=True
def tw1411274099146372379:=True
def tw14158428439919870864:=True
def tw14172424672946166034:=True
def tw14202255950262162344:=True
def tw14228115194959108029:=True
def tw14231805517815195468:=True
def tw14250243553150720892:=True
def tw14255320843353542408:=True
def tw14294982102292943780:=True
def tw14363887742018839356:=True
def tw14367920226926963119:=True
def tw14375063571132334751:=True
def tw14397015532696111410:=True
def tw14401466065109191019:=True
def tw14405755211371057577:=True
def tw14417383327440295455:=True
def tw1442861384686113144:=True
def tw14431188939852883394:=True
def tw14477604489051941744:=True
def tw14493282511541016206:=True
def tw14504264663935038925:=True
def tw14506496976691018925:=True
def tw1453673589703148230:=True
def tw14549435271706706224:=True
def tw14558566372639728533:=True
def tw14564241988698318373:=True
def tw14566449394318177135:=True
def tw14582795887350676893:=True
def tw14594217352909989919:=True
def tw14594469244564773350:=True
def tw14615677475450882168:=True
def tw14633424208812532277:=True
def tw14640619569106899106:=True
def tw1466144664807686202:=True
def tw14686138366110421397:=True
def tw14686663619095853031:=True
def tw14704451711062366978:=True
def tw14716760239956993399:=True
def tw14776828949437865282:=True
def tw14804807535031770434:=True
def tw14809388494844252968:=True
def tw14813904526722990485:=True
def tw14846908211111941746:=True
def tw1485951079949661044:=True
def tw14901954603512784952:=True
def tw14902749303576689216:=True
def tw14902837588030647693:=True
def tw14907395632340382734:=True
def tw14912406250155844462:=True
def tw14929068417886092385:=True
def tw14930278808943442820:=True
def tw14939700357920408252:=True
def tw14946424000415424946:=True
def tw14947980960965689406:=True
def tw14988240910421226704:=True
def tw15063069900258622093:=True
def tw1506493122784522776:=True
def tw15075481993605988605:=True
def tw150979079722049991:=True
def tw15099370444278567809:=True
def tw15106323820558608180:=True
def tw1511891059713779943:=True
def tw15128749181546931122:=True
def tw15138065235074995841:=True
def tw15152765047150231376:=True
def tw1515345725807219654:=True
def tw15161549903426448246:=True
def tw15182858166330841093:=True
def tw15185695549473199070:=True
def tw15201846218156111944:=True
def tw15202921462499427706:=True
def tw15225103352731655138:=True
def tw15228381388097102857:=True
def tw15266530685898783443:=True
def tw15279990767845995955:=True
def tw15311939220964185106:=True
def tw15318860832186169591:=True
def tw15329731994807047032:=True
def tw15332405847694572972:=True
def tw15359864109289789:=True
def tw15363273018220560083:=True
def tw15368349496343960223:=True
def tw15369050550832876565:=True
def tw15370769205218274421:=True
def tw15413299265640824211:=True
def tw15418431880819366655:=True
def tw15419450125499025513:=True
def tw15450062323825198675:=True
def tw15455170188983691658:=True
def tw15457526710863194040:=True
def tw15472401753886037627:=True
def tw1547330158025341957:=True
def tw15489742176703056555:=True
def tw1550954271274045814:=True
def tw15517624276369520:=True
def tw15520181941019334340:=True
def tw15527012874900490798:=True
def tw15553797352527871753:=True
def tw15554606659924641141:=True
def tw15572949344126905646:=True
def tw15631718473216897701:=True
def tw15647054619291945445:=True
def tw15650233195626454259:=True
def tw15654466625531938742:=True
def tw1567440863127649582:=True
def tw1567943673962162336:=True
def tw1568912342305137357:=True
def tw15738198401836456268:=True
def tw15785167706613062101:=True
def tw15792559764004085117:=True
def tw15797262173011076727:=True
def tw15830968035239220771:=True
def tw15880288827581452567:=True
def tw15893317856969978209:=True
def tw15911472369724303455:=True
def tw15912091044079083978:=True
def tw15925507543600243961:=True
def tw15929665536996360311:=True
def tw15938720242040571570:=True
def tw15949383635835789312:=True
def tw15974479345488772459:=True
def tw15987298236799223137:=True
def tw1599018632521883147:=True
def tw15991991953990720742:=True
def tw15996041460632315918:=True
def tw15996938239223969416:=True
def tw15997579793656432842:=True
def tw16002366332284682119:=True
def tw16030568412080735523:=True
def tw16055707317498819497:=True
def tw16068889945890959238:=True
def tw16102659116359997740:=True
def tw16138420628824636225:=True
def tw16149152401294737200:=True
def tw16170722059020510766:=True
def tw16256651097423524758:=True
def tw16293861684877478311:=True
def tw16297892007826214052:=True
def tw16299635379590263345:=True
def tw16358555599909018182:=True
def tw16361214446219043315:=True
def tw16392708975658356464:=True
def tw16415695218750827382:=True
def tw16460313092685165067:=True
def tw16470738274083341248:=True
def tw16503587982116582554:=True
def tw16531991790674821415:=True
def tw16551592612956221458:=True
def tw16554526779789546084:=True
def tw1656181690755500009:=True
def tw16581240675931604764:=True
def tw16623005101582439649:=True
def tw1662621770911083758:=True
def tw16638095363847938142:=True
def tw16668052298274276781:=True
def tw16692537232037948051:=True
def tw16728021840846876412:=True
def tw16729595403625350564:=True
def tw16777521522860482247:=True
def tw16797182098154794100:=True
def tw16840755293988039984:=True
def tw16854100568098985125:=True
def tw16880951475479886921:=True
def tw1688876610941822724:=True
def tw16913527823740358691:=True
def tw16936995887192446143:=True
def tw16951711990063688785:=True
def tw16979452091659690644:=True
def tw17013429710562117009:=True
def tw1705665465591260045:=True
def tw17097786386387354645:=True
def tw17100331334522449688:=True
def tw17132605601930520564:=True
def tw17139050826911359295:=True
def tw17143094881623060519:=True
def tw17155148735901461053:=True
def tw17165501156494301525:=True
def tw17201647169419101183:=True
def tw17237208602118822938:=True
def tw17263427690546889705:=True
def tw17292970962960149322:=True
def tw17297219793221002926:=True
def tw17333868739752232385:=True
def tw1735712362863950725:=True
def tw1737130595558553925:=True
def tw17391939332154934924:=True
def tw17393854343980579928:=True
def tw17407171449609617371:=True
def tw17421213231281661734:=True
def tw17431456679323178533:=True
def tw17455982768175728529:=True
def tw17484823706847619055:=True
def tw17500755431956896192:=True
def tw17506308255386958906:=True
def tw17510926542512762430:=True
def tw17546743832020271483:=True
def tw17547070963897388926:=True
def tw17567876552396240469:=True
def tw17576387167790452266:=True
def tw17576806870698252327:=True
def tw17589853756644411302:=True
def tw17594429827846230351:=True
def tw17608012506762601549:=True
def tw17613311456908602385:=True
def tw17618437575947658335:=True
def tw17630976985212021252:=True
def tw17644897776439644728:=True
def tw17650822020619547663:=True
def tw1765596292035907629:=True
def tw17682342131244598394:=True
def tw17708814002326905842:=True
def tw17713489380645325301:=True
def tw17743693862729980614:=True
def tw17803472654852465174:=True
def tw17840676843927578194:=True
def tw17841386997120191728:=True
def tw17856491329550843911:=True
def tw17870151092536345100:=True
def tw17879266493245626914:=True
def tw17929221164090874782:=True
def tw17981709744806268:=True
def tw17994589576782617821:=True
def tw18002631600328936663:=True
def tw18027623137396611546:=True
def tw1803827914629316465:=True
def tw18039750520779619118:=True
def tw18071378121363579176:=True
def tw18104016066901283141:=True
def tw18126802804303514045:=True
def tw18129246944988500376:=True
def tw18179354985623308581:=True
def tw18185829208802879769:=True
def tw18218894547561957484:=True
def tw18231679819947193826:=True
def tw18245091190975670729:=True
def tw18255462893550846401:=True
def tw18277882096832908412:=True
def tw18289451761536356138:=True
def tw18290675023729231418:=True
def tw18308072863541763719:=True
def tw18349109515238182760:=True
def tw18374166688396529900:=True
def tw18405740669185776274:=True
def tw18407380456907040068:=True
def tw1844467570389974658:=True
def tw1865247970343085854:=True
def tw1865986355926888367:=True
def tw1871131430832029716:=True
def tw1881055677477116581:=True
def tw1901947026874951026:=True
def tw1903809553442905389:=True
def tw1926143298797657736:=True
def tw1940695373123240344:=True
def tw1944605091054254097:=True
def tw1977347409374276855:=True
def tw1987557369150731712:=True
def tw1988755030936440388:=True
def tw1998152975310809562:=True
def tw2005824559283308544:=True
def tw2007915535196607075:=True
def tw2011731968932453:=True
def tw2043087103621964997:=True
def tw2043889385310230855:=True
def tw204814726684615984:=True
def tw2064619252918735094:=True
def tw2065884973380166366:=True
def tw2078090517514532923:=True
def tw2080864317826152883:=True
def tw2088969971902092759:=True
def tw2110877475482146926:=True
def tw2118006493534568469:=True
def tw2120349209514560818:=True
def tw2124781625166719259:=True
def tw2131911711366185128:=True
def tw2134257966403761398:=True
def tw215088660058033229:=True
def tw2169281033359032037:=True
def tw2211164086160396607:=True
def tw2229781084959714832:=True
def tw2300749246909507682:=True
def tw2323926309532271586:=True
def tw2336261679802283833:=True
def tw2369519236851512631:=True
def tw2373247585403660244:=True
def tw2398718288924477558:=True
def tw2422478181749461736:=True
def tw2423416151595942688:=True
def tw2430787486173218795:=True
def tw2431657681545466639:=True
def tw2439738643158869041:=True
def tw2441318031446764311:=True
def tw2453521283205649659:=True
def tw245658227047641187:=True
def tw246766493212783410:=True
def tw2468129496273715989:=True
def tw2469965030768400839:=True
def tw2587074192816195084:=True
def tw2598828398090235752:=True
def tw2608704221948599230:=True
def tw2611384508635057486:=True
def tw2624494413115057283:=True
def tw2643138091564768330:=True
def tw265169152525730486:=True
def tw2670417021402637304:=True
def tw2674806861483370198:=True
def tw2684990472390245953:=True
def tw2688960552751689224:=True
def tw2694128037389889325:=True
def tw2714067042623201800:=True
def tw2736538178757748039:=True
def tw2755820643727113742:=True
def tw2760578795835352852:=True
def tw2762088878838790826:=True
def tw2782546592773990476:=True
def tw278581248325843523:=True
def tw2829670097903492755:=True
def tw2841162563835548407:=True
def tw2851065943783126841:=True
def tw28651559375178625:=True
def tw2869377799857603687:=True
def tw2890209865472221383:=True
def tw2894152552507235424:=True
def tw2915901929375252862:=True
def tw2918443117542427209:=True
def tw2919749146745499586:=True
def tw2960898139891119717:=True
def tw298335191302580495:=True
def tw2990656774574987593:=True
def tw2993739083611638239:=True
def tw3003217347886287976:=True
def tw3052639238020543699:=True
def tw3077082300529035021:=True
def tw3087972217934253931:=True
def tw3097101300178927752:=True
def tw3111883404516310774:=True
def tw3135906202827797507:=True
def tw3146642883932764321:=True
def tw3154329806151034382:=True
def tw3170996000379527775:=True
def tw3202537428888129816:=True
def tw3241465772588796232:=True
def tw3244887638059355566:=True
def tw3248080294440303433:=True
def tw327085425411541729:=True
def tw3334355388040290027:=True
def tw3334692418263973119:=True
def tw3343984374828313861:=True
def tw3366343033411239668:=True
def tw3382608214973111774:=True
def tw3398423038984232883:=True
def tw3421387750874743176:=True
def tw3442542328804436530:=True
def tw3515292167392647833:=True
def tw3539023208464144308:=True
def tw3563018587571817148:=True
def tw3563479953845385512:=True
def tw35754638678869335:=True
def tw3600112065676380631:=True
def tw360943114214951545:=True
def tw3610420016983457965:=True
def tw3635525712308927271:=True
def tw364950591144210386:=True
def tw3664162495101484743:=True
def tw368270107659410887:=True
def tw3706193764460939757:=True
def tw3719757830788971985:=True
def tw3729568987708025634:=True
def tw3735690946278787565:=True
def tw3752576746709973395:=True
def tw3777320951872502428:=True
def tw379154397386507432:=True
def tw3796036621921146727:=True
def tw3803949532724674133:=True
def tw3824990019111102402:=True
def tw384100419241242765:=True
def tw3869182881569682240:=True
def tw3897190675560765510:=True
def tw3905749787061621520:=True
def tw3919622968385735570:=True
def tw3922205187945754679:=True
def tw3941796469025250358:=True
def tw4038296290503734956:=True
def tw4050939481493077499:=True
def tw4060700195381250067:=True
def tw4063569851180352202:=True
def tw4067203111510269444:=True
def tw4116136491773717686:=True
def tw4167199826336633745:=True
def tw4238889034677794361:=True
def tw4240350817474645616:=True
def tw4252894043837469053:=True
def tw4255666144921013795:=True
def tw4274313052582936651:=True
def tw4286042419483694078:=True
def tw4293379382155133889:=True
def tw4308027884169681377:=True
def tw4356994229188071200:=True
def tw4371241328660312010:=True
def tw4380319847576138298:=True
def tw4439044264226220048:=True
def tw4443641541309057203:=True
def tw4463040190649093840:=True
def tw4477118761818678279:=True
def tw4481052934663621475:=True
def tw4486621872756073951:=True
def tw4500438253849987814:=True
def tw4500565936341979993:=True
def tw4517080872264363356:=True
def tw4522409042203475749:=True
def tw4544289106498852243:=True
def tw4550462689801330482:=True
def tw4567146139349149416:=True
def tw458149121178462182:=True
def tw460493647788064181:=True
def tw4606372426461951411:=True
def tw4657073311724733658:=True
def tw4664621624991227399:=True
def tw4696402877033576756:=True
def tw4698016838820866720:=True
def tw4720382259942339842:=True
def tw4723723271744914184:=True
def tw4736740407286332697:=True
def tw4752274641016097417:=True
def tw4766937966870788380:=True
def tw4773304924162895731:=True
def tw4791830553219477182:=True
def tw4804523201834689056:=True
def tw4811286922782717070:=True
def tw4819178420594143062:=True
def tw4872695887633465018:=True
def tw4903428944905943755:=True
def tw4906231476152928751:=True
def tw4925291594519982632:=True
def tw4928989890952316381:=True
def tw4950721183540625033:=True
def tw4958055551472059035:=True
def tw4986859925826892238:=True
def tw5012512282137399879:=True
def tw5014626033260886234:=True
def tw5024588561011540511:=True
def tw5056389538755327401:=True
def tw5063786239965550723:=True
def tw5066669096059514188:=True
def tw50896459018227149:=True
def tw5091507448127722942:=True
def tw512018409098999112:=True
def tw5141336605604451889:=True
def tw514689421400378322:=True
def tw5151289576439492714:=True
def tw5152520497178031707:=True
def tw5155368293660787195:=True
def tw5161104113109860643:=True
def tw5180793443103303352:=True
def tw5190979149539639286:=True
def tw5206473230331900655:=True
def tw5209762194143493600:=True
def tw5212489079905177048:=True
def tw5212892116570103733:=True
def tw5219666640404862078:=True
def tw5233028440317534579:=True
def tw5281672172050905356:=True
def tw5294638443716959948:=True
def tw5305130906047112220:=True
def tw5317467589269379190:=True
def tw533293232872092415:=True
def tw5333940447847632476:=True
def tw5356129408469544919:=True
def tw5357483711101957424:=True
def tw53577880732208605:=True
def tw5360606905099673783:=True
def tw5367720379555559809:=True
def tw5387168689241914674:=True
def tw5389298798316334207:=True
def tw5394941613023254383:=True
def tw5447340478814526834:=True
def tw54855423550623310:=True
def tw5495607003866541921:=True
def tw5509060068099777413:=True
def tw5531843404549935594:=True
def tw5537773006019800010:=True
def tw5575261005901118753:=True
def tw5585298417887737123:=True
def tw5619015460091722138:=True
def tw5624202546242894388:=True
def tw562981246559913779:=True
def tw5636203721351222531:=True
def tw565821351612907790:=True
def tw5659527908169790468:=True
def tw5681861815129081166:=True
def tw5685686986798369517:=True
def tw5704201658500131572:=True
def tw573855439382118019:=True
def tw574299539326718891:=True
def tw575952367332253668:=True
def tw5761873415233972741:=True
def tw5763261649813281321:=True
def tw581329805104468181:=True
def tw5822558752609508091:=True
def tw5831084495787454658:=True
def tw5841653695726307987:=True
def tw5853792966756943488:=True
def tw5860108684231725331:=True
def tw5888525843779206497:=True
def tw5916877048245317213:=True
def tw5977049746020086556:=True
def tw5987770974067822719:=True
def tw600998845896309522:=True
def tw6015909709239590028:=True
def tw6056312283027283868:=True
def tw6068694611635865590:=True
def tw6106758186589717010:=True
def tw6112729762522461468:=True
def tw6118928204495084398:=True
def tw6131334067915698399:=True
def tw6151381817749291079:=True
def tw6152317046425230877:=True
def tw6157534640335305333:=True
def tw6163553270827759087:=True
def tw6166150500733165240:=True
def tw6176450103178853079:=True
def tw6200549489047768835:=True
def tw6204776756014468711:=True
def tw6220086916755017475:=True
def tw6295136114372876325:=True
def tw6302871324792935842:=True
def tw6306348304699022004:=True
def tw6326262103661479924:=True
def tw6345962803626072704:=True
def tw6360992666864919060:=True
def tw6411576796020146635:=True
def tw6441196650915534850:=True
def tw6486626807529291079:=True
def tw6501993735153680131:=True
def tw6515405409101657212:=True
def tw6536087584392566282:=True
def tw6556444311515432407:=True
def tw6558063594523118537:=True
def tw660241337831805204:=True
def tw6621614135285147381:=True
def tw6630738010656775419:=True
def tw6683920079252563978:=True
def tw6719656258133677700:=True
def tw672570726121695013:=True
def tw6747066739558179449:=True
def tw6748114179996522941:=True
def tw6750202040354555455:=True
def tw676965902777963080:=True
def tw6786778168509544517:=True
def tw682274491873781752:=True
def tw6823611985272463914:=True
def tw6835922771926613386:=True
def tw6846318180604402755:=True
def tw68791429988877841:=True
def tw6929394149058840621:=True
def tw6942814329375804992:=True
def tw695893946633948039:=True
def tw6962018899104020525:=True
def tw6984558992135690208:=True
def tw6991033499335250837:=True
def tw7002126486309990682:=True
def tw7004043142383214097:=True
def tw70407987180004669:=True
def tw7043688390471808656:=True
def tw7087371699663613359:=True
def tw7143396152686458431:=True
def tw7174902123892306615:=True
def tw7190595422212573131:=True
def tw7193755697066404029:=True
def tw7199030120425877829:=True
def tw7223094090682507471:=True
def tw7258877458190152819:=True
def tw7264651287706605586:=True
def tw727871655853585494:=True
def tw7288914432739094182:=True
def tw7376887436866901289:=True
def tw7398455674930932470:=True
def tw7406353873031182458:=True
def tw7453933950953202983:=True
def tw7456361490076408009:=True
def tw7468600366217884352:=True
def tw7487491745404429767:=True
def tw7527910484675740831:=True
def tw7528653340019378867:=True
def tw7549307538722317195:=True
def tw756069217127356742:=True
def tw7561941497841929019:=True
def tw7565973642626116232:=True
def tw7594393393143898134:=True
def tw7630614333878801388:=True
def tw7631663945417758667:=True
def tw7648735959780661627:=True
def tw7651935194775108272:=True
def tw7653770046041843074:=True
def tw7658535187610471328:=True
def tw7669542570389801355:=True
def tw7685603406797835371:=True
def tw7692529387714484404:=True
def tw7706266995361183031:=True
def tw7717097885034689735:=True
def tw7739960990069688279:=True
def tw7742056743536037903:=True
def tw7800988372487446763:=True
def tw7807750171704021493:=True
def tw7810815386330201434:=True
def tw7828029103933373108:=True
def tw7840641359469246451:=True
def tw7842224052649319562:=True
def tw7871040755861822600:=True
def tw7871400988371781522:=True
def tw7876380749562137144:=True
def tw78849457177150641:=True
def tw7887325764628733692:=True
def tw7914099146338004751:=True
def tw7918417721700312308:=True
def tw7934260813177360937:=True
def tw7950528230231018194:=True
def tw7980799833586399067:=True
def tw8025419442395314943:=True
def tw8035035416736859024:=True
def tw8053394759554831559:=True
def tw8091988528312788240:=True
def tw8122885039181923333:=True
def tw8143839383226190842:=True
def tw8164521253129739317:=True
def tw8173076531526851503:=True
def tw819674490487190345:=True
def tw8230188563286494058:=True
def tw8240196137473303414:=True
def tw8248575341118134407:=True
def tw8273974295544231241:=True
def tw8281194103447150273:=True
def tw8291344588662555915:=True
def tw8294512905778329867:=True
def tw829481414352493308:=True
def tw8300548885825651709:=True
def tw8300570662155676107:=True
def tw8317966185173962836:=True
def tw8321119226527775237:=True
def tw8333125123008790743:=True
def tw8333159287748754907:=True
def tw8341041181660773101:=True
def tw8343031900333054849:=True
def tw8348840159727542264:=True
def tw8350303324170192991:=True
def tw8352361911407452151:=True
def tw8363271796746967752:=True
def tw8374713163410265017:=True
def tw8376988493439413397:=True
def tw8380034559641552496:=True
def tw8383906017190836089:=True
def tw8397667373497710178:=True
def tw8406964992398057563:=True
def tw8427403130609186562:=True
def tw8457352393125183420:=True
def tw8470793768573589947:=True
def tw8488015001772446612:=True
def tw8491820067614933743:=True
def tw8498120614926182078:=True
def tw8519620345645670909:=True
def tw8564634812336065805:=True
def tw8568197537054905324:=True
def tw8675860802291742457:=True
def tw8691739093245523341:=True
def tw8702156241834018706:=True
def tw8708866331712903190:=True
def tw8712476970917502265:=True
def tw871252903898582465:=True
def tw8730119747510088245:=True
def tw8740491119249365079:=True
def tw8755073441035686192:=True
def tw8792897344874033733:=True
def tw8794538426755590552:=True
def tw8799397525684243439:=True
def tw8828762066905357110:=True
def tw8839027191431993605:=True
def tw885467010654446384:=True
def tw8882645185676685445:=True
def tw8939615490272855926:=True
def tw8957747082342985962:=True
def tw9021974018963436649:=True
def tw9026177583158334158:=True
def tw9033182001766740417:=True
def tw9060807947222167450:=True
def tw9063132295611338571:=True
def tw9066055609438617168:=True
def tw9094184492450977180:=True
def tw9138265704962542843:=True
def tw9149885144370575409:=True
def tw9178964171498209538:=True
def tw9188221901137457004:=True
def tw9194472977650436620:=True
def tw9199512911541942346:=True
def tw9204440531228079312:=True
def tw9208760602289501594:=True
def tw9216089146854100675:=True
def tw9217025424471583602:=True
def tw9256776686342206158:=True
def tw9258970225585006825:=True
def tw9270267985669984014:=True
def tw9287645345724030290:=True
def tw9326032329367935924:=True
def tw9343841776052470216:=True
def tw9360740354718025040:=True
def tw9372715231738170429:=True
def tw9417891802631395052:=True
def tw9434034715570441583:=True
def tw9438585840210694724:=True
def tw9456725078930572920:=True
def tw946311343286843416:=True
def tw9486179325711558089:=True
def tw9514788811957211624:=True
def tw9537380183471018052:=True
def tw9548861120244870157:=True
def tw9554088087165546030:=True
def tw9562597414353034826:=True
def tw9579116799109589182:=True
def tw9633808310430400454:=True
def tw9634045303191909956:=True
def tw9656145585253418624:=True
def tw9686857981684724386:=True
def tw969033425148315049:=True
def tw9694607215696738205:=True
def tw9705949629460322717:=True
def tw9714301357038778298:=True
def tw9714425267121465612:=True
def tw9738642721323792858:=True
def tw9750375429457580736:=True
def tw9788767914283571400:=True
def tw9790775765945250498:=True
def tw9818290015504433494:=True
def tw985719481007450075:=True
def tw9878117098344619581:=True
def tw9893352306937984402:=True
def tw994578777664213213:=True
def tw9991829656483592240:=True
def tw9993300197053530983:=True
def tw9995642456277745493:=True
end head
open PySem PySem.W PyProof.Rows
set_option Elab.async true
set_option tactic.hygienic true
set_option maxHeartbeats 8000000
theorem head : PySem.Challenge.rw_nz0156_01.Holds := by
  (w_on; o_law; k_head; (case hw => w_witness2); w_strict (k_go0; (all_goals try k_fold); refine law_go (W := Wd.mk _ _ _ _ _ _ _ _ ‹Frag.In _ _› (topRead_of ‹Top _ _ _ _ _ _›)) ?zkf ?zhB ‹Fr _ _ _ _› ‹News _ _ _ _› ?zh1 ?zh2 ?zhm ‹Heap.IsList _ _ _› ‹IntsAre _ _› ?zhz ?zq; (case zkf => constructor <;> kernel_rfl); (case zhB => kernel_rfl); (case zh1 => exact ⟨_, by assumption⟩); (case zh2 => exact ⟨_, by assumption⟩); (case zhm => rfl); (case zhz => exact Int.ofNat_le.mp (Int.le_trans (Int.not_lt.mp ‹¬ _ < (_ : Int)›) (by decide))); (intro s' hs hF; obtain ⟨m', F'⟩ := hF; obtain ⟨g1, g2, g3⟩ := hs; refine goodW_bool (b := true) F' (g1.trans ‹_›) (raisesW_false ?hn) ?hp g3); (case hn => wrow_none_raised); (case hp => first | rfl | kernel_rfl | (simp; done))))
end Mine.Internal
theorem PySem.Challenge.cw_nz0156_01_holds : PySem.Challenge.rw_nz0156_01.Holds := by
  exact Mine.Internal.head
