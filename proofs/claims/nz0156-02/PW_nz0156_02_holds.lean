import PyProof.Rows.All
import Wide.All
import OpenK.AllK
import Wide.FinOn
import Wide.Txt2
import PySem.Challenge.RW_nz0156_02
set_option Elab.async false
set_option maxRecDepth 100000
set_option linter.unusedVariables false
set_option maxHeartbeats 4000000
set_option genSizeOfSpec false
set_option genInjectivity false
set_option genSizeOf false
set_option bootstrap.genMatcherCode false
set_option compiler.extract_closed false
namespace Mine.Internal
open PySem PySem.W PySem.Calls PyProof.Rows PySem.SeqAt PySem.Challenge
theorem nq1 {α : Type} {a : α} {P : Prop} (h : none = some a) : P := by cases h
theorem nq2 {P : Prop} (h : false = true) : P := by cases h
theorem nq3 {α : Type} {a : α} {P : Prop} (h : a ∈ ([] : List α)) : P := (List.not_mem_nil h).elim
theorem nq4 {α : Type} {a : α} {P : Prop} (h : some a = none) : P := by cases h
local macro_rules | `(tactic| nomatch $e:term) => `(tactic| first | exact nq1 $e | exact nq2 $e | exact nq3 $e | exact nq4 $e | cases $e:term)
open _root_.Nat renaming le_trans->ja,le_refl->jc,le_of_eq->jd,le_add_right->ji,succ_le_succ->jm,zero_le->jo,lt_of_le_of_lt->jq,add_le_add_left->jv,lt_of_lt_of_le->kg,le_succ->ko,le_of_succ_le->qg,add_assoc->qh,le_of_lt->qk,le_succ_of_le->qm,zero_add->qn,not_lt->qr,ne_of_lt->qw,succ_pos->qy,add_comm->we,succ_add_eq_add_succ->wg,add_right_comm->wo,lt_succ_self->wq,le_of_ble_eq_true->wx,add_le_add->xc,ne_of_gt->xf,succ_lt_succ->xi,zero_lt_succ->xk,add_le_add_right->xl,le_of_not_lt->xw,le_antisymm->xy,le_of_lt_succ->xz,lt_add_of_pos_right->ya,lt_of_succ_lt_succ->yb,add_left_cancel->yi,mul_le_mul_left->ym,add_sub_cancel->yo,add_sub_cancel'->yq
open _root_.List renaming length_map->jb,length_append->je,mem_map->jf,mem_singleton->jg,mem_cons->jh,append_nil->jk,map_map->jt,getElem?_map->jw,append_assoc->jy,map_cons->jz,mem_append->ke,lookup_cons->kf,map_append->kh,mem_append_left->ki,nodup_cons->kj,mem_filter->kr,mem_append_right->qc,forall_mem_cons->qd,all_eq_true->qf,getElem?_eq_getElem->qo,nodup_nil->qt,length_range->qx,mem_range->wd,isEmpty_iff->wi,length->wj,length_filter_le->wm,toArray->wy,find?_cons->xd,any_cons->xe,map_congr_left->xg,getElem?_eq_some_iff->xh,map_take->xj,filter_cons_of_neg->xo,mem_of_getElem?->xp,filter_cons_of_pos->xq,any_eq_true->xt,size_toArray->xu,mem_reverse->xx,cons_eq_cons->yc,reverse_cons->yd,filter_eq_self->yf,filter_cons->yg,getElem?_append_right->yk,idxOf?_cons->yl,getElem?_set_self->yp,getD_eq_getElem?_getD->yt
open _root_.Bool renaming and_eq_true->jp,false_ne_true->jx,or_eq_true->qi,eq_false_iff->xv,not_eq_true'->yj
open _root_.Array renaming length_toList->ju,getElem?_toList->wp,toList_push->ye,toList_append->yh,getElem?_eq_getElem->yr,getD_eq_getD_getElem?->yu,perm_iff_toList_perm->yv
open _root_.Option renaming isSome->kq,eq_none_iff_forall_ne_some->qp,isSome_iff_exists->wn,isSome_map->wu
open _root_.Int renaming ofNat_lt->qz,add_sub_cancel->wc,natCast_nonneg->wz,ne_of_lt->xm,sub_add_cancel->xn,lt_of_le_of_lt->xr
open PySem renaming wpAny_bind->wB,wpAny_pure->wP,wpAny_mono->wM
theorem cGx.{u,v} {α : Sort u} {β : Sort v} {a b : α} (f : α -> β) (h : a = b) : f a = f b := congrArg f h
theorem oDx {p : Prop} [Decidable p] (h : decide p = true) : p := of_decide_eq_true h
theorem dTx {p : Prop} [Decidable p] (h : p) : decide p = true := decide_eq_true h
theorem dFx {p : Prop} [Decidable p] (h : ¬ p) : decide p = false := decide_eq_false h
theorem sJx {α : Type _} {a b : α} (h : some a = some b) : a = b := Option.some.inj h
section
set_option genCtorIdx false
inductive KI where
 |int (i:Int)
 |str (s:Str)
 |tup (l:List Int)
noncomputable def KI.ctorIdx(x:KI):Nat:=KI.casesOn x (λ_=>0) (λ_=>1) (λ_=>2)
deriving noncomputable instance DecidableEq for KI
noncomputable def KI.dat:KI->PyData
 | .int i=> .int i
 | .str s=> .str s
 | .tup l=> .tuple (l.map .int)
noncomputable def KI.draws:KI->Nat
 | .int _=>1
 | .str _=>1
 | .tup l=>l.length+1
noncomputable def KI.hash(prog:Program)(w:World):KI->Int
 | .int i=>hashInt i
 | .str s=>hashStr w s
 | .tup l=>tupleKeyHash (intKind prog w) l
theorem Hu{α:Type}[DecidableEq α]{f:α->PyData}(h:∀a b,PyData.eqv (f a) (f b)=decide (a=b)):∀a b:List α,PyData.eqvAll (a.map f) (b.map f)=decide (a=b):=by
 intro a
 induction a with
 |nil=>
  intro b
  cases b with
  |nil=>rfl
  |cons=>rfl
 |cons x a ih=>
  intro b
  cases b with
  |nil=>rfl
  |cons y b=>
   show(PyData.eqv (f x) (f y)&&PyData.eqvAll (a.map f) (b.map f))=_
   rw [h,ih,<-Bool.decide_and]
   exact decide_eq_decide.mpr yc.symm
theorem KI.eqv(a b:KI):PyData.eqv a.dat b.dat=decide (a=b):=by
 have no:∀{p:Prop} [Decidable p],¬p->false=decide p:=λh=>(dFx h).symm
 cases a with
 |int i=>cases b with
  |int j=>exact(by rfl:_=decide (i=j)).trans (decide_eq_decide.mpr ⟨cGx _,λe=>by injection e⟩)
  |_=>exact no (λe=>(by nomatch e))
 |str i=>cases b with
  |str j=>exact(by rfl:_=decide (i=j)).trans (decide_eq_decide.mpr ⟨cGx _,λe=>by injection e⟩)
  |_=>exact no (λe=>(by nomatch e))
 |tup i=>cases b with
  |tup j=>exact(Hu (λ_ _=>by rfl) i j).trans (decide_eq_decide.mpr ⟨cGx _,λe=>by injection e⟩)
  |_=>exact no (λe=>(by nomatch e))
section
variable{α β:Type}{R R':α->β->Prop}
inductive All2(R:α->β->Prop):List α->List β->Prop
 |nil:All2 R [] []
 |cons {x:α} {y:β} {xs:List α} {ys:List β} (r:R x y) (rs:All2 R xs ys):All2 R (x::xs) (y::ys)
theorem All2.mono{xs:List α}{ys:List β}(r:All2 R xs ys)(h:∀x∈xs,∀y,R x y->R' x y):All2 R' xs ys:=by
 induction r with
 |nil=>exact .nil
 |cons r _ ih=>exact .cons (h _ (.head _) _ r) (ih λx m=>h x (.tail _ m))
theorem All2.length{xs:List α}{ys:List β}(r:All2 R xs ys):xs.length=ys.length:=by
 induction r with
 |nil=>rfl
 |cons _ _ ih=>exact cGx (·+1) ih
theorem All2.append{xs us:List α}{ys vs:List β}(r:All2 R xs ys)(q:All2 R us vs):All2 R (xs++us) (ys++vs):=by
 induction r with
 |nil=>exact q
 |cons r _ ih=>exact .cons r ih
theorem All2.take{xs:List α}{ys:List β}(r:All2 R xs ys):∀n,All2 R (xs.take n) (ys.take n):=by
 induction r with
 |nil=>intro n;rw [List.take_nil,List.take_nil];exact .nil
 |cons r _ ih=>intro n;cases n with
  |zero=>exact .nil
  |succ n=>exact .cons r (ih n)
theorem All2.reverse{xs:List α}{ys:List β}(r:All2 R xs ys):All2 R xs.reverse ys.reverse:=by
 induction r with
 |nil=>exact .nil
 |cons r _ ih=>rw [yd,yd];exact ih.append (.cons r .nil)
end
theorem All2.nil_inv{β γ:Type}{R:β->γ->Prop}{ys:List γ}(r:All2 R [] ys):ys=[]:=by cases r;rfl
theorem All2.nil_r{β γ:Type}{R:β->γ->Prop}{xs:List β}(r:All2 R xs []):xs=[]:=by cases r;rfl
theorem All2.cons_inv{β γ:Type}{R:β->γ->Prop}{x:β}{xs:List β}{ys:List γ}(r:All2 R (x::xs) ys):∃y ys',ys=y::ys'/\R x y/\All2 R xs ys':=by cases r with|cons r q=>exact⟨_,_,rfl,r,q⟩
theorem All2.cons_r{β γ:Type}{R:β->γ->Prop}{xs:List β}{y:γ}{ys:List γ}(r:All2 R xs (y::ys)):∃x xs',xs=x::xs'/\R x y/\All2 R xs' ys:=by cases r with|cons r q=>exact⟨_,_,rfl,r,q⟩
section
variable{α β:Type}(prog:Program)(w:World)
def KIs(h:Heap):KI->Value->Prop
 | .int i,v=>∃t,v= .int i t
 | .str s,v=>PyData.strOk s=true/\∃t,v= .str s t
 | .tup l,v=>∃a,v= .ref a/\IsTupleKey (intKind prog w) h l a
def KIKey(h:Heap)(ks:List KI)(a:Nat):Prop:=∃o items n,h.get? a=some o/\o.cls= .type "tuple"/\o.data= .seq items n/\All2 (KIs prog w h) ks items.toList
variable{prog w}{h h':Heap}{k a b:KI}{v:Value}{ks x y:List KI}{vs:List Value}{d i j:Nat}{o:Obj}{es:Array DictEntry}{ep:Nat}
noncomputable def vki:Value->Option KI
 | .int i _=>some (.int i)
 | .str s _=>some (.str s)
 |_=>none
theorem KIs.vk(x:KIs prog w h k v):vki v=some k\/vki v=none/\∃a l,v= .ref a/\k= .tup l/\IsTupleKey (intKind prog w) h l a:=by
 cases k with
 |int i=>exact .inl (x.elim λt e=>cGx vki e)
 |str s=>exact .inl (x.2.elim λt e=>cGx vki e)
 |tup l=>exact .inr (x.elim λa x=>⟨cGx vki x.1,a,l,x.1,rfl,x.2⟩)
theorem KIs.inj(x:KIs prog w h a v)(y:KIs prog w h b v):a=b:=
 x.vk.elim (λp=>y.vk.elim (λq=>sJx (p.symm.trans q)) λq=>(by nomatch p.symm.trans q.1)) λp=>y.vk.elim (λq=>(by nomatch p.1.symm.trans q)) λq=>p.2.elim λi p=>p.elim λl p=>q.2.elim λj q=>q.elim λm q=>by
  rw [p.2.1,q.2.1,p.2.2.inj (Value.ref.inj (p.1.symm.trans q.1)▸q.2.2)]
theorem KIAll.inj(p:All2 (KIs prog w h) x vs):∀{y:List KI},All2 (KIs prog w h) y vs->x=y:=by
 induction p with
 |nil=>exactλ{y} q=>q.nil_r.symm
 |cons p _ ih=>exactλ{y} q=>q.cons_r.elim λk r=>r.elim λks r=>by rw [r.1,p.inj r.2.1,ih r.2.2]
noncomputable def dsq:Data->Array Value
 | .seq i _=>i
 |_=>#[]
theorem KIKey.inj(hx:KIKey prog w h x d)(hy:KIKey prog w h y d):x=y:=
 hx.elim λo hx=>hx.elim λit hx=>hx.elim λn hx=>hy.elim λo' hy=>hy.elim λit' hy=>hy.elim λn' hy=>
  have e:it=it':=cGx dsq (hx.2.2.1.symm.trans ((cGx Obj.data (sJx (hx.1.symm.trans hy.1))).trans hy.2.2.1))
  KIAll.inj hx.2.2.2 (e▸hy.2.2.2)
theorem KIs.keeps(ho:h.get? d=some o)(hd:o.data= .dict es ep)(hs:Heap.SameBut d h h')(x:KIs prog w h k v):KIs prog w h' k v:=by
 cases k with
 |tup l=>exact x.imp λa x=>⟨x.1,x.2.keeps ho hd hs⟩
 |_=>exact x
theorem KIKey.keeps(x:KIKey prog w h ks i)(ho:h.get? d=some o)(hd:o.data= .dict es ep)(hs:Heap.SameBut d h h'):KIKey prog w h' ks i:=
 x.imp λo' x=>x.imp λitems x=>x.imp λn x=>⟨(hs.2 i λe=>by
  have q:o=o':=sJx (ho.symm.trans (e▸x.1))
  have q:=hd.symm.trans (q▸x.2.2.1)
  cases q).trans x.1,x.2.1,x.2.2.1,x.2.2.2.mono λ_ _ _ r=>r.keeps ho hd hs⟩
theorem KIKey.typeIs{s:Shared}(x:KIKey prog w s.heap ks i):s.TypeIs (.ref i) "tuple":=x.elim λo x=>x.elim λ_ x=>x.elim λ_ x=>⟨o,x.1,x.2.1⟩
theorem vy{l:List Int}(r:ItemsAre (intKind prog w) l vs):∃as,ReadsAll h vs (l.map .int) as:=by
 induction r with
 |nil=>exact⟨_,.nil⟩
 |cons p _ ih=>exact ih.elim λas q=>(Value.isInt_shape p).elim λt e=>⟨_,by rw [e];exact ReadsAll.cons (.int _ t) q⟩
theorem KIs.reads(x:KIs prog w h k v):∃as,Reads h v k.dat as:=by
 cases k with
 |int i=>exact x.elim λt e=>⟨_,by rw [e];exact .int i t⟩
 |str i=>exact x.2.elim λt e=>⟨_,by rw [e];exact .str i t⟩
 |tup l=>exact x.elim λa x=>x.2.elim λo r=>r.elim λitems r=>r.elim λn r=>(vy r.2.2.2).elim λas q=>⟨_,by rw [x.1];exact .tuple r.1 r.2.1 r.2.2.1 q⟩
theorem KIAll.reads(x:All2 (KIs prog w h) ks vs):∃as,ReadsAll h vs (ks.map KI.dat) as:=by
 induction x with
 |nil=>exact⟨_,.nil⟩
 |cons p _ ih=>exact p.reads.elim λas q=>ih.elim λbs r=>⟨_,.cons q r⟩
theorem De(l:List Int):PyData.canLayAll0 (l.map .int)=true/\PyData.depthAll (l.map .int)<=0:=by
 induction l with
 |nil=>exact⟨rfl,jc 0⟩
 |cons x l ih=>exact⟨ih.1,Nat.max_le.mpr ⟨jc 0,ih.2⟩⟩
theorem KIs.lay(x:KIs prog w h k v):k.dat.canLay0=true/\k.dat.depth<=1:=by
 cases k with
 |int i=>exact⟨rfl,jo _⟩
 |str i=>exact⟨x.1,jo _⟩
 |tup l=>exact⟨(De l).1,jm (De l).2⟩
theorem KIAll.lay(x:All2 (KIs prog w h) ks vs):PyData.canLayAll0 (ks.map KI.dat)=true/\PyData.depthAll (ks.map KI.dat)<=1:=by
 induction x with
 |nil=>exact⟨rfl,jo _⟩
 |cons p _ ih=>exact⟨(jp _ _).mpr ⟨p.lay.1,ih.1⟩,Nat.max_le.mpr ⟨p.lay.2,ih.2⟩⟩
variable{A:Around}{E:Value->Shared->Prop}{s:Shared}
theorem Lr{Q:Bool->Shared->Prop}(hu:A.units+8<cLine)(hx:KIKey prog w s.heap x i)(hy:KIKey prog w s.heap y j)(h:Q (decide (x=y)) s):wpAny (model prog w) A (eqBool (.ref i) (.ref j)) Q E s:=
 hx.elim λo hx=>hx.elim λit hx=>hx.elim λn hx=>hy.elim λo' hy=>hy.elim λit' hy=>hy.elim λn' hy=>(KIAll.reads hx.2.2.2).elim λas r=>(KIAll.reads hy.2.2.2).elim λbs q=>
  eqBoolOverData prog w A E s _ _ (.tuple (x.map KI.dat)) (.tuple (y.map KI.dat)) _ _ Q (.tuple hx.1 hx.2.1 hx.2.2.1 r) (.tuple hy.1 hy.2.1 hy.2.2.1 q) (KIAll.lay hx.2.2.2).1 (KIAll.lay hy.2.2.2).1
   (jq (jv (ja (Nat.min_le_left _ _) (ja (jm (KIAll.lay hx.2.2.2).2) (by decide))) _) hu) ((cGx (λb=>Q b s) (Hu KI.eqv x y)).mpr h)
theorem hash_KI{Q:Int->Shared->Prop}(hu:A.units<cLine)(x:KIs prog w s.heap k v)(h:Q (k.hash prog w) {s with toks:=s.toks+k.draws}):wpAny (model prog w) A (pyHash v) Q E s:=by
 cases k with
 |int i=>exact x.elim λt e=>e▸wpAny_pyHash_int h
 |str i=>exact x.2.elim λt e=>e▸wpAny_pyHash_str h
 |tup l=>exact x.elim λa x=>x.1▸wpAny_pyHash_tuple hu x.2 h
noncomputable def tu(ks:List KI):Nat:=(ks.map KI.draws).sum
noncomputable def F5(prog:Program)(w:World)(ks:List KI):Int:=reduceHash (Builtin.Tuple.tupleHashOf (ks.map (KI.hash prog w)))
theorem Mp{Q:Int->Shared->Prop}(hu:A.units+8<cLine)(hk:KIKey prog w s.heap ks i)(h:Q (F5 prog w ks) {s with toks:=s.toks+(tu ks+1)}):wpAny (model prog w) A (pyHash (.ref i)) Q E s:=by
 have hT:=hk.typeIs
 refine hk.elim λo hk=>hk.elim λit hk=>hk.elim λn hk=> ?_
 have u0:A.units<cLine:=jq (ji _ _) hu
 unfold pyHash pyHashByItsType
 refine wB (wpAny_cRoomFor_or (.inr u0) ?_)
 refine wB (wpAny_specialOf hT F.slot_tuple_hash.lookup ?_)
 show wpAny _ _ (if(some (Value.builtin "tuple.__hash__")==some Value.none)=true then _ else _) Q E s
 rw [if_neg (by rw [beq_builtin_none];exact jx)]
 refine wB (wpAny_specialOf hT F.slot_tuple_hash.lookup ?_)
 show wpAny _ _ (callSpecialIfBoundUnlessNone? (.ref i) "__hash__" _>>=_) Q E s
 refine wB (wpAny_callSpecialIfBoundUnlessNone?_slot hT F.slot_tuple_hash (wpAny_call_entry F.slot_tuple_hash hT F.entry_tuple_hash ?_ (F.args_tuple_hash_1 _)))
 show wpAny _ _ (Builtin.Tuple.tupleItemsOf (.ref i)>>=_) _ _ s
 refine wB (wpAny_tupleItemsOf hk.1 hk.2.2.1 ?_)
 refine wB ?_
 rw [<-Array.forIn_toList]
 refine wpAny_forIn_list _ (λrest (b:Array Int) s'=>∃left t,All2 (KIs prog w s.heap) left rest/\s'={s with toks:=t}/\b.toList++left.map (KI.hash prog w)=ks.map (KI.hash prog w)/\t+tu left=s.toks+tu ks) _ (λx rest b s' I=> ?_) (λb s' I=> ?_) _ _ ⟨ks,s.toks,hk.2.2.2,rfl,rfl,rfl⟩
 ·refine I.elim λleft I=>I.elim λt I=> ?_
  rw [I.2.1]
  refine I.1.cons_r.elim λk r=>r.elim λks' r=> ?_
  have e2:b.toList++(k::ks').map (KI.hash prog w)=ks.map (KI.hash prog w):=r.1▸I.2.2.1
  have e3:t+tu (k::ks')=s.toks+tu ks:=r.1▸I.2.2.2
  refine wB (hash_KI (s:={s with toks:=t}) (jq (jv (by decide:1<=8) _) hu) r.2.1 ?_)
  exact wP ⟨ks',t+k.draws,r.2.2,rfl,by rw [ye,jy];exact e2,(qh ..).trans e3⟩
 ·refine I.elim λleft I=>I.elim λt I=> ?_
  have e2:=I.2.2.1
  have e3:=I.2.2.2
  rw [I.1.nil_r] at e2 e3
  have e2:b.toList=_:=(jk _).symm.trans e2
  have e3:t+1=s.toks+(tu ks+1):=cGx (·+1) e3
  rw [I.2.1]
  show wpAny _ _ (retInt (Builtin.Tuple.tupleHashOf b.toList)) _ _ _
  rw [e2]
  refine wpAny_ret_mkInt ?_
  rw [<-e3] at h
  unfold F5 reduceHash at h
  show wpAny _ _ (if(decide (-(2:Int)^63<=Builtin.Tuple.tupleHashOf (ks.map (KI.hash prog w)))&&decide (Builtin.Tuple.tupleHashOf (ks.map (KI.hash prog w))<2^63))=true then _ else _) Q E _
  by_cases hr:(decide (-(2:Int)^63<=Builtin.Tuple.tupleHashOf (ks.map (KI.hash prog w)))&&decide (Builtin.Tuple.tupleHashOf (ks.map (KI.hash prog w))<2^63))=true
  ·rw [if_pos hr] at h⊢
   exact wP h
  ·rw [if_neg hr] at h⊢
   exact wB (wpAny_rule (wP h))
theorem Ag{m n:Nat}{it:Array Value}{Q:Bool->Shared->Prop}(hT:s.TypeIs (.ref i) "tuple")(ho:s.heap.get? i=some o)(hd:o.data= .seq it n)(H:∀v∈it.toList,∀{Q:Bool->Shared->Prop},Q true s->wpAny (model prog w) A (eqIsQuiet m v) Q E s)(h:Q true s):wpAny (model prog w) A (eqIsQuiet (m+1) (.ref i)) Q E s:=by
 unfold eqIsQuiet
 refine wB (wpAny_specialOf hT F.slot_tuple_eq.lookup ?_)
 show wpAny _ _ (isInstance (.ref i) (.type "tuple")>>=_) _ _ s
 refine wB (wpAny_isInstance hT isSubtype_tuple_tuple ?_)
 rw [Bool.not_true,if_neg jx]
 refine wB (wpAny_seqItems ho hd ?_)
 refine wB ?_
 show wpAny _ _ (forIn it _ _) _ _ s
 rw [<-Array.forIn_toList]
 refine wpAny_forIn_list _ (λrest r s'=>r.1=none/\s'=s/\∀v∈rest,v∈it.toList) _ (λv rest r s' I=> ?_) (λr s' I=> ?_) _ _ ⟨rfl,rfl,λ_ m=>m⟩
 ·rw [I.2.1]
  refine wB (H v (I.2.2 v (.head _)) ?_)
  exact wP ⟨rfl,rfl,λu m=>I.2.2 u (.tail _ m)⟩
 ·rw [I.2.1,show r=(none,()) from Prod.ext I.1 rfl];exact wP h
theorem Mq{m:Nat}{Q:Bool->Shared->Prop}(x:KIs prog w s.heap k v)(h:Q true s):wpAny (model prog w) A (eqIsQuiet (m+1) v) Q E s:=by
 cases k with
 |int i=>exact x.elim λt e=>by rw [e,eqIsQuiet_byValue _ rfl];exact wP h
 |str i=>exact x.2.elim λt e=>by rw [e,eqIsQuiet_byValue _ rfl];exact wP h
 |tup l=>
  refine x.elim λa x=> ?_
  have hT:=x.2.typeIs (s:=s)
  rw [x.1]
  exact x.2.elim λo r=>r.elim λit r=>r.elim λn r=>Ag hT r.1 r.2.2.1 (λv m {Q} h=>by rw [eqIsQuiet_byValue _ (r.2.2.2.byValue v m)];exact wP h) h
theorem All2.each{R:α->β->Prop}{xs:List α}{ys:List β}(x:All2 R xs ys):∀v∈ys,∃k,R k v:=by
 induction x with
 |nil=>exactλ_ m=>(by nomatch m)
 |cons r _ ih=>exactλv m=>(jh.mp m).elim (λe=>⟨_,e▸r⟩) (ih v)
noncomputable def iu(prog:Program)(w:World):HeapKind prog w (List KI) where
 is:=KIKey prog w
 hash:=F5 prog w
 draws:=λks=>tu ks+1
 room:=λA=>A.units+8<cLine
 inj:=KIKey.inj
 keeps:=KIKey.keeps
 pyHash:=Mp
 eqBool:=Lr
 quiet:=λhk h=>hk.elim λo r=>r.elim λit r=>r.elim λn r=>Ag hk.typeIs r.1 r.2.2.1 (λv m {Q} h=>(r.2.2.2.each v m).elim λk q=>Mq q h) h
end
section
variable{prog:Program}{w:World}{A:Around}{E:Value->Shared->Prop}{s:Shared}
variable{K:Type}[DecidableEq K]{knd:HeapKind prog w K}
noncomputable def nr(xs:List (K×Nat×Value))(k:K):List (K×Nat×Value):=xs.filter λx=> !decide (x.1=k)
theorem vp{k:K}{p:Nat×Value}{xs:List (K×Nat×Value)}:∀{j:Nat},(xs.map (·.1)).Nodup->xs[j]? =some (k,p)->nr xs k=xs.eraseIdx j:=by
 induction xs with
 |nil=>exactλ_ h=>(by nomatch h)
 |cons x xs ih=>
  intro j hn hj
  have hn:=kj.mp hn
  cases j with
  |zero=>
   have e:x=(k,p):=sJx hj
   refine(xo (by rw [e,dTx rfl];exact jx)).trans (yf.mpr λy m=> ?_)
   rw [dFx λq=>hn.1 (jf.mpr ⟨y,m,by rw [q,e]⟩)];rfl
  |succ j=>
   have nk:x.1≠k:=λq=>hn.1 (jf.mpr ⟨(k,p),xp (l:=xs) (i:=j) hj,q.symm⟩)
   exact(xq (p:=λx:K×Nat×Value=> !decide (x.1=k)) (by rw [dFx nk];rfl)).trans (cGx _ (ih hn.2 hj))
theorem Bn{α β:Type}{f:α->β}{l:List α}:∀{j:Nat},(l.map f).eraseIdx j=(l.eraseIdx j).map f:=by
 induction l with
 |nil=>exactλ{j}=>rfl
 |cons x l ih=>exactλ{j}=>Nat.casesOn j rfl λj=>cGx (f x::·) ih
theorem C5{d a:Nat}{xs:List (K×Nat×Value)}{k:K}{Q:Option DictEntry->Shared->Prop}(hu:knd.room A)(hkey:knd.is s.heap k a)(hm:s.heap.DictOfH knd d xs)(hk:(atKey xs k).isSome=true)
  (hQ:∀e h',h'.DictOfH knd d (nr xs k)->Heap.SameBut d s.heap h'->Q (some e) {s with heap:=h',toks:=s.toks+knd.draws k})
  (hsz:xs.length<=sizeLine):
  wpAny (model prog w) A (Builtin.Dict.takeOut d (.ref a)) Q E s:=by
 obtain⟨o,es,ep,ho,hc,hd,he,his,hn⟩:=hm
 unfold Builtin.Dict.takeOut
 try with_reducible refine wpAny_holding ?_
 refine wB (knd.pyHash hu hkey ?_)
 refine wB (wpAny_dictFind_heap (s:={s with toks:=s.toks+knd.draws k}) hu hkey ho hd he his hn ?_ ?_)
 ·intro hno
  rw [atKey_none_of_get hno] at hk
  cases hk
 ·intro j p hj
  refine wB (wpAny_dictEntries (s:={s with toks:=s.toks+knd.draws k}) ho hd ?_)
  rw [entry_at he j,hj]
  refine wB (wpAny_updateDictKeys (hz:=by have e:=size_of_entries he;lia) (s:={s with toks:=s.toks+knd.draws k}) ho hd (wP (hQ _ _ ⟨_,_,ep+1,Heap.get?_update_self _ ho (Obj.isFreed_of_dict (Obj.data_mapDictKeys hd _)),
   hc.mapDictKeys _,Obj.data_mapDictKeys hd _,?_,?_,?_⟩ (Heap.SameBut.update ..))))
  ·rw [vp hn hj]
   obtain⟨l⟩:=es
   simp only at he
   subst he
   simp only [List.eraseIdxIfInBounds_toArray]
   exact Bn
  ·intro x hx
   exact knd.keeps (his x (kr.mp hx).1) ho hd (Heap.SameBut.update ..)
  ·exact hn.sublist (List.Sublist.map _ List.filter_sublist)
theorem B0{d a:Nat}{xs:List (K×Nat×Value)}{k:K}{Q:Unit->Shared->Prop}(hu:knd.room A.in1)(hkey:knd.is s.heap k a)(hm:s.heap.DictOfH knd d xs)(hk:(atKey xs k).isSome=true)
  (hQ:∀h' t,h'.DictOfH knd d (nr xs k)->Heap.SameBut d s.heap h'->Q () {s with heap:=h',toks:=t})
  (hsz:xs.length<=sizeLine):
  wpAny (model prog w) A (delItem (.ref d) (.ref a)) Q E s:=by
 refine wpAny_delItem_slot hm.typeIs (by decide) F.slot_dict_delitem (wpAny_call_entry F.slot_dict_delitem hm.typeIs F.entry_dict_delitem ?_ (F.args_dict_delitem_2 _ _))
 unfold Builtin.«dict.__delitem__»
 refine wB ?_
 unfold Builtin.Dict.dictSlotArgs
 refine wB (wpAny_notOrdered_dict hm.typeIs ?_)
 show wpAny _ _ (pure (Value.ref d,Value.ref a)) _ _ s
 refine wP ?_
 show wpAny _ _ (Builtin.Dict.takeOut d (.ref a)>>=_) _ _ s
 refine wB (C5 hu hkey hm hk (λe h' hm' hs'=> ?_) hsz)
 exact wB (wpAny_letGo (wP ⟨.none,rfl,hQ h' _ hm' hs'⟩))
end
end
section
noncomputable def a6{K α:Type}[DecidableEq K](f:K->Option α)(k:K)(u:α):K->Option α:=λx=>if x=k then some u else f x
noncomputable def av{K α:Type}[DecidableEq K](f:K->Option α)(k:K):K->Option α:=λx=>if x=k then none else f x
noncomputable def rng(t:Int):Bool:=decide (0<=t)&&decide (t<500)
def Few{K α:Type}(f:K->Option α):Prop:=∃L:List K,(∀k,(f k).isSome=true->k∈L)/\L.length<=1000000
section
variable{K:Type}[DecidableEq K]
theorem au{p:K×Value}{kvs:List (K×Value)}{x:K}:valueAt (p::kvs) x=if p.1=x then some p.2 else valueAt kvs x:=by
 unfold valueAt
 rw [xd]
 by_cases h:p.1=x
 ·simp [h]
 ·simp [h]
theorem Et{kvs:List (K×Value)}{k x:K}{v:Value}:valueAt (kvs.map λkv=>if kv.1=k then(kv.1,v) else kv) x=if x=k then(valueAt kvs k).map λ_=>v else valueAt kvs x:=by
 induction kvs with
 |nil=>unfold valueAt;split<;>rfl
 |cons p kvs ih=>
  rw [jz,au,au,au,ih]
  by_cases h1:p.1=k
  ·rw [if_pos h1]
   by_cases h2:x=k
   ·rw [if_pos h2,if_pos h2];dsimp only;rw [if_pos (h1.trans h2.symm),if_pos h1];rfl
   ·rw [if_neg h2,if_neg h2];dsimp only;rw [if_neg λe=>h2 (e.symm.trans h1),if_neg λe=>h2 (e.symm.trans h1)]
  ·rw [if_neg h1]
   by_cases h2:x=k
   ·rw [if_pos h2,if_pos h2,if_neg λe=>h1 (e.trans h2),if_neg h1]
   ·rw [if_neg h2,if_neg h2]
theorem vi{kvs ls:List (K×Value)}{x:K}:valueAt (kvs++ls) x=match valueAt kvs x with|some v=>some v|none=>valueAt ls x:=by
 induction kvs with
 |nil=>rfl
 |cons p kvs ih=>
  rw [List.cons_append,au,au,ih]
  split<;>rfl
theorem px{kvs:List (K×Value)}{k:K}(h:¬kvs.any (λkv=>decide (kv.1=k))=true):valueAt kvs k=none:=by
 induction kvs with
 |nil=>rfl
 |cons p kvs ih=>
  rw [xe,qi,not_or] at h
  rw [au,if_neg (by simpa using h.1),ih h.2]
theorem lh{kvs:List (K×Value)}{k:K}(h:kvs.any (λkv=>decide (kv.1=k))=true):∃v,valueAt kvs k=some v:=by
 induction kvs with
 |nil=>simp at h
 |cons p kvs ih=>
  rw [au]
  by_cases q:p.1=k
  ·exact⟨_,if_pos q⟩
  ·rw [if_neg q]
   refine ih ?_
   rw [xe,qi] at h
   exact h.resolve_left (by simpa using q)
theorem fu{kvs:List (K×Value)}{k x:K}{v:Value}:valueAt (stored kvs k v) x=if x=k then some v else valueAt kvs x:=by
 unfold stored
 split
 ·rename_i h
  obtain⟨u,hu⟩:=lh h
  rw [Et,hu];rfl
 ·rename_i h
  rw [vi]
  by_cases q:x=k
  ·rw [q,px h,if_pos rfl];dsimp only;rw [au,if_pos rfl]
  ·rw [if_neg q]
   cases valueAt kvs x with
   |some u=>rfl
   |none=>dsimp only;rw [au,if_neg (Ne.symm q)];rfl
theorem sy{kvs:List (K×Value)}{k x:K}:valueAt (without kvs k) x=if x=k then none else valueAt kvs x:=by
 unfold without
 induction kvs with
 |nil=>unfold valueAt;split<;>rfl
 |cons p kvs ih=>
  rw [yg]
  by_cases q:p.1=k
  ·rw [if_neg (by simpa using q),ih,au]
   by_cases h:x=k
   ·rw [if_pos h,if_pos h]
   ·rw [if_neg h,if_neg h,if_neg λe=>h (e.symm.trans q)]
  ·rw [if_pos (by simpa using q),au,au,ih]
   by_cases h:x=k
   ·rw [if_pos h,if_pos h,if_neg λe=>q (e.trans h)]
   ·rw [if_neg h,if_neg h]
end
end
set_option genCtorIdx true
inductive LK where
 |mem|use|apt|wat
set_option genCtorIdx false
inductive Tg where
 |bank|house|root|value|up|table|sides|told|queue|trail|marks
 |dct (k:LK)|ls (k:LK) (t:Int)
 |bk (k:Nat)|tmp (k:Nat)|byr (k:Nat)|feed|state|levels|known|lvl (i:Nat)
noncomputable def Tg.ctorIdx(x:Tg):Nat:=Tg.casesOn x 0 1 2 3 4 5 6 7 8 9 10 (λ_=>11) (λ_ _=>12) (λ_=>13) (λ_=>14) (λ_=>15) 16 17 18 19 (λ_=>20)
noncomputable def LK.code:LK->Int
 | .mem=>0
 | .use=>1
 | .apt=>2
 | .wat=>3
noncomputable def LK.of:Int->LK
 |0=> .mem
 |1=> .use
 |2=> .apt
 |_=> .wat
noncomputable def Tg.code:Tg->Nat×Int
 | .bank=>(0,0)
 | .house=>(1,0)
 | .root=>(2,0)
 | .value=>(3,0)
 | .up=>(4,0)
 | .table=>(5,0)
 | .sides=>(6,0)
 | .told=>(7,0)
 | .queue=>(8,0)
 | .trail=>(9,0)
 | .marks=>(10,0)
 | .dct k=>(11,k.code)
 | .ls .mem t=>(12,t)
 | .ls .use t=>(13,t)
 | .ls .apt t=>(14,t)
 | .ls .wat t=>(15,t)
 | .bk k=>(16,k)
 | .tmp k=>(17,k)
 | .byr k=>(18,k)
 | .feed=>(19,0)
 | .state=>(20,0)
 | .levels=>(21,0)
 | .known=>(22,0)
 | .lvl k=>(23,k)
noncomputable def Tg.of(k:Nat)(t:Int):Tg:=
 match k with
 |0=> .bank
 |1=> .house
 |2=> .root
 |3=> .value
 |4=> .up
 |5=> .table
 |6=> .sides
 |7=> .told
 |8=> .queue
 |9=> .trail
 |10=> .marks
 |11=> .dct (.of t)
 |12=> .ls .mem t
 |13=> .ls .use t
 |14=> .ls .apt t
 |15=> .ls .wat t
 |16=> .bk t.toNat
 |17=> .tmp t.toNat
 |18=> .byr t.toNat
 |19=> .feed
 |20=> .state
 |21=> .levels
 |22=> .known
 |_=> .lvl t.toNat
theorem Tg.of_code(τ:Tg):Tg.of τ.code.1 τ.code.2=τ:=by
 cases τ with
 |dct k=>cases k<;>rfl
 |ls k t=>cases k<;>rfl
 |_=>rfl
theorem Tg.inj{τ τ':Tg}(e:τ.code=τ'.code):τ=τ':=by rw [<-τ.of_code,e,τ'.of_code]
noncomputable instance Tg.dec:DecidableEq Tg:=λτ τ'=>
 match instDecidableEqProd τ.code τ'.code with
 | .isTrue e=> .isTrue (Tg.inj e)
 | .isFalse n=> .isFalse λe=>n (cGx Tg.code e)
noncomputable def Tg.isTmp(τ:Tg):Bool:=Nat.beq τ.code.1 17
theorem Tg.tmp_eq{τ:Tg}(h:τ.isTmp=true):τ= .tmp τ.code.2.toNat:=by
 have e:=τ.of_code
 rw [Nat.eq_of_beq_eq_true h] at e
 exact e.symm
noncomputable abbrev S(x:String):Str:=PySem.Str.ofString x
noncomputable def ans:List Str:=[S "bank",S "root",S "members",S "uses",S "value",S "apart",S "watchers",S "up",S "table",S "sides",S "told",S "news",S "queue",S "clash",S "clash_level",S "trail",S "marks",
 S "sort_names",S "sort_widths",S "fun_names",S "fun_args",S "fun_results",S "fresh_count",S "term_ops",S "term_args",S "term_sorts",S "term_datas",S "numbers",S "true_number",S "false_number"]
noncomputable def an(i:Nat):Str:=ans.getD i ⟨#[]⟩
theorem an_inj{i j:Nat}(hi:i<30)(hj:j<30)(e:an i=an j):i=j:=by
 have n:ans.Nodup:=by unfold ans;decide+kernel
 unfold an at e
 rw [yt,yt,qo (show i<ans.length from hi),qo (show j<ans.length from hj)] at e
 exact(List.getElem_inj n).mp e
inductive AV where
 |dat (d:PyData)
 |obj (τ:Tg)
 |range (n:Int)
 |slice (lo hi st:Option Int)
 |raw (p:Obj->Prop)
 |typ (n:String)
inductive AObj where
 |list (w:Bool) (vs:List AV)
 |dictI (w:Bool) (f:Int->Option AV)
 |dictL (w:Bool) (kvs:List (Int×AV))
 |dictT (f:List KI->Option AV)
 |dictS (f:Str->Option AV)
 |inst (C:Nat) (as:List (Nat×AV))
noncomputable def AObj.ctorIdx(x:AObj):Nat:=AObj.casesOn x (λ_ _=>0) (λ_ _=>1) (λ_ _=>2) (λ_=>3) (λ_=>4) (λ_ _=>5)
noncomputable abbrev dc(items:Array Value)(n:Nat):Obj:={cls:= .type "tuple",data:= .seq items n}
structure Gh where
 P:Nat->Option Obj
 K:Nat->Option Obj
 Z:Nat->Option (Tg×Obj)
 μ:Tg->Nat
 own:Nat->Option Tg
mutual
noncomputable def DR(P:Nat->Option Obj):PyData->Value->Prop
 | .none,v=>v= .none
 | .bool b,v=>v= .bool b
 | .int i,v=>∃t,v= .int i t
 | .str s,v=>PyData.strOk s=true/\∃t,v= .str s t
 | .tuple ds,v=>∃a items n,v= .ref a/\P a=some (dc items n)/\DRs P ds items.toList
 | .list ds,v=>∃a items n,v= .ref a/\P a=some (listOf items n)/\DRs P ds items.toList
 | .dict _,_=>False
noncomputable def DRs(P:Nat->Option Obj):List PyData->List Value->Prop
 |[],vs=>vs=[]
 |d::ds,vs=>∃y ys,vs=y::ys/\DR P d y/\DRs P ds ys
end
def AVR(G:Gh):AV->Value->Prop
 | .dat d,v=>DR G.P d v
 | .obj τ,v=>v= .ref (G.μ τ)
 | .range n,v=>∃a t1 t2 t3,v= .ref a/\G.P a=some {cls:= .type "range",dict:=none,data:= .fields #[.int 0 t1,.int n t2,.int 1 t3],slots:=#[]}
 | .slice lo hi st,v=>∃a l u s,v= .ref a/\G.P a=some {cls:= .type "slice",data:= .fields #[l,u,s]}/\IsPart l lo/\IsPart u hi/\IsPart s st
 | .raw p,v=>∃a o,v= .ref a/\G.P a=some o/\p o
 | .typ n,v=>v= .type n
section
structure Wd where
 prog:Program
 w:World
 b:Heap
 K:Frag
 p:Program
 loose:List Str
 mg:Str->Option Value
 mb:Str->Option Value
 kin:K.In b
 top:TopRead p loose mg mb b
structure Fm where
 W:Wd
 A:Around
 env:Env
 fa:List Nat
 n:Nat
section
variable{α β:Type}{R R':α->β->Prop}
def Opt2(R:α->β->Prop):Option α->Option β->Prop
 |some a,some b=>R a b
 |none,none=>True
 |_,_=>False
theorem Opt2.mono{x:Option α}{y:Option β}(r:Opt2 R x y)(h:∀a,x=some a->∀b,R a b->R' a b):Opt2 R' x y:=by
 cases x with
 |none=>cases y with
  |none=>trivial
  |some b=>exact r
 |some a=>cases y with
  |none=>exact r
  |some b=>exact h a rfl b r
theorem All2.get{xs:List α}{ys:List β}(r:All2 R xs ys):∀i:Nat,Opt2 R xs[i]? ys[i]? :=by
 induction r with
 |nil=>exactλ_=>trivial
 |cons r _ ih=>intro i;cases i with
  |zero=>exact r
  |succ i=>exact ih i
end
variable{P P':Nat->Option Obj}{G G':Gh}{W:Wd}{h h':Heap}{a:Nat}
theorem DRs.all:∀{ds:List PyData} {vs:List Value},DRs P ds vs->All2 (DR P) ds vs:=by
 intro ds
 induction ds with
 |nil=>intro vs r;rw [show vs=[] from r];exact .nil
 |cons d ds ih=>intro vs r;obtain⟨y,ys,e,r,q⟩:=r;rw [e];exact .cons r (ih q)
theorem DRs.of{ds:List PyData}{vs:List Value}(r:All2 (DR P) ds vs):DRs P ds vs:=by
 induction r with
 |nil=>exact rfl
 |cons r _ ih=>exact⟨_,_,rfl,r,ih⟩
theorem DR.mono(e:∀a o,P a=some o->P' a=some o)(d:PyData):∀v,DR P d v->DR P' d v:=
 PyData.rec (motive_1:=λd=>∀v,DR P d v->DR P' d v) (motive_2:=λd=>∀v,DRs P d v->DRs P' d v) (motive_3:=λ_=>True) (motive_4:=λ_=>True)
  (λ_ r=>r) (λ_ _ r=>r) (λ_ _ r=>r) (λ_ _ r=>r) (λ_ ih _ r=>by obtain⟨a,i,n,x,y,z⟩:=r;exact⟨a,i,n,x,e _ _ y,ih _ z⟩) (λ_ ih _ r=>by obtain⟨a,i,n,x,y,z⟩:=r;exact⟨a,i,n,x,e _ _ y,ih _ z⟩) (λ_ _ _ r=>r)
  (λ_ r=>r) (λ_ _ i1 i2 _ r=>by obtain⟨y,ys,x,r,z⟩:=r;exact⟨y,ys,x,i1 _ r,i2 _ z⟩) trivial (λ_ _ _ _=>trivial) (λ_ _ _ _=>trivial) d
def AV.keeps(U:Tg->Prop):AV->Prop
 | .obj τ=>U τ
 |_=>True
structure Gr(U:Tg->Prop)(G G':Gh):Prop where
 p:∀a o,G.P a=some o->G'.P a=some o
 k:∀a o,G.K a=some o->G'.K a=some o/\G'.P a=G.P a
 z:∀a o,G.Z a=some o->G'.Z a=some o/\G'.P a=G.P a
 m:∀τ,U τ->G'.μ τ=G.μ τ
structure Gm(U:Tg->Prop)(G G':Gh):Prop where
 p:∀a o,G.P a=some o->G'.P a=some o
 m:∀τ,U τ->G'.μ τ=G.μ τ
theorem Gr.gm{U:Tg->Prop}(e:Gr U G G'):Gm U G G':=⟨e.p,e.m⟩
theorem AVR.mono0{U:Tg->Prop}(e:Gm U G G'){x:AV}{v:Value}(k:x.keeps U)(r:AVR G x v):AVR G' x v:=by
 cases x with
 |dat d=>exact DR.mono e.p d v r
 |obj τ=>exact Eq.trans r (cGx Value.ref (e.m τ k).symm)
 |range n=>exact r.imp λa q=>q.imp λ_ q=>q.imp λ_ q=>q.imp λ_ q=>⟨q.1,e.p _ _ q.2⟩
 |slice lo hi st=>exact r.imp λa q=>q.imp λ_ q=>q.imp λ_ q=>q.imp λ_ q=>⟨q.1,e.p _ _ q.2.1,q.2.2⟩
 |raw p=>exact r.imp λa q=>q.imp λ_ q=>⟨q.1,e.p _ _ q.2.1,q.2.2⟩
 |typ n=>exact r
theorem AVR.mono{U:Tg->Prop}(e:Gr U G G'){x:AV}{v:Value}(k:x.keeps U)(r:AVR G x v):AVR G' x v:=r.mono0 e.gm k
def AE(G:Gh)(x:Nat×AV)(e:DictEntry):Prop:=(x.1<30/\∃t,e.key= .str (an x.1) t)/\AVR G x.2 e.val
noncomputable def sx(n:Nat):List Int:=(List.range n).map Int.ofNat
noncomputable def SK:List Str:=[S "cells",S "spot",S "terms",S "levels",S "known"]
noncomputable def argK:List (List Int):=[]::((sx 60).map λi=>[i])++(sx 60).flatMap λi=>(sx 60).map λj=>[i,j]
noncomputable def datK:List KI:=((sx 11).map .int)++(sx 3).map λi=> .tup [i,1]
noncomputable def TK:List (List KI):=((sx 500).flatMap λi=>(sx 500).map λj=>[.int i,.int j])++
 [S "true",S "false",S "app",S "num",S "="].flatMap λo=>argK.flatMap λl=>[0,1].flatMap λs=>datK.map λd=>[.str o,.tup l,.int s,d]
def OR(W:Wd)(G:Gh)(h:Heap)(a:Nat):AObj->Prop
 | .list w vs=>∃items n,h.get? a=some (listOf items n)/\All2 (AVR G) vs items.toList
 | .dictI w f=>∃kvs,h.DictOf (intKind W.prog W.w) a kvs/\(∀k,Opt2 (AVR G) (f k) (valueAt kvs k))/\∀k,(f k).isSome=true->rng k=true
 | .dictL w f=>∃kvs,h.DictOf (intKind W.prog W.w) a kvs/\All2 (λx y=>x.1=y.1/\AVR G x.2 y.2) f kvs
 | .dictS f=>∃kvs,h.DictOf (strKind W.prog W.w) a kvs/\(∀k,Opt2 (AVR G) (f k) (valueAt kvs k))/\∀k,(f k).isSome=true->k∈SK
 | .dictT f=>(∀k,(f k).isSome=true->k∈TK)/\∃xs:List (List KI×Nat×Value),(∃es ep,h.get? a=some {cls:= .type "dict",data:= .dict es ep}/\es.toList=xs.map (entryOfKey (iu W.prog W.w)))/\(∀x∈xs,∃items n,G.P x.2.1=some (dc items n)/\All2 (λk v=>DR G.P (KI.dat k) v) x.1 items.toList)/\(xs.map (·.1)).Nodup/\∀k,Opt2 (AVR G) (f k) ((atKey xs k).map (·.2))
 | .inst C as=>0<a/\h.get? a=some (instObj C (a-1))/\∃es n,h.get? (a-1)=some (dictOf es n)/\All2 (AE G) as es/\(as.map (·.1)).Nodup
def AObj.keeps(U:Tg->Prop):AObj->Prop
 | .list _ vs=>∀y∈vs,y.keeps U
 | .dictI _ f=>∀k v,f k=some v->v.keeps U
 | .dictL _ f=>∀y∈f,y.2.keeps U
 | .dictS f=>∀k v,f k=some v->v.keeps U
 | .dictT f=>∀k v,f k=some v->v.keeps U
 | .inst _ as=>∀y∈as,y.2.keeps U
def AObj.ad(a b:Nat):AObj->Prop
 | .inst _ _=>b=a\/b=a-1
 |_=>b=a
noncomputable def AObj.wr:AObj->Bool
 | .list w _=>w
 | .dictI w _=>w
 | .dictL w _=>w
 |_=>true
theorem OR.mono0{U:Tg->Prop}(e:Gm U G G'){o:AObj}(k:o.keeps U)(r:OR W G h a o):OR W G' h a o:=by
 cases o with
 |list w vs=>obtain⟨i,n,x,y⟩:=r;exact⟨i,n,x,y.mono λx m _ r=>r.mono0 e (k x m)⟩
 |dictI w f=>obtain⟨i,x,y,z⟩:=r;exact⟨i,x,λj=>(y j).mono λx m _ r=>r.mono0 e (k j x m),z⟩
 |dictL w f=>obtain⟨i,x,y⟩:=r;exact⟨i,x,y.mono λx m _ r=>⟨r.1,r.2.mono0 e (k x m)⟩⟩
 |dictS f=>obtain⟨i,x,y,z⟩:=r;exact⟨i,x,λj=>(y j).mono λx m _ r=>r.mono0 e (k j x m),z⟩
 |dictT f=>obtain⟨w,i,x,z,n,y⟩:=r;exact⟨w,i,x,λx m=>(z x m).imp λi q=>q.imp λn q=>⟨e.p _ _ q.1,q.2.mono λ_ _ _ r=>DR.mono e.p _ _ r⟩,n,λj=>(y j).mono λx m _ r=>r.mono0 e (k j x m)⟩
 |inst C as=>obtain⟨z,x,es,n,y,q,d⟩:=r;exact⟨z,x,es,n,y,q.mono λx m _ r=>⟨r.1,r.2.mono0 e (k x m)⟩,d⟩
theorem OR.mono{U:Tg->Prop}(e:Gr U G G'){o:AObj}(k:o.keeps U)(r:OR W G h a o):OR W G' h a o:=r.mono0 e.gm k
theorem r8{K:Type}[DecidableEq K]{knd:KeyKind W.prog W.w K}{kvs:List (K×Value)}(x:h.DictOf knd a kvs)(e:h'.get? a=h.get? a):h'.DictOf knd a kvs:=
 x.imp λo q=>q.imp λes q=>q.imp λep q=>⟨e.trans q.1,q.2⟩
theorem OR.move{o:AObj}(r:OR W G h a o)(e:∀b,o.ad a b->h'.get? b=h.get? b):OR W G h' a o:=by
 cases o with
 |list w vs=>exact r.imp λi q=>q.imp λn q=>⟨(e a rfl).trans q.1,q.2⟩
 |dictI w f=>exact r.imp λi q=>⟨r8 q.1 (e a rfl),q.2⟩
 |dictL w f=>exact r.imp λi q=>⟨r8 q.1 (e a rfl),q.2⟩
 |dictS f=>exact r.imp λi q=>⟨r8 q.1 (e a rfl),q.2⟩
 |dictT f=>exact⟨r.1,r.2.imp λi q=>⟨q.1.imp λes q=>q.imp λep q=>⟨(e a rfl).trans q.1,q.2⟩,q.2⟩⟩
 |inst C as=>exact⟨r.1,(e a (.inl rfl)).trans r.2.1,r.2.2.imp λes q=>q.imp λn q=>⟨(e (a-1) (.inr rfl)).trans q.1,q.2⟩⟩
theorem r7{K:Type}[DecidableEq K]{knd:KeyKind W.prog W.w K}{kvs:List (K×Value)}(x:h.DictOf knd a kvs):∃ob,h.get? a=some ob:=x.imp λ_ q=>q.elim λ_ q=>q.elim λ_ q=>q.1
theorem OR.live{o:AObj}(r:OR W G h a o){b:Nat}(e:o.ad a b):∃ob,h.get? b=some ob:=by
 cases o with
 |list w vs=>exact e▸r.elim λ_ q=>q.elim λ_ q=>⟨_,q.1⟩
 |dictI w f=>exact e▸r.elim λ_ q=>r7 q.1
 |dictL w f=>exact e▸r.elim λ_ q=>r7 q.1
 |dictS f=>exact e▸r.elim λ_ q=>r7 q.1
 |dictT f=>exact e▸r.2.elim λ_ q=>q.1.elim λ_ q=>q.elim λ_ q=>⟨_,q.1⟩
 |inst C as=>exact e.elim (λe=>e▸⟨_,r.2.1⟩) λe=>e▸r.2.2.elim λ_ q=>q.elim λ_ q=>⟨_,q.1⟩
end
section
structure Cx where
 ρ:List (Str×AV)
 σ:Tg->Option AObj
def Gh.has(G:Gh)(a:Nat):Prop:=(∃τ,G.own a=some τ)\/(∃o,G.P a=some o\/G.K a=some o)\/∃o,G.Z a=some o
structure SR(W:Wd)(σ:Tg->Option AObj)(G:Gh)(h:Heap):Prop where
 base:∀a o,W.b.get? a=some o->G.P a=some o
 prot:∀a o,G.P a=some o\/G.K a=some o->h.get? a=some o
 zrot:∀a τ o,G.Z a=some (τ,o)->h.get? a=some o
 zst:∀a τ o,G.Z a=some (τ,o)->cStatics<a
 kz:∀a o,G.K a=some o->G.Z a=none
 obj:∀τ o,σ τ=some o->OR W G h (G.μ τ) o
 own:∀τ o a,σ τ=some o->o.wr=true->o.ad (G.μ τ) a->G.own a=some τ
 frz:∀τ o a,σ τ=some o->o.wr=false->o.ad (G.μ τ) a->∃ob,G.Z a=some (τ,ob)
 at_:∀a τ,G.own a=some τ->(G.P a=none/\G.K a=none/\G.Z a=none/\cStatics<a)/\∃o,σ τ=some o/\o.wr=true/\o.ad (G.μ τ) a
structure FS(F:Fm):Prop where
 kind:F.env.scope.kind= .function
 glob:F.env.globals=mainGlobals
 blt:F.env.builtins=builtinsNs
 hnd:F.A.handled=none
 depth:F.A.depth+2*F.n<900
 units:F.A.units+20*F.n<9000
 inj:∀x y c,F.env.cells.lookup x=some c->F.env.cells.lookup y=some c->x=y
 ne:∀x c,F.env.cells.lookup x=some c->c≠F.env.locals
 faL:F.env.locals∈F.fa
 fais:∀a∈F.fa,a=F.env.locals\/∃x,F.env.cells.lookup x=some a
 cfa:F.env.func.isSome=true->∀x c,F.env.cells.lookup x=some c->c∈F.fa
 ccell:∀x,F.env.kindOf x=some .cell->∃c,F.env.cells.lookup x=some c
structure FR(F:Fm)(ρ:List (Str×AV))(G:Gh)(h:Heap):Prop where
 st:FS F
 ns:∃m,h.Ns F.env.locals m/\∀x v,ρ.lookup x=some v->F.env.kindOf x=some .local->∃y,m x=some y/\AVR G v y
 cell:∀x v,ρ.lookup x=some v->F.env.kindOf x=some .cell\/F.env.kindOf x=some .free->∃c y,F.env.cells.lookup x=some c/\h.IsCell c (some y)/\AVR G v y
 live:∀x c,F.env.cells.lookup x=some c->∃v0,h.IsCell c v0
 fa0:∀a∈F.fa,¬G.has a
 cown:∀x c,F.env.cells.lookup x=some c->G.own c=none/\(c∈F.fa\/(G.K c).isSome=true)
structure ST(F:Fm)(c:Cx)(G:Gh)(h:Heap):Prop where
 sr:SR F.W c.σ G h
 fr:FR F c.ρ G h
variable{c:Cx}{F:Fm}{W:Wd}{σ:Tg->Option AObj}{ρ:List (Str×AV)}{G G':Gh}{h h':Heap}{τ:Tg}{o o':AObj}{U:Tg->Prop}
theorem cr{c:Nat}{v:Option Value}(x:h.IsCell c v)(e:h'.get? c=h.get? c):h'.IsCell c v:=x.imp λ_ r=>⟨e.trans r.1,r.2⟩
theorem tf{a:Nat}{m:Str->Option Value}(x:h.Ns a m)(e:h'.get? a=h.get? a):h'.Ns a m:=x.imp λ_ r=>r.imp λ_ r=>r.imp λ_ r=>⟨e.trans r.1,r.2⟩
theorem Gh.not_has{a:Nat}(q:¬G.has a):G.own a=none/\G.P a=none/\G.K a=none/\G.Z a=none:=
 ⟨qp.mpr λτ e=>q (.inl ⟨τ,e⟩),qp.mpr λo e=>q (.inr (.inl ⟨o,.inl e⟩)),qp.mpr λo e=>q (.inr (.inl ⟨o,.inr e⟩)),qp.mpr λo e=>q (.inr (.inr ⟨o,e⟩))⟩
theorem aj{α:Type}{x:Option α}{a:α}(e:x=some a)(n:x=none):False:=Option.some_ne_none a (e.symm.trans n)
theorem Gh.has_not{a:Nat}(q:G.own a=none/\G.P a=none/\G.K a=none/\G.Z a=none):¬G.has a:=λz=>
 z.elim (λz=>z.elim λτ e=>aj e q.1) λz=>z.elim (λz=>z.elim λo e=>e.elim (λe=>aj e q.2.1) λe=>aj e q.2.2.1) λz=>z.elim λo e=>aj e q.2.2.2
theorem SR.has(S:SR W σ G h)(e:σ τ=some o){a:Nat}(q:o.ad (G.μ τ) a):G.has a:=by
 cases w:o.wr with
 |true=>exact .inl ⟨τ,S.own τ o a e w q⟩
 |false=>exact .inr (.inr ((S.frz τ o a e w q).elim λob z=>⟨_,z⟩))
theorem SR.live(S:SR W σ G h){a:Nat}(q:G.has a):∃ob,h.get? a=some ob:=
 q.elim (λq=>q.elim λτ e=>(S.at_ a τ e).2.elim λo e=>(S.obj τ o e.1).live e.2.2) λq=>q.elim (λq=>q.imp λo e=>S.prot a o e) λq=>q.elim λo e=>⟨_,S.zrot a _ _ e⟩
theorem SR.step(S:SR W σ G h)(hk:∀a,G.has a->h'.get? a=h.get? a):SR W σ G h' where
 base:=S.base
 prot:=λa o e=>(hk a (.inr (.inl ⟨o,e⟩))).trans (S.prot a o e)
 zrot:=λa τ o e=>(hk a (.inr (.inr ⟨_,e⟩))).trans (S.zrot a τ o e)
 zst:=S.zst
 kz:=S.kz
 obj:=λτ o e=>(S.obj τ o e).move λb q=>hk b (S.has e q)
 own:=S.own
 frz:=S.frz
 at_:=S.at_
theorem FR.step(S:FR F ρ G h)(hL:h'.get? F.env.locals=h.get? F.env.locals)(hc:∀x c,F.env.cells.lookup x=some c->h'.get? c=h.get? c):FR F ρ G h' where
 st:=S.st
 ns:=S.ns.imp λm q=>⟨tf q.1 hL,q.2⟩
 cell:=λx v e k=>(S.cell x v e k).imp λc q=>q.imp λy q=>⟨q.1,cr q.2.1 (hc x c q.1),q.2.2⟩
 live:=λx c e=>(S.live x c e).imp λv q=>cr q (hc x c e)
 fa0:=S.fa0
 cown:=S.cown
theorem FR.alive(S:FR F ρ G h):(∃o,h.get? F.env.locals=some o)/\∀x c,F.env.cells.lookup x=some c->∃o,h.get? c=some o:=
 ⟨S.ns.elim λ_ q=>q.1.imp λ_ q=>q.elim λ_ q=>q.elim λ_ q=>q.1,λx c e=>(S.live x c e).elim λ_ q=>q.imp λ_ q=>q.1⟩
theorem gw(hk:∀b o,h.get? b=some o->h'.get? b=some o){a:Nat}(e:∃o,h.get? a=some o):h'.get? a=h.get? a:=e.elim λo e=>(hk a o e).trans e.symm
theorem SR.keeps(S:SR W σ G h)(hk:∀b o,h.get? b=some o->h'.get? b=some o):SR W σ G h':=S.step λ_ q=>gw hk (S.live q)
theorem FR.keeps(S:FR F ρ G h)(hk:∀b o,h.get? b=some o->h'.get? b=some o):FR F ρ G h':=S.step (gw hk S.alive.1) λx c e=>gw hk (S.alive.2 x c e)
theorem ST.keeps(S:ST F c G h)(hk:∀b o,h.get? b=some o->h'.get? b=some o):ST F c G h':=⟨S.sr.keeps hk,S.fr.keeps hk⟩
theorem FR.falive(S:FR F ρ G h){a:Nat}(q:a∈F.fa):∃o,h.get? a=some o:=
 (S.st.fais a q).elim (λe=>e▸S.alive.1) λe=>e.elim λx e=>S.alive.2 x a e
theorem FR.mono(S:FR F ρ G h)(e:Gr U G G')(k:∀x v,ρ.lookup x=some v->v.keeps U)(hf:∀a∈F.fa,¬G'.has a)(ho:∀a o,G.K a=some o->G.own a=none->G'.own a=none):FR F ρ G' h where
 st:=S.st
 ns:=S.ns.imp λm q=>⟨q.1,λx v e1 e2=>(q.2 x v e1 e2).imp λy r=>⟨r.1,r.2.mono e (k x v e1)⟩⟩
 cell:=λx v e1 e2=>(S.cell x v e1 e2).imp λc q=>q.imp λy q=>⟨q.1,q.2.1,q.2.2.mono e (k x v e1)⟩
 live:=S.live
 fa0:=hf
 cown:=λx c q=>(S.cown x c q).2.elim (λz=>⟨(G'.not_has (hf c z)).1,.inl z⟩) λz=>(wn.mp z).elim λo z=>⟨ho c o z (S.cown x c q).1,.inr (by rw [(e.k c o z).1];rfl)⟩
theorem SR.fresh(S:SR W σ G h){a:Nat}(ha:h.objs.size<=a):¬G.has a:=λq=>(S.live q).elim λ_ e=>qr.mpr ha (Heap.lt_size e)
theorem FR.fresh(S:FR F ρ G h){a:Nat}(ha:h.objs.size<=a):a∉F.fa:=λq=>(S.falive q).elim λ_ e=>qr.mpr ha (Heap.lt_size e)
theorem SR.statics(S:SR W σ G h): @LT.lt Nat _ cStatics h.objs.size:=
 W.top.nolimit.elim λmc q=>q.1.elim λo q=>q.elim λ_ q=>q.elim λ_ q=>Heap.lt_size (S.prot _ o (.inl (S.base _ o q.1)))
noncomputable def up(σ:Tg->Option AObj)(τ:Tg)(o:AObj):Tg->Option AObj:=λτ'=>if τ'=τ then some o else σ τ'
theorem ba:up σ τ o τ=some o:=if_pos rfl
theorem bc{τ':Tg}(q:τ'≠τ):up σ τ o τ'=σ τ':=if_neg q
theorem i6{τ':Tg}(q:up σ τ o τ'=some o'):(τ'=τ/\o'=o)\/(τ'≠τ/\σ τ'=some o'):=by
 by_cases z:τ'=τ
 ·rw [z,ba] at q;exact .inl ⟨z,(sJx q).symm⟩
 ·rw [bc z] at q;exact .inr ⟨z,q⟩
theorem SR.upd(S:SR W σ G h)(e:σ τ=some o)(hw:o.wr=true)(hw':o'.wr=true)(had:∀a,o'.ad (G.μ τ) a↔o.ad (G.μ τ) a)(hs:∀a,G.own a≠some τ->h'.get? a=h.get? a)(R:OR W G h' (G.μ τ) o'):SR W (up σ τ o') G h' where
 base:=S.base
 prot:=λa x q=>(hs a λz=>q.elim (λq=>aj q (S.at_ a τ z).1.1) λq=>aj q (S.at_ a τ z).1.2.1).trans (S.prot a x q)
 zrot:=λa t x q=>(hs a λz=>aj q (S.at_ a τ z).1.2.2.1).trans (S.zrot a t x q)
 zst:=S.zst
 kz:=S.kz
 obj:=λτ' x q=>(i6 q).elim (λz=>z.1▸z.2▸R) λz=>(S.obj τ' x z.2).move λb r=>hs b λy=>by
  cases w:x.wr with
  |true=>exact z.1 (sJx ((S.own τ' x b z.2 w r).symm.trans y))
  |false=>exact(S.frz τ' x b z.2 w r).elim λob q=>aj q (S.at_ b τ y).1.2.2.1
 own:=λτ' x a q w r=>(i6 q).elim (λz=>z.1▸S.own τ o a e hw ((had a).mp (z.2▸z.1▸r))) λz=>S.own τ' x a z.2 w r
 frz:=λτ' x a q w r=>(i6 q).elim (λz=>absurd (hw'.symm.trans (z.2▸w)) (by decide)) λz=>S.frz τ' x a z.2 w r
 at_:=λa τ' q=>⟨(S.at_ a τ' q).1,(S.at_ a τ' q).2.elim λx r=>by
  by_cases z:τ'=τ
  ·rw [z] at r
   have:=r.1
   rw [e] at this
   exact⟨o',z▸ba,hw',by rw [z];exact(had a).mpr (sJx this▸r.2.2)⟩
  ·exact⟨x,(bc z).trans r.1,r.2⟩⟩
theorem ST.upd(S:ST F c G h)(e:c.σ τ=some o)(hw:o.wr=true)(hw':o'.wr=true)(had:∀a,o'.ad (G.μ τ) a↔o.ad (G.μ τ) a)(hs:∀a,G.own a≠some τ->h'.get? a=h.get? a)(R:OR F.W G h' (G.μ τ) o'):ST F ⟨c.ρ,up c.σ τ o'⟩ G h':=
 ⟨S.sr.upd e hw hw' had hs R,S.fr.step (hs _ λq=>S.fr.fa0 _ S.fr.st.faL (.inl ⟨_,q⟩)) λx c q=>hs _ λz=>Option.some_ne_none _ (z.symm.trans (S.fr.cown x c q).1)⟩
end
section
noncomputable abbrev Mk(W:Wd):Model:=model W.prog W.w
abbrev no:Value->Shared->Prop:=λ_ _=>False
abbrev ek:Tg->Prop:=λ_=>True
def SS(s s':Shared):Prop:=s'.gens=s.gens/\s'.drawn=s.drawn/\s'.os=s.os
set_option genCtorIdx false
inductive Fl where
 |next
 |ret (a:AV)
noncomputable def Fl.ctorIdx(x:Fl):Nat:=Fl.casesOn x 0 λ_=>1
def FlR(G:Gh):Fl->Flow->Prop
 | .next,f=>f= .next
 | .ret a,f=>∃v,f= .ret v/\AVR G a v
inductive RA{α:Type}(F:Fm)(U:Tg->Prop)(c:Cx)(G:Gh)(s:Shared)(R:Gh->α->Prop)(v:α)(s':Shared):Prop
 |mk (G':Gh) (e:Gr U G G') (S:ST F c G' s'.heap) (r:R G' v) (q:SS s s')
variable{α:Type}{c c1 c2 c3:Cx}{F:Fm}{W:Wd}{G G' G'':Gh}{h:Heap}{τ:Tg}{o:AObj}{U U':Tg->Prop}{s s' s'':Shared}{a b r:AV}{R:Gh->α->Prop}
theorem SS.refl:SS s s:=⟨Eq.refl _,Eq.refl _,Eq.refl _⟩
theorem SS.trans(x:SS s s')(y:SS s' s''):SS s s'':=⟨y.1.trans x.1,y.2.1.trans x.2.1,y.2.2.trans x.2.2⟩
theorem SS.heap(h:Heap)(t:Nat):SS s {s with heap:=h,toks:=t}:=⟨Eq.refl _,Eq.refl _,Eq.refl _⟩
theorem Gr.refl:Gr U G G:=⟨λ_ _ q=>q,λ_ _ q=>⟨q,Eq.refl _⟩,λ_ _ q=>⟨q,Eq.refl _⟩,λ_ _=>Eq.refl _⟩
theorem Gr.trans(x:Gr U G G')(y:Gr U G' G''):Gr U G G'':=
 ⟨λa o q=>y.p a o (x.p a o q),λa o q=>⟨(y.k a o (x.k a o q).1).1,(y.k a o (x.k a o q).1).2.trans (x.k a o q).2⟩,λa o q=>⟨(y.z a o (x.z a o q).1).1,(y.z a o (x.z a o q).1).2.trans (x.z a o q).2⟩,λτ q=>(y.m τ q).trans (x.m τ q)⟩
theorem AV.keepsT:a.keeps ek:=by cases a<;>trivial
def Do{α:Type}(F:Fm)(U:Tg->Prop)(c:Cx)(t:Sem α)(R:Gh->α->Prop)(c':Cx):Prop:=
 ∀G s,ST F c G s.heap->wpAny (Mk F.W) F.A t (RA F U c' G s R) no s
def Ev(F:Fm)(U:Tg->Prop)(c:Cx)(e:Expr)(a:AV)(c':Cx):Prop:=Do F U c (eval e F.env) (λG=>AVR G a) c'
def Op1(F:Fm)(U:Tg->Prop)(c:Cx)(f:Value->Sem Value)(a r:AV)(c':Cx):Prop:=
 ∀G s x,ST F c G s.heap->AVR G a x->wpAny (Mk F.W) F.A (f x) (RA F U c' G s λG=>AVR G r) no s
def mf(F:Fm)(U:Tg->Prop)(c:Cx)(f:Value->Value->Sem Value)(a b r:AV)(c':Cx):Prop:=
 ∀G s x y,ST F c G s.heap->AVR G a x->AVR G b y->wpAny (Mk F.W) F.A (f x y) (RA F U c' G s λG=>AVR G r) no s
def OpL(F:Fm)(U:Tg->Prop)(c:Cx)(f:List Value->Sem Value)(as:List AV)(r:AV)(c':Cx):Prop:=
 ∀G s xs,ST F c G s.heap->All2 (AVR G) as xs->wpAny (Mk F.W) F.A (f xs) (RA F U c' G s λG=>AVR G r) no s
def OpT(F:Fm)(U:Tg->Prop)(c:Cx)(a:AV)(t:Bool)(c':Cx):Prop:=
 ∀G s x,ST F c G s.heap->AVR G a x->wpAny (Mk F.W) F.A (truthy x) (RA F U c' G s λ_ b=>b=t) no s
def Xs(F:Fm)(U:Tg->Prop)(c:Cx)(ss:List Stmt)(fl:Fl)(c':Cx):Prop:=Do F U c (execs ss F.env) (λG=>FlR G fl) c'
def X1(F:Fm)(U:Tg->Prop)(c:Cx)(st:Stmt)(fl:Fl)(c':Cx):Prop:=Do F U c (exec st F.env) (λG=>FlR G fl) c'
def It(F:Fm)(U:Tg->Prop)(c:Cx)(e:Expr)(t:Bool)(c':Cx):Prop:=Do F U c (isTrue e F.env (eval e F.env)) (λ_ b=>b=t) c'
theorem RA.glue{v:α}(e:Gr U G G')(q:SS s s')(x:RA F U c G' s' R v s''):RA F U c G s R v s'':=x.casesOn λg e' S r q'=>⟨g,e.trans e',S,r,q.trans q'⟩
theorem RA.here{v:α}(S:ST F c G s'.heap)(r:R G v)(q:SS s s'):RA F U c G s R v s':=⟨G,.refl,S,r,q⟩
theorem Do.bind{t:Sem α}{Q:α->Shared->Prop}(E:Do F U c t R c1)(S:ST F c G s.heap)(k:∀G' v s',ST F c1 G' s'.heap->R G' v->Gr U G G'->SS s s'->Q v s'):wpAny (Mk F.W) F.A t Q no s:=
 wM (E G s S) (λv s' x=>x.casesOn λg e S r q=>k g v s' S r e q) λ_ _ z=>z
theorem fh{t:Sem α}(e:Gr U G G')(q:SS s s')(x:wpAny (Mk F.W) F.A t (RA F U c G' s' R) no s'):wpAny (Mk F.W) F.A t (RA F U c G s R) no s':=wM x (λ_ _ x=>x.glue e q) λ_ _ z=>z
theorem Do.then{t:Sem α}(E:Do F U c t R c1)(e:Gr U G G')(q:SS s s')(S:ST F c G' s'.heap):wpAny (Mk F.W) F.A t (RA F U c1 G s R) no s':=fh e q (E G' s' S)
theorem Gr.weak(h:∀τ,U' τ->U τ)(g:Gr U G G'):Gr U' G G':=⟨g.p,g.k,g.z,λτ q=>g.m τ (h τ q)⟩
theorem Do.weak{t:Sem α}(h:∀τ,U' τ->U τ)(E:Do F U c t R c1):Do F U' c t R c1:=λG s S=>wM (E G s S) (λ_ _ z=>z.casesOn λG1 g S r q=>⟨G1,g.weak h,S,r,q⟩) λ_ _ z=>z
theorem e_bin{l r:Expr}{op:Operator}{pos:Pos}{x:AV}(E1:Ev F U c l a c1)(E2:Ev F U' c1 r b c2)(hU:∀τ,U τ->U' τ)(ha:a.keeps U')(O:mf F U c2 (binaryOp op) a b x c3):Ev F U c (.BinOp l op r pos) x c3:=λG s S=>
 wpAny_BinOp (E1.bind S λG1 v s1 S1 r1 g1 q1=>E2.bind S1 λG2 w s2 S2 r2 g2 q2=>fh (g1.trans (g2.weak hU)) (q1.trans q2) (O G2 s2 v w S2 (r1.mono g2 ha) r2))
theorem e_cmp{l r:Expr}{op:CmpOp}{pos:Pos}{x:AV}(E1:Ev F U c l a c1)(E2:Ev F U' c1 r b c2)(hU:∀τ,U τ->U' τ)(ha:a.keeps U')(O:mf F U c2 (compareOp op) a b x c3)(hm:behindInMarks op r=false):Ev F U c (.Compare l [op] [r] pos) x c3:=λG s S=>
 wpAny_Compare1 (E1.bind S λG1 v s1 S1 r1 g1 q1=>E2.bind S1 λG2 w s2 S2 r2 g2 q2=>fh (g1.trans (g2.weak hU)) (q1.trans q2) (O G2 s2 v w S2 (r1.mono g2 ha) r2)) hm
theorem e_sub{l r:Expr}{pos:Pos}{x:AV}(E1:Ev F U c l a c1)(E2:Ev F U' c1 r b c2)(hU:∀τ,U τ->U' τ)(ha:a.keeps U')(O:mf F U c2 (subscriptTail l r) a b x c3):Ev F U c (.Subscript l r pos) x c3:=λG s S=>
 Subscript_ (E1.bind S λG1 v s1 S1 r1 g1 q1=>E2.bind S1 λG2 w s2 S2 r2 g2 q2=>fh (g1.trans (g2.weak hU)) (q1.trans q2) (O G2 s2 v w S2 (r1.mono g2 ha) r2))
theorem Hs{l:Expr}{op:UnaryOp}{pos:Pos}{x:AV}(E1:Ev F U c l a c1)(O:Op1 F U c1 (unaryOp op) a x c2):Ev F U c (.UnaryOp op l pos) x c2:=λG s S=>
 wpAny_UnaryOp (E1.bind S λG1 v s1 S1 r1 g1 q1=>fh g1 q1 (O G1 s1 v S1 r1))
theorem e_none{k:Nat}{pos:Pos}:Ev F U c (.Constant .none k pos) (.dat .none) c:=λG s S=>wP (.here S (Eq.refl _) .refl)
theorem e_bool{k:Nat}{pos:Pos}{b:Bool}:Ev F U c (.Constant (.bool b) k pos) (.dat (.bool b)) c:=λG s S=>wP (.here S (Eq.refl _) .refl)
theorem e_int{k:Nat}{pos:Pos}{i:Int}:Ev F U c (.Constant (.int i) k pos) (.dat (.int i)) c:=λG s S=>wpAny_mkInt (.here (s':={s with toks:=s.toks+1}) S ⟨_,Eq.refl _⟩ (SS.heap s.heap _))
theorem e_str{k:Nat}{pos:Pos}{x:Str}(hx:PyData.strOk x=true):Ev F U c (.Constant (.str x) k pos) (.dat (.str x)) c:=λG s S=>wpAny_mkText (.here (s':={s with toks:=s.toks+1}) S ⟨hx,_,Eq.refl _⟩ (SS.heap s.heap _))
noncomputable def ul:Option NameKind->Bool
 |some .local=>true
 |some .cell=>true
 |some .free=>true
 |_=>false
theorem e_name{x:Str}{pos:Pos}(hv:c.ρ.lookup x=some a)(hk:ul (F.env.kindOf x)=true)(hd:(x==("__debug__":Str))=false)(hc:(x==("__classdict__":Str))=false):Ev F U c (.Name x pos) a c:=λG s S=>by
 cases q:F.env.kindOf x with
 |none=>rw [q] at hk;cases hk
 |some k=>
  cases k with
  |«local»=>obtain⟨m,hn,hm⟩:=S.fr.ns;obtain⟨y,hy,r⟩:=hm x a hv q;exact wpAny_Name (wpAny_loadName_local S.fr.st.kind q hn hy (.here S r .refl)) hd
  |cell=>obtain⟨c,y,hc',hi,r⟩:=S.fr.cell x a hv (.inl q);exact wpAny_Name (wpAny_loadName_cell S.fr.st.kind q hc' hi (.here S r .refl)) hd
  |free=>obtain⟨c,y,hc',hi,r⟩:=S.fr.cell x a hv (.inr q);exact wpAny_Name (wpAny_loadName_free S.fr.st.kind q hc' hi (.here S r .refl) hc) hd
  |_=>rw [q] at hk;cases hk
theorem ST.base(S:ST F c G h)(b:Nat)(o:Obj)(e:F.W.b.get? b=some o):h.get? b=some o:=S.sr.prot b o (.inl (S.sr.base b o e))
theorem ST.kin(S:ST F c G h):F.W.K.In h:=F.W.kin.keeps S.base
theorem e_glob{x:Str}{pos:Pos}{v:Value}(e:nsIn F.W.K mainGlobals x=some (some v))(hx:F.env.kindOf x=some .globalImplicit)(hr:∀G:Gh,(∀a o,F.W.K.lookup a=some o->G.P a=some o)->AVR G a v)(hd:(x==("__debug__":Str))=false):Ev F U c (.Name x pos) a c:=λG s S=>
 Name_function_global S.fr.st.kind hx (loadGlobal_global (S.fr.st.glob▸F.W.top.g.keeps S.base) (mg_of F.W.kin F.W.top.g e) (.here S (hr _ λb o q=>S.sr.base b o (F.W.kin b o q)) .refl)) hd
variable{σ:Tg->Option AObj}{ρ:List (Str×AV)}{h':Heap}{t u:Bool}{fl:Fl}
theorem Op1.then{f:Value->Sem Value}{v:Value}(O:Op1 F U c1 f a b c2)(e:Gr U G G')(q:SS s s')(S:ST F c1 G' s'.heap)(r:AVR G' a v):wpAny (Mk F.W) F.A (f v) (RA F U c2 G s λG=>AVR G b) no s':=fh e q (O G' s' v S r)
theorem OpT.then{v:Value}(O:OpT F U c1 a t c2)(e:Gr U G G')(q:SS s s')(S:ST F c1 G' s'.heap)(r:AVR G' a v):wpAny (Mk F.W) F.A (truthy v) (RA F U c2 G s λ_ b=>b=t) no s':=fh e q (O G' s' v S r)
theorem t_bool{b:Bool}:OpT F U c (.dat (.bool b)) b c:=λG s x S r=>by rw [show x=_ from r];exact wpAny_truthy_bool (.here S (Eq.refl _) .refl)
theorem i_val{e:Expr}(E:Ev F U c e a c1)(O:OpT F U c1 a t c2)(he:∀env whole,isTrue e env whole=(do let v<-whole;standAt e.pos;holding [v] (truthy v))):It F U c e t c2:=λG s S=>
 wpAny_isTrue_value (E.bind S λG1 v s1 S1 r1 g1 q1=>O.then g1 q1 S1 r1) (he _ _)
theorem i_cmp{l r:Expr}{op:CmpOp}{pos:Pos}(E1:Ev F U c l a c1)(E2:Ev F U' c1 r b c2)(hU:∀τ,U τ->U' τ)(ha:a.keeps U')(O:mf F U c2 (compareOp op) a b (.dat (.bool t)) c3)(hm:behindInMarks op r=false):It F U c (.Compare l [op] [r] pos) t c3:=λG s S=>
 wpAny_isTrue_Compare1 (E1.bind S λG1 v s1 S1 r1 g1 q1=>E2.bind S1 λG2 w s2 S2 r2 g2 q2=>wM (O G2 s2 v w S2 (r1.mono g2 ha) r2) (λx s3 z=>z.casesOn λg3 e3 S3 r3 q3=>t_bool.then ((g1.trans (g2.weak hU)).trans e3) ((q1.trans q2).trans q3) S3 r3) λ_ _ z=>z) hm
theorem i_not{x:Expr}{pos:Pos}(E:It F U c x t c1):It F U c (.UnaryOp .Not x pos) (!t) c1:=λG s S=>
 wpAny_isTrue_Not (E.bind S λG1 v s1 S1 r1 g1 q1=>⟨G1,g1,S1,cGx (! ·) r1,q1⟩)
def At(F:Fm)(U:Tg->Prop)(c:Cx)(op:BoolOp)(es:List Expr)(t:Bool)(c':Cx):Prop:=Do F U c (allTrue op es F.env) (λ_ b=>b=t) c'
theorem Bc{op:BoolOp}{es:List Expr}{pos:Pos}(E:At F U c op es t c1):It F U c (.BoolOp op es pos) t c1:=λG s S=>wpAny_isTrue_BoolOp (E G s S)
theorem a_and0:At F U c .And [] true c:=λG s S=>wpAny_allTrue_And_nil (.here S (Eq.refl _) .refl)
theorem a_or0:At F U c .Or [] false c:=λG s S=>wpAny_allTrue_Or_nil (.here S (Eq.refl _) .refl)
theorem a_and{e:Expr}{es:List Expr}(E:It F U c e u c1)(k:if u=true then At F U c1 .And es t c2 else t=false/\c2=c1):At F U c .And (e::es) t c2:=λG s S=>
 wpAny_allTrue_And_cons (E.bind S λG1 v s1 S1 r1 g1 q1=>by
  rw [show v=u from r1]
  cases u with
  |true=>exact Do.then k g1 q1 S1
  |false=>obtain⟨rfl,rfl⟩:=k;exact⟨G1,g1,S1,rfl,q1⟩)
theorem a_or{e:Expr}{es:List Expr}(E:It F U c e u c1)(k:if u=true then t=true/\c2=c1 else At F U c1 .Or es t c2):At F U c .Or (e::es) t c2:=λG s S=>
 wpAny_allTrue_Or_cons (E.bind S λG1 v s1 S1 r1 g1 q1=>by
  rw [show v=u from r1]
  cases u with
  |false=>exact Do.then k g1 q1 S1
  |true=>obtain⟨rfl,rfl⟩:=k;exact⟨G1,g1,S1,rfl,q1⟩)
theorem e_if{x b o:Expr}{pos:Pos}(E:It F U c x t c1)(k:if t=true then Ev F U c1 b a c2 else Ev F U c1 o a c2):Ev F U c (.IfExp x b o pos) a c2:=λG s S=>
 wpAny_IfExp (E.bind S λG1 v s1 S1 r1 g1 q1=>by
  rw [show v=t from r1]
  cases t<;>exact Do.then k g1 q1 S1)
theorem e_not{x:Expr}{pos:Pos}(E:Ev F U c x a c1)(O:OpT F U c1 a t c2):Ev F U c (.UnaryOp .Not x pos) (.dat (.bool (!t))) c2:=
 Hs E λG s x S r=>not_of (wM (O G s x S r) (λb s1 z=>z.casesOn λg e S r q=>⟨g,e,S,cGx (λt=>Value.bool (!t)) r,q⟩) λ_ _ z=>z)
theorem e_one{op:BoolOp}{e:Expr}{pos:Pos}(E:Ev F U c e a c1):Ev F U c (.BoolOp op [e] pos) a c1:=λG s S=>BoolOp_one (E G s S)
theorem e_and{e₁ e₂:Expr}{rest:List Expr}{pos:Pos}(E:Ev F U c e₁ a c1)(O:OpT F U c1 a t c2)(ha:a.keeps U)(k:if t=true then Ev F U c2 (.BoolOp .And (e₂::rest) pos) b c3 else b=a/\c3=c2):Ev F U c (.BoolOp .And (e₁::e₂::rest) pos) b c3:=λG s S=>
 BoolOp_and (E.bind S λG1 v s1 S1 r1 g1 q1=>wM (O G1 s1 v S1 r1) (λw s2 z=>z.casesOn λG2 g2 S2 r2 q2=>by
  rw [show w=t from r2]
  cases t with
  |true=>exact Do.then k (g1.trans g2) (q1.trans q2) S2
  |false=>obtain⟨rfl,rfl⟩:=k;exact⟨G2,g1.trans g2,S2,r1.mono g2 ha,q1.trans q2⟩) λ_ _ z=>z)
theorem x_nil:Xs F U c [] .next c:=λG s S=>wP (.here S (Eq.refl _) .refl)
theorem x_cons{st:Stmt}{ss:List Stmt}(E:X1 F U c st .next c1)(k:Xs F U c1 ss fl c2):Xs F U c (st::ss) fl c2:=λG s S=>by
 rw [execs_cons]
 exact wB (E.bind S λG1 v s1 S1 r1 g1 q1=>by rw [show v=_ from r1];exact Do.then k g1 q1 S1)
theorem H1{st:Stmt}{ss:List Stmt}(E:X1 F U c st (.ret a) c1):Xs F U c (st::ss) (.ret a) c1:=λG s S=>by
 rw [execs_cons]
 exact wB (E.bind S λG1 v s1 S1 r1 g1 q1=>by obtain⟨w,rfl,r⟩:=r1;exact wP ⟨G1,g1,S1,⟨w,Eq.refl _,r⟩,q1⟩)
theorem x_if{x:Expr}{b o:List Stmt}{pos:Pos}(E:It F U c x t c1)(k:if t=true then Xs F U c1 b fl c2 else Xs F U c1 o fl c2):X1 F U c (.If x b o pos) fl c2:=λG s S=>by
 show wpAny _ _ (do standAt pos;if<-isTrue x F.env (eval x F.env) then execs b F.env else execs o F.env) _ _ s
 refine wB (wpAny_standAt (wB (E.bind S λG1 v s1 S1 r1 g1 q1=> ?_)))
 rw [show v=t from r1]
 cases t<;>exact Do.then k g1 q1 S1
theorem x_return{e:Expr}{pos:Pos}(E:Ev F U c e a c1):X1 F U c (.Return (some e) pos) (.ret a) c1:=λG s S=>
 wpAny_Return_some (E.bind S λG1 v s1 S1 r1 g1 q1=>⟨G1,g1,S1,⟨v,Eq.refl _,r1⟩,q1⟩)
theorem N5{pos:Pos}:X1 F U c (.Return none pos) (.ret (.dat .none)) c:=λG s S=>wpAny_Return_none (.here S ⟨_,Eq.refl _,Eq.refl _⟩ .refl)
theorem x_expr{e:Expr}{pos:Pos}(E:Ev F U c e a c1)(hs:∀env,swapsWith e none pos.line env=pure false):X1 F U c (.Expr e pos) .next c1:=λG s S=>
 wpAny_Expr_any (E.bind S λG1 v s1 S1 r1 g1 q1=>⟨G1,g1,S1,Eq.refl _,q1⟩) (by unfold interactive;rw [S.fr.st.kind];rfl) (hs _)
section
variable{K:Type}{β:Type _}[DecidableEq K]{ρ:List (K×β)}{a:β}
noncomputable def aq:List (K×β)->K->β->List (K×β)
 |[],x,a=>[(x,a)]
 |(y,b)::r,x,a=>if y=x then(x,a)::r else(y,b)::aq r x a
theorem pe{x:K}:(aq ρ x a).lookup x=some a:=by
 induction ρ with
 |nil=>exact List.lookup_cons_self
 |cons p r ih=>
  unfold aq
  split
  ·exact List.lookup_cons_self
  ·rename_i z;rw [kf,beq_false_of_ne (Ne.symm z)];exact ih
theorem ew{x y:K}(q:y≠x):(aq ρ x a).lookup y=ρ.lookup y:=by
 induction ρ with
 |nil=>unfold aq;rw [kf,beq_false_of_ne q]
 |cons p r ih=>
  obtain⟨z,b⟩:=p
  unfold aq
  split
  ·rename_i e;rw [kf,kf,e,beq_false_of_ne q]
  ·rw [kf,kf,ih]
theorem Mv{x:K}:∀y∈(aq ρ x a).map (·.1),y=x\/y∈ρ.map (·.1):=by
 induction ρ with
 |nil=>exactλy m=> .inl (jg.mp m)
 |cons p r ih=>
  unfold aq
  split
  ·exactλy m=>(jh.mp m).imp id λm=> .tail _ m
  ·exactλy m=>(jh.mp m).elim (λe=> .inr (e▸ .head _)) λm=>(ih y m).imp id λm=> .tail _ m
theorem Gg{x:K}(h:(ρ.map (·.1)).Nodup):((aq ρ x a).map (·.1)).Nodup:=by
 induction ρ with
 |nil=>exact kj.mpr ⟨(nomatch ·),qt⟩
 |cons p r ih=>
  rw [jz,kj] at h
  unfold aq
  split
  ·rename_i e;exact kj.mpr ⟨e▸h.1,h.2⟩
  ·rename_i n;exact kj.mpr ⟨λm=>(Mv p.1 m).elim n h.1,ih h.2⟩
end
noncomputable def cj:Option NameKind->Bool
 |some .local=>true
 |some .cell=>true
 |_=>false
theorem SR.frame{a:Nat}(S:SR W σ G h)(q:¬G.has a)(hs:Heap.SameBut a h h'):SR W σ G h':=S.step λb z=>hs.2 b λe=>q (e▸z)
theorem dt{x:Str}{v:Value}{Q:Unit->Shared->Prop}(hk:cj (F.env.kindOf x)=true)(hf:F.env.func.isSome=true\/F.env.kindOf x=some .local)(S:ST F c G s.heap)(r:AVR G a v)
  (k:∀s',ST F ⟨aq c.ρ x a,c.σ⟩ G s'.heap->SS s s'->Q () s'):wpAny (Mk F.W) F.A (storeName F.env x v) Q no s:=by
 obtain⟨m,hn,hm⟩:=S.fr.ns
 cases q:F.env.kindOf x with
 |none=>rw [q] at hk;cases hk
 |some kd=>
  cases kd with
  |«local»=>
   refine wpAny_storeName_local q hn (λh' h1 hs=>k _ ⟨S.sr.frame (S.fr.fa0 _ S.fr.st.faL) hs,S.fr.st,⟨_,h1,λy w e kl=> ?_⟩,λy w e kl=> ?_,λy c e=>(S.fr.live y c e).imp λv0 z=>cr z (hs.2 c (S.fr.st.ne y c e)),S.fr.fa0,S.fr.cown⟩ (SS.heap _ _)) (by rw [S.fr.st.kind];rfl)
   ·by_cases z:y=x
    ·rw [z,pe] at e;exact⟨v,if_pos z,sJx e▸r⟩
    ·rw [ew z] at e;rw [if_neg z];exact hm y w e kl
   ·have z:y≠x:=λz=>by rw [z,q] at kl;rcases kl with kl|kl<;>cases kl
    rw [ew z] at e
    exact(S.fr.cell y w e kl).imp λc z=>z.imp λu z=>⟨z.1,cr z.2.1 (hs.2 c (S.fr.st.ne y c z.1)),z.2.2⟩
  |cell=>
   have hf:=hf.resolve_right (by rw [q];intro z;cases z)
   obtain⟨c',hc⟩:=S.fr.st.ccell x q
   obtain⟨v0,hv⟩:=S.fr.live x c' hc
   refine wpAny_storeName_cell S.fr.st.kind q hc hv λh' h1 hs=>k _ ⟨S.sr.frame (S.fr.fa0 _ (S.fr.st.cfa hf x c' hc)) hs,S.fr.st,⟨m,tf hn (hs.2 _ (Ne.symm (S.fr.st.ne x c' hc))),λy w e kl=> ?_⟩,λy w e kl=> ?_,λy c e=> ?_,S.fr.fa0,S.fr.cown⟩ (SS.heap _ _)
   ·have z:y≠x:=λz=>by rw [z,q] at kl;cases kl
    rw [ew z] at e;exact hm y w e kl
   ·by_cases z:y=x
    ·rw [z,pe] at e;exact⟨c',v,z▸hc,h1,sJx e▸r⟩
    ·rw [ew z] at e
     exact(S.fr.cell y w e kl).imp λd u=>u.imp λ_ u=>⟨u.1,cr u.2.1 (hs.2 d λp=>z (S.fr.st.inj y x d u.1 (p▸hc))),u.2.2⟩
   ·by_cases z:c=c'
    ·exact⟨_,z▸h1⟩
    ·exact(S.fr.live y c e).imp λv0 u=>cr u (hs.2 c z)
  |_=>rw [q] at hk;cases hk
theorem x_name{x:Str}{p pos:Pos}{e:Expr}(E:Ev F U c e a c1)(hk:cj (F.env.kindOf x)=true)(hf:F.env.func.isSome=true\/F.env.kindOf x=some .local)(hs:swapsWith e (some (.Name x p)) pos.line F.env=pure false):X1 F U c (.Assign [.Name x p] e pos) .next ⟨aq c1.ρ x a,c1.σ⟩:=λG s S=>
 wpAny_Assign_Name (E.bind S λG1 v s1 S1 r1 g1 q1=>dt hk hf S1 r1 λs2 S2 q2=>⟨G1,g1,S2,Eq.refl _,q1.trans q2⟩) hs
variable{d:AV}
noncomputable def Gh.prot(G:Gh)(a:Nat)(o:Obj):Gh:={G with P:=λb=>if b=a then some o else G.P b}
theorem AObj.keepsT:o.keeps ek:=by
 cases o with
 |list w vs=>exactλy _=>y.keepsT
 |dictI w f=>exactλ_ v _=>v.keepsT
 |dictL w f=>exactλy _=>y.2.keepsT
 |dictS f=>exactλ_ v _=>v.keepsT
 |dictT f=>exactλ_ v _=>v.keepsT
 |inst C as=>exactλy _=>y.2.keepsT
theorem Gr.prot{a:Nat}{ob:Obj}(q:¬G.has a):Gr U G (G.prot a ob):=
 have n:=G.not_has q
 ⟨λb x e=>(if_neg λz=>aj (z▸e) n.2.1).trans e,λb x e=>⟨e,if_neg λz=>aj (z▸e) n.2.2.1⟩,λb x e=>⟨e,if_neg λz=>aj (z▸e) n.2.2.2⟩,λ_ _=>Eq.refl _⟩
theorem SR.grow(S:SR W σ G h)(e:Gr ek G G')(ho:G'.own=G.own)(hz:G'.Z=G.Z)(kz:∀a x,G'.K a=some x->G.Z a=none)(pr:∀a x,G'.P a=some x\/G'.K a=some x->h.get? a=some x)(ap:∀a τ,G.own a=some τ->G'.P a=none/\G'.K a=none):SR W σ G' h where
 base:=λa x q=>e.p a x (S.base a x q)
 prot:=pr
 zrot:=λa t x q=>S.zrot a t x (hz▸q)
 zst:=λa t x q=>S.zst a t x (hz▸q)
 kz:=λa x q=>hz▸kz a x q
 obj:=λτ x q=>e.m τ trivial▸(S.obj τ x q).mono e x.keepsT
 own:=λτ x a q w z=>ho▸S.own τ x a q w (e.m τ trivial▸z)
 frz:=λτ x a q w z=>hz▸S.frz τ x a q w (e.m τ trivial▸z)
 at_:=λa τ q=>by
  rw [ho] at q
  obtain⟨z,x⟩:=S.at_ a τ q
  rw [e.m τ trivial,hz]
  exact⟨⟨(ap a τ q).1,(ap a τ q).2,z.2.2⟩,x⟩
theorem Ic{a b:Nat}{ob:Obj}(m:b≠a)(z:¬G.has b):¬(G.prot a ob).has b:=λy=>z (y.imp id λy=>y.imp (λy=>y.imp λx y=>y.imp (λy=>(if_neg m).symm.trans y) id) id)
theorem ST.protect{a:Nat}{ob:Obj}(S:ST F c G h)(q:¬G.has a)(hf:a∉F.fa)(e:h.get? a=some ob):ST F c (G.prot a ob) h:=by
 have n:=G.not_has q
 refine⟨S.sr.grow (.prot q) rfl rfl S.sr.kz (λb x z=> ?_) (λb τ z=>⟨(if_neg λ(y:b=a)=>aj (y▸z) n.1).trans (S.sr.at_ b τ z).1.1,(S.sr.at_ b τ z).1.2.1⟩),S.fr.mono (U:=ek) (.prot q) (λ_ v _=>v.keepsT) (λb m=>Ic (λy=>hf (y▸m)) (S.fr.fa0 b m)) λ_ _ _ z=>z⟩
 by_cases y:b=a
 ·exact z.elim (λz=>by rw [y];exact e.trans ((if_pos y).symm.trans z)) λz=>S.sr.prot b x (.inr z)
 ·exact z.elim (λz=>S.sr.prot b x (.inl ((if_neg y).symm.trans z))) λz=>S.sr.prot b x (.inr z)
theorem ST.push(S:ST F c G h)(ob:Obj):ST F c G (h.push ob):=S.keeps λ_ _ e=>Heap.get?_push_of_some _ e
theorem ST.data{ob:Obj}(S:ST F c G h)(nf:ob.isFreed=false):Gr U G (G.prot h.objs.size ob)/\ST F c (G.prot h.objs.size ob) (h.push ob)/\(G.prot h.objs.size ob).P h.objs.size=some ob:=
 have q:=S.sr.fresh (jc h.objs.size)
 ⟨.prot q,(S.push ob).protect q (S.fr.fresh (jc _)) (Heap.get?_push_size _ nf),if_pos rfl⟩
theorem All2.dats{ds:List PyData}{vs:List Value}(r:All2 (AVR G) (ds.map .dat) vs):DRs G.P ds vs:=by
 induction ds generalizing vs with
 |nil=>cases r;exact rfl
 |cons d ds ih=>cases r with|cons r q=>exact⟨_,_,rfl,r,ih q⟩
theorem DRs.dats{ds:List PyData}{vs:List Value}(r:DRs G.P ds vs):All2 (AVR G) (ds.map .dat) vs:=by
 induction ds generalizing vs with
 |nil=>rw [show vs=[] from r];exact .nil
 |cons d ds ih=>obtain⟨y,ys,e,r,q⟩:=r;rw [e];exact .cons r (ih q)
theorem DRs.mono{P P':Nat->Option Obj}(e:∀a o,P a=some o->P' a=some o){ds:List PyData}{vs:List Value}(r:DRs P ds vs):DRs P' ds vs:= .of (r.all.mono λd _ v r=>r.mono e)
def Ce(F:Fm)(U:Tg->Prop)(c:Cx)(es:List Expr)(as:List AV)(c':Cx):Prop:=∀pos,Do F U c (spliced (backTo pos (starEach es F.env))) (λG=>All2 (AVR G) as) c'
theorem sg:Ce F U c [] [] c:=λpos G s S=>spliced_none (.here S .nil .refl)
theorem gb{e:Expr}{es:List Expr}{as:List AV}(E:Ev F U c e a c1)(k:Ce F U' c1 es as c2)(hU:∀τ,U τ->U' τ)(ha:a.keeps U')(he:∀env,starEach (e::es) env=(false,eval e env)::starEach es env):Ce F U c (e::es) (a::as) c2:=λpos G s S=>
 spliced_more (E.bind S λG1 v s1 S1 r1 g1 q1=>(k pos).bind S1 λG2 vs s2 S2 r2 g2 q2=>⟨G2,g1.trans (g2.weak hU),S2,.cons (r1.mono g2 ha) r2,q1.trans q2⟩) (he _)
theorem pj{n:Nat}{β γ:Type}{R:β->γ->Prop}{xs:List β}{ys:List γ}(r:All2 R xs ys)(hz:xs.length<=n):ys.length<=n:=r.length▸hz
theorem big{n:Nat}(h:n<=1000000):(n:Int)<2^63:=xr (Int.ofNat_le.mpr h) (by decide)
theorem Go(m:Nat):(-1+(m:Int)).toNat=m-1:=by
 cases m with
 |zero=>rfl
 |succ m=>rw [Int.natCast_succ,Int.add_comm,Int.add_neg_cancel_right];rfl
theorem b6{n:Nat}(h:n<=10000000):n<=sizeLine:=sizeLine_eq▸ja h (by decide)
theorem e_tuple{es:List Expr}{k:Nat}{pos:Pos}{ds:List PyData}(E:Ce F U c es (ds.map .dat) c1)(hz:(ds.map AV.dat).length<=10000000):Ev F U c (.Tuple es k pos) (.dat (.tuple ds)) c1:=λG s S=>
 Tuple_ ((E pos).bind S λG1 vs s1 S1 r1 g1 q1=>wpAny_newTuple (by
  obtain⟨g2,S2,p⟩:=S1.data (U:=U) (ob:=dc vs.toArray 0) rfl
  exact⟨_,g1.trans g2,S2,⟨_,_,_,rfl,p,DRs.mono g2.p r1.dats⟩,q1.trans ⟨rfl,rfl,rfl⟩⟩) (b6 (pj r1 hz)))
theorem Di{ds:List PyData}{vs:List Value}(S:ST F c G s.heap)(r:DRs G.P ds vs)(hz:vs.length<=10000000):wpAny (Mk F.W) F.A (newList vs) (RA F U c G s λG=>AVR G (.dat (.list ds))) no s:=
 wpAny_newList (by
  obtain⟨g2,S2,p⟩:=S.data (U:=U) (ob:=listOf vs.toArray 0) rfl
  exact⟨_,g2,S2,⟨_,_,_,rfl,p,r.mono g2.p⟩,rfl,rfl,rfl⟩) (b6 hz)
theorem e_list{es:List Expr}{pos:Pos}{ds:List PyData}(E:Ce F U c es (ds.map .dat) c1)(hz:(ds.map AV.dat).length<=10000000):Ev F U c (.List es pos) (.dat (.list ds)) c1:=λG s S=>
 List_ ((E pos).bind S λG1 vs s1 S1 r1 g1 q1=>fh g1 q1 (Di S1 r1.dats (pj r1 hz)))
def As(F:Fm)(c:Cx)(tg:Expr)(a:AV)(c':Cx):Prop:=∀G s x,ST F c G s.heap->AVR G a x->wpAny (Mk F.W) F.A (assign tg F.env x) (RA F ek c' G s λ_ _=>True) no s
theorem Aq{x:Str}{pos:Pos}(hk:cj (F.env.kindOf x)=true)(hf:F.env.func.isSome=true\/F.env.kindOf x=some .local):As F c (.Name x pos) a ⟨aq c.ρ x a,c.σ⟩:=λG s y S r=>
 PyProof.Rows.assign_Name (dt hk hf S r λs' S' q=>⟨G,.refl,S',trivial,q⟩)
def AsL(F:Fm)(c:Cx)(ts:List Expr)(as:List AV)(c':Cx):Prop:=∀G s xs,ST F c G s.heap->All2 (AVR G) as xs->wpAny (Mk F.W) F.A (assignInOrder ((assignEach ts F.env).map (·.2)) xs) (RA F ek c' G s λ_ _=>True) no s
theorem asl_nil:AsL F c [] [] c:=λG s xs S r=>by cases r;exact assignInOrder_nil (.here S trivial .refl)
theorem asl_cons{t:Expr}{ts:List Expr}{as:List AV}(E:As F c t a c1)(k:AsL F c1 ts as c2)(he:∀env,assignEach (t::ts) env=(false,assign t env)::assignEach ts env):AsL F c (t::ts) (a::as) c2:=λG s xs S r=>by
 cases r with
 |cons r rs=>
  rw [he,jz]
  exact assignInOrder_cons (wM (E G s _ S r) (λ_ s1 z=>z.casesOn λG1 g1 S1 _ q1=>fh g1 q1 (k G1 s1 _ S1 (rs.mono λx _ y r=>r.mono g1 x.keepsT))) λ_ _ x=>x)
theorem rc{h h':Heap}(k:Heap.ExtBut h.objs.size h h'):∀b o,h.get? b=some o->h'.get? b=some o:=λb o e=>k b o (qw (Heap.lt_size e)) e
theorem tup_at(S:ST F c G h){ds:List PyData}{y:Value}(r:AVR G (.dat (.tuple ds)) y):∃x items,y= .ref x/\IsTup h x items/\All2 (AVR G) (ds.map .dat) items.toList:=
 r.imp λx r=>r.imp λitems r=>r.elim λn r=>⟨r.1,⟨_,S.sr.prot _ _ (.inl r.2.1),rfl,_,rfl⟩,r.2.2.dats⟩
theorem as_tuple{ts:List Expr}{k:Nat}{pos:Pos}{ds:List PyData}(E:AsL F c ts (ds.map .dat) c1)(hn:∀env,(assignEach ts env).length=(ds.map AV.dat).length)(hs:∀env,(assignEach ts env).findIdx? (·.1)=none):As F c (.Tuple ts k pos) (.dat (.tuple ds)) c1:=λG s y S r=>by
 obtain⟨x,items,rfl,ht,rs⟩:=tup_at S r
 refine assign_Tuple_tuple S.fr.st.hnd ht ((hn _).trans (rs.length.trans ju)) (hs _) λh' k=> ?_
 exact fh .refl (SS.heap h' s.toks) (E G {s with heap:=h'} _ (S.keeps (rc k)) rs)
theorem x_tuple{ts:List Expr}{k:Nat}{tp pos:Pos}{e:Expr}(E:Ev F U c e a c1)(T:As F c1 (.Tuple ts k tp) a c2)(hs:swapsWithSole [.Tuple ts k tp] e pos.line F.env=pure false)(hw:swappedStores [.Tuple ts k tp] e F.env=pure none):X1 F U c (.Assign [.Tuple ts k tp] e pos) .next c2:=λG s S=>
 Assign_Tuple (E.bind S λG1 v s1 S1 r1 g1 q1=>wM (T G1 s1 v S1 r1) (λ_ s2 z=>z.casesOn λG2 g2 S2 _ q2=>⟨G2,g1.trans ⟨g2.p,g2.k,g2.z,λτ _=>g2.m τ trivial⟩,S2,Eq.refl _,q1.trans q2⟩) λ_ _ x=>x) hs hw
variable{as:List (Nat×AV)}{es:List DictEntry}{C i:Nat}{x:Str}
theorem AE.isStr{e:DictEntry}(r:AE G (i,a) e)(y:Str):e.key.isStr y=(an i==y)/\e.refKey=false:=by
 obtain⟨⟨_,t,z⟩,_⟩:=r
 constructor
 ·rw [z];rfl
 ·unfold DictEntry.refKey;rw [z]
theorem an_beq{i j:Nat}(hi:i<30)(hj:j<30):(an i==an j)=(i==j):=by
 by_cases q:i=j
 ·rw [q,beq_self_eq_true,beq_self_eq_true]
 ·rw [beq_false_of_ne q,beq_false_of_ne λe=>q (an_inj hi hj e)]
theorem ae_ref(r:All2 (AE G) as es):es.any (·.refKey)=false:=by
 induction r with
 |nil=>rfl
 |cons r _ ih=>rw [xe,(AE.isStr r ⟨#[]⟩).2,ih];rfl
theorem F7(r:All2 (AE G) as es)(hi:i<30):∃v,PySem.W.getL (an i) es=some v/\Opt2 (AVR G) (as.lookup i) v:=by
 have n:=ae_ref r
 have l:Opt2 (AVR G) (as.lookup i) ((es.find? (·.key.isStr (an i))).map (·.val)):=by
  clear n
  induction r with
  |nil=>trivial
  | @cons p e _ _ r _ ih=>
   rw [kf,xd,(AE.isStr r (an i)).1,an_beq r.1.1 hi]
   by_cases q:i=p.1
   ·rw [q,beq_self_eq_true];exact r.2
   ·rw [beq_false_of_ne q,beq_false_of_ne (Ne.symm q)];exact ih
 unfold PySem.W.getL
 cases q:es.find? (·.key.isStr (an i)) with
 |some e=>rw [q] at l;exact⟨_,rfl,l⟩
 |none=>rw [q] at l;rw [n];exact⟨none,rfl,l⟩
theorem ae_no(r:All2 (AE G) as es)(hx:∀i,i<30->an i≠x):PySem.W.getL x es=some none:=by
 have n:=ae_ref r
 have l:es.find? (·.key.isStr x)=none:=by
  clear n
  induction r with
  |nil=>rfl
  | @cons p e _ _ r _ ih=>rw [xd,(AE.isStr r x).1,beq_false_of_ne (hx _ r.1.1)];exact ih
 unfold PySem.W.getL
 rw [l,n];rfl
theorem ae_set(r:All2 (AE G) as es){y:Value}(hsh:Int)(tk:Tok)(hi:i<30)(q:AVR G' a y)(nd:(as.map (·.1)).Nodup)(hm:∀p∈as,p.1≠i->∀y,AVR G p.2 y->AVR G' p.2 y):All2 (AE G') (aq as i a) (putL (an i) hsh (.str (an i) tk) y es):=by
 induction r with
 |nil=>exact .cons ⟨⟨hi,_,rfl⟩,q⟩ .nil
 | @cons p e _ _ r r' ih=>
  rw [jz,kj] at nd
  unfold aq putL
  rw [(AE.isStr r (an i)).1,an_beq r.1.1 hi]
  by_cases z:p.1=i
  ·rw [if_pos z,z,beq_self_eq_true]
   exact .cons ⟨z▸r.1,q⟩ (r'.mono λp' m _ r=>⟨r.1,hm p' (.tail _ m) (λe=>nd.1 (jf.mpr ⟨p',m,e.trans z.symm⟩)) _ r.2⟩)
  ·rw [if_neg z,beq_false_of_ne z]
   exact .cons ⟨r.1,hm p (.head _) z _ r.2⟩ (ih nd.2 λp m=>hm p (.tail _ m))
structure ClsOK(W:Wd)(C:Nat):Prop where
 get:findIn W.K (.ref C) "__getattribute__"=some (some (.builtin "object.__getattribute__"))
 noga:findIn W.K (.ref C) "__getattr__"=some none
 hasD:hasDictIn W.K C=true
 set:findIn W.K (.ref C) "__setattr__"=some (some (.builtin "object.__setattr__"))
 over:plainOver W.K C=true
theorem Dj{l:List Nat}(h:l.Nodup)(b:∀i∈l,i<30):l.length<=30:=
 ja (List.Nodup.length_le_of_subset (l₂:=List.range 30) h λi m=>wd.mpr (b i m)) (jd qx)
theorem ae_keys(r:All2 (AE G) as es):∀i∈as.map (·.1),i<30:=by
 induction r with
 |nil=>exactλ_ m=>(by nomatch m)
 |cons r _ ih=>exactλi m=>(jh.mp m).elim (λe=>e▸r.1.1) (ih i)
structure InstIn(G:Gh)(h:Heap)(τ:Tg)(C:Nat)(as:List (Nat×AV))(es:List DictEntry)(k:Nat):Prop where
 I:InstAt h (G.μ τ) (instObj C (G.μ τ-1)) C (some (dictOf es k))
 r:All2 (AE G) as es
 p:0<G.μ τ
 d:(as.map (·.1)).Nodup
 z:es.length<=30
theorem t8(S:SR W σ G h)(e:σ τ=some (.inst C as)):∃es k,InstIn G h τ C as es k:=
 let⟨z,x,es,k,y,q,d⟩:=S.obj τ _ e
 ⟨es,k,⟨x,rfl,rfl,y⟩,q,z,d,by rw [<-q.length,<-jb (f:=(·.1))];exact Dj d (ae_keys q)⟩
theorem DR.handed{P:Nat->Option Obj}{d:PyData}{y:Value}(r:DR P d y):handedIn y=true:=by
 cases d with
 |none=>rw [show y=_ from r];rfl
 |bool b=>rw [show y=_ from r];rfl
 |int i=>obtain⟨t,e⟩:=r;rw [e];rfl
 |str i=>obtain⟨_,t,e⟩:=r;rw [e];rfl
 |tuple i=>obtain⟨_,_,_,e,_⟩:=r;rw [e];rfl
 |list i=>obtain⟨_,_,_,e,_⟩:=r;rw [e];rfl
 |dict i=>exact r.elim
theorem AVR.handed{y:Value}(r:AVR G a y):handedIn y=true:=by
 cases a with
 |dat d=>exact DR.handed r
 |obj τ=>rw [show y=_ from r];rfl
 |range n=>obtain⟨_,_,_,_,e,_⟩:=r;rw [e];rfl
 |slice _ _ _=>obtain⟨_,_,_,_,e,_⟩:=r;rw [e];rfl
 |raw _=>obtain⟨_,_,e,_⟩:=r;rw [e];rfl
 |typ _=>rw [show y=_ from r];rfl
theorem o_attr(e:c.σ τ=some (.inst C as))(hc:ClsOK F.W C)(hp:findIn F.W.K (.ref C) (an i)=some none)(hi:i<30)(hx:as.lookup i=some a):Op1 F U c (λo=>getAttr o (an i) true) (.obj τ) a c:=λG s y S r=>by
 rw [show y=_ from r]
 obtain⟨es,m,I⟩:=t8 S.sr e
 obtain⟨v,ho,hr⟩:=F7 I.r hi
 rw [hx] at hr
 cases v with
 |none=>exact hr.elim
 |some v=>exact get_value S.kin I.I hc.get (findObj_own hc.hasD hp (by rfl) (by rw [lookIn_dict];exact ho)) (AVR.handed hr) (.here (s':={s with toks:=s.toks+1}) S hr (SS.heap s.heap _))
theorem e_attr{o:Expr}{pos:Pos}(E:Ev F U c o a c1)(O:Op1 F U c1 (λv=>getAttr v x true) a b c2)(hb:∀env,attributeBase o x env (eval o env)=eval o env):Ev F U c (.Attribute o x pos) b c2:=λG s S=>by
 show wpAny _ _ (do
  let ov<-attributeBase o x F.env (eval o F.env)
  standAt pos.atName
  let r<-holding [ov] (getAttr ov x true)
  letTemporaryGo o ov r
  pure r) _ _ s
 rw [hb]
 exact wB (E.bind S λG1 v s1 S1 r1 g1 q1=>wB (wpAny_standAt (wB (wpAny_holding (wM (O G1 s1 v S1 r1) (λr s2 z=>wB (wpAny_letTemporaryGo (wP (z.glue g1 q1)))) λ_ _ x=>x)))))
theorem E9{A:Around}{E:Value->Shared->Prop}{x C dx:Nat}{n:Nat}{name:Str}{v:Value}{Q:Unit->Shared->Prop}(X:W.K.In s.heap)
  (I:InstAt s.heap x (instObj C dx) C (some (dictOf es n))) (hc:ClsOK W C) (ht:takerIn W.K C name=some none) (hl:(getL name es).isSome=true) (hz:es.length<=1000)
  (k:Q () {s with heap:=s.heap.update dx (Obj.putName name (PyData.keyHash W.w.params name) (.str name (s.toks+1)) v),toks:=s.toks+2}):wpAny (Mk W) A (setAttr (.ref x) name v) Q E s:=by
 refine set_plain X I hc.set (osa_open (s:={s with toks:=s.toks+1}) X I hc.over ht λb=> ?_)
 obtain⟨cd,hcd,hd'⟩:=any_some hc.hasD
 obtain⟨hx,-,-,hd⟩:=I
 have D:s.heap.get? dx=some (dictOf es n):=hd
 have D':(s.heap.update dx (Obj.putName name (PyData.keyHash W.w.params name) (.str name (s.toks+1)) v)).get? dx=some (Obj.putName name (PyData.keyHash W.w.params name) (.str name (s.toks+1)) v (dictOf es n)):=
  Heap.get?_update_self _ D (by rw [putName_dict];rfl)
 refine wB (wP (wB (wB (wpAny_loadPart hx (wB ((looks_clsIn X hcd).at ?_))))))
 rw [hd']
 refine wP (a:=some dx) (wB (wP (wB ?_)))
 unfold nsSet
 refine wB (wB (wpAny_askSetting (wP (wB (wpAny_mkText (wB (wpAny_loadPart D ?_)))))))
 have q:(!es.toArray.any (·.key.isStr name)&&es.toArray.any (·.refKey))=false:=by
  rw [<-Array.any_toList,<-Array.any_toList]
  unfold getL at hl
  show(!es.any (·.key.isStr name)&&es.any (·.refKey))=false
  cases q:es.find? (·.key.isStr name) with
  |some e=>rw [xt.mpr ⟨e,List.mem_of_find?_eq_some q,List.find?_some q⟩];rfl
  |none=>
   rw [q] at hl
   cases z:es.any (·.refKey) with
   |false=>exact Bool.and_false _
   |true=>rw [z] at hl;cases hl
 dsimp only
 rw [aRefKeyMayBeTheName_at,q]
 refine wpAny_updatePart D ?_
 refine wB (wpAny_lookBehind D' (by rw [putName_dict];refine pastItsLine_dict ?_;rw [xu,sizeLine_eq,<-putL_find];split<;>simp<;>lia) ?_)
 exact wP k
theorem v9{Q:Unit->Shared->Prop}{v:Value}(X:W.K.In s.heap)(S:SR W σ G s.heap)(e:σ τ=some (.inst C as))(hc:ClsOK W C)(hp:findIn W.K (.ref C) (an i)=some none)(hi:i<30){A:Around}
  (k:∀h',Heap.SameBut (G.μ τ-1) s.heap h'->(∀G',(∀p∈as,p.1≠i->∀y,AVR G p.2 y->AVR G' p.2 y)->∀a,G'.μ τ=G.μ τ->AVR G' a v->OR W G' h' (G.μ τ) (.inst C (aq as i a)))->∀tk,Q () {s with heap:=h',toks:=tk}):wpAny (Mk W) A (setAttr (.ref (G.μ τ)) (an i) v) Q no s:=by
 obtain⟨es,m,I⟩:=t8 S e
 obtain⟨w,ho,_⟩:=F7 I.r hi
 have hd:s.heap.get? (G.μ τ-1)=some (dictOf es m):=I.I.dict
 have hs:=Heap.SameBut.update s.heap (G.μ τ-1) (Obj.putName (an i) (PyData.keyHash W.w.params (an i)) (.str (an i) (s.toks+1)) v)
 refine E9 X I.I hc (by unfold takerIn;rw [hp];rfl) (by rw [ho];rfl) (ja I.z (by decide)) (k _ hs (λG' hm a hμ ra=>⟨I.p,?_,_,_,(Heap.get?_update_self _ hd (by rw [putName_dict];rfl)).trans (cGx some (putName_dict ..)),ae_set I.r _ _ hi ra I.d hm,Gg I.d⟩) _)
 rw [hs.2 _ (xf (Nat.sub_lt I.p Nat.one_pos))];exact I.I.at_
theorem Mn(e:c.σ τ=some (.inst C as))(hc:ClsOK F.W C)(hp:findIn F.W.K (.ref C) (an i)=some none)(hi:i<30)(S:ST F c G s.heap){v:Value}(r:AVR G a v):
  wpAny (Mk F.W) F.A (setAttr (.ref (G.μ τ)) (an i) v) (RA F U ⟨c.ρ,up c.σ τ (.inst C (aq as i a))⟩ G s λ_ _=>True) no s:=
 v9 S.kin S.sr e hc hp hi λh' hs hO tk=>⟨G,.refl,S.upd e rfl rfl (λ_=>Iff.rfl) (λa ha=>hs.2 a λq=>ha (q▸S.sr.own τ _ _ e rfl (.inr rfl))) (hO G (λ_ _ _ _ r=>r) _ rfl r),trivial,SS.heap _ _⟩
theorem x_attr{y:Str}{p p' pos:Pos}{e:Expr}(E:Ev F U c e a c1)(ho:c1.ρ.lookup y=some (.obj τ))(hk:ul (F.env.kindOf y)=true)(hd:(y==("__debug__":Str))=false)(hcl:(y==("__classdict__":Str))=false)
  (hi:c1.σ τ=some (.inst C as)) (hc:ClsOK F.W C) (hp:findIn F.W.K (.ref C) (an i)=some none) (h30:i<30) (hs:∀env,swapsWith e (some (.Attribute (.Name y p') (an i) p)) pos.line env=pure false):
  X1 F U c (.Assign [.Attribute (.Name y p') (an i) p] e pos) .next ⟨c1.ρ,up c1.σ τ (.inst C (aq as i a))⟩:=λG s S=>
 plainObj_wpAny_Assign_Attribute (E.bind S λG1 v s1 S1 r1 g1 q1=>(e_name (U:=ek) ho hk hd hcl).bind S1 λG2 ov s2 S2 r2 g2 q2=>by
  rw [show ov=_ from r2]
  exact wM (Mn hi hc hp h30 S2 (r1.mono g2 a.keepsT)) (λ_ s3 z=>z.casesOn λG3 g3 S3 _ q3=>⟨G3,(g1.trans (g2.weak λ_ _=>trivial)).trans g3,S3,rfl,(q1.trans q2).trans q3⟩) λ_ _ z=>z) (hs _)
end
section
variable{α:Type}{c:Cx}{F:Fm}{σ σ':Tg->Option AObj}{as:List (Str×AV)}{G G':Gh}{h h':Heap}{τ:Tg}{o:AObj}{U U':Tg->Prop}{a b d r:AV}{R:Gh->α->Prop}{C:Nat}{x:Str}{p:Tg->Bool}
noncomputable def uh(p:Tg->Bool)(σ:Tg->Option AObj):Tg->Option AObj:=λτ=>if p τ=true then none else σ τ
noncomputable def merge(p:Tg->Bool)(σ σ':Tg->Option AObj):Tg->Option AObj:=λτ=>if p τ=true then σ τ else σ' τ
structure Wf(p:Tg->Bool)(σ:Tg->Option AObj):Prop where
 tmp:∀τ o,p τ=true->σ τ=some o->o.keeps λ_=>False
 old:∀τ o,σ τ=some o->o.keeps λτ=>p τ=false
theorem AV.keeps_mono(h:∀τ,U τ->U' τ)(k:a.keeps U):a.keeps U':=by
 cases a with
 |obj τ=>exact h τ k
 |_=>trivial
theorem AObj.keeps_mono(h:∀τ,U τ->U' τ)(k:o.keeps U):o.keeps U':=by
 cases o with
 |list w vs=>exactλy m=>AV.keeps_mono h (k y m)
 |dictI w f=>exactλy v m=>AV.keeps_mono h (k y v m)
 |dictL w f=>exactλy m=>AV.keeps_mono h (k y m)
 |dictS f=>exactλy v m=>AV.keeps_mono h (k y v m)
 |dictT f=>exactλy v m=>AV.keeps_mono h (k y v m)
 |inst C as=>exactλy m=>AV.keeps_mono h (k y m)
def Gh.mine(G:Gh)(p:Tg->Bool)(fa:List Nat)(a:Nat):Prop:=a∈fa\/(G.own a).any p=true
noncomputable instance{p:Tg->Bool}{G:Gh}{fa:List Nat}{a:Nat}:Decidable (G.mine p fa a):=by unfold Gh.mine;infer_instance
theorem Gr.weak0(g:Gr U G G')(h:∀τ,U' τ->U τ):Gr U' G G':=⟨g.p,g.k,g.z,λτ q=>g.m τ (h τ q)⟩
noncomputable def Gh.enter(G:Gh)(p:Tg->Bool)(h:Heap)(fa:List Nat):Gh:={P:=G.P,K:=λa=>if G.mine p fa a then h.get? a else G.K a,Z:=G.Z,μ:=G.μ,own:=λa=>if(G.own a).any p=true then none else G.own a}
noncomputable def Gh.back(p:Tg->Bool)(G G':Gh):Gh:={P:=G'.P,K:=G.K,Z:=G'.Z,μ:=λτ=>if p τ=true then G.μ τ else G'.μ τ,own:=λa=>if(G.own a).any p=true then G.own a else G'.own a}
theorem Ih{a:Nat}(q:(G.own a).any p=true):∃τ,G.own a=some τ/\p τ=true:=by
 cases e:G.own a with
 |none=>rw [e] at q;cases q
 |some τ=>rw [e] at q;exact⟨τ,rfl,q⟩
theorem ST.gr_enter(S:ST F c G h):Gr ek G (G.enter p h F.fa):=
 ⟨λ_ _ e=>e,λb x e=>⟨by
  show(if G.mine p F.fa b then h.get? b else G.K b)=some x
  split
  ·exact S.sr.prot b x (.inr e)
  ·exact e,rfl⟩,λ_ _ e=>⟨e,rfl⟩,λ_ _=>rfl⟩
theorem ST.mine_live(S:ST F c G h){a:Nat}(q:G.mine p F.fa a):∃ob,h.get? a=some ob/\(G.enter p h F.fa).K a=some ob:=by
 have:∃ob,h.get? a=some ob:=q.elim S.fr.falive λq=>(Ih q).elim λτ z=>S.sr.live (.inl ⟨τ,z.1⟩)
 exact this.imp λob e=>⟨e,(if_pos q).trans e⟩
theorem td(q:p τ=true):merge p σ σ' τ=σ τ:=if_pos q
theorem p9(q:p τ=false):merge p σ σ' τ=σ' τ:=if_neg (xv.mp q)
theorem g0(e:uh p σ τ=some o):p τ=false/\σ τ=some o:=by
 unfold uh at e
 cases q:p τ with
 |true=>rw [q] at e;cases e
 |false=>rw [q] at e;exact⟨rfl,e⟩
theorem Bb(q:p τ=false):uh p σ τ=σ τ:=by unfold uh;rw [q];rfl
theorem ST.enter(S:ST F c G h):SR F.W (uh p c.σ) (G.enter p h F.fa) h where
 base:=S.sr.base
 prot:=λa x e=>e.elim (λe=>S.sr.prot a x (.inl e)) λe=>by
  have e:(if G.mine p F.fa a then h.get? a else G.K a)=some x:=e
  split at e
  ·exact e
  ·exact S.sr.prot a x (.inr e)
 zrot:=S.sr.zrot
 zst:=S.sr.zst
 kz:=λa x e=>by
  have e:(if G.mine p F.fa a then h.get? a else G.K a)=some x:=e
  split at e
  ·rename_i m;exact m.elim (λm=>(G.not_has (S.fr.fa0 a m)).2.2.2) λm=>(Ih m).elim λτ z=>(S.sr.at_ a τ z.1).1.2.2.1
  ·exact S.sr.kz a x e
 obj:=λτ x e=>(S.sr.obj τ x (g0 e).2).mono (S.gr_enter (p:=p)) x.keepsT
 frz:=λτ x a e w q=>S.sr.frz τ x a (g0 e).2 w q
 own:=λτ x a e w q=>by
  have:=S.sr.own τ x a (g0 e).2 w q
  exact(if_neg λz=>by rw [this] at z;exact jx ((g0 e).1.symm.trans z)).trans this
 at_:=λa τ e=>by
  have e:(if(G.own a).any p=true then none else G.own a)=some τ:=e
  split at e
  ·cases e
  ·rename_i nt
   obtain⟨z,o,r⟩:=S.sr.at_ a τ e
   refine⟨⟨z.1,(if_neg λm=>m.elim (λm=>S.fr.fa0 a m (.inl ⟨τ,e⟩)) nt).trans z.2.1,z.2.2⟩,o,(Bb (xv.mpr λq=>nt ?_)).trans r.1,r.2⟩
   rw [e];exact q
theorem ST.back(S:ST F c G h)(e:Gr U (G.enter p h F.fa) G')(R:SR F.W σ' G' h')(w:Wf p c.σ)(w':Wf p σ')(ht:∀τ o,σ' τ=some o->p τ=false)
  (hρ:∀x v,c.ρ.lookup x=some v->v.keeps λτ=>U τ\/p τ=true):Gr (λτ=>U τ\/p τ=true) G (G.back p G')/\ST F ⟨c.ρ,merge p c.σ σ'⟩ (G.back p G') h'/\(∀a,a.keeps (λτ=>p τ=false)->∀v,AVR G' a v->AVR (G.back p G') a v):=by
 have kk:∀a x,G.K a=some x->G'.K a=some x/\G'.P a=G.P a:=λa x q=>e.k a x ((S.gr_enter (p:=p)).k a x q).1
 have km:∀a,G.mine p F.fa a->(∃x,G'.K a=some x/\h.get? a=some x)/\G'.P a=G.P a:=λa q=>(S.mine_live q).elim λx z=>⟨⟨x,(e.k a x z.2).1,z.1⟩,(e.k a x z.2).2⟩
 have hk:∀a,G.mine p F.fa a\/(∃x,G.K a=some x)->h'.get? a=h.get? a:=λa q=>q.elim (λq=>(km a q).1.elim λx z=>(R.prot a x (.inr z.1)).trans z.2.symm) λq=>q.elim λx q=>(R.prot a x (.inr (kk a x q).1)).trans (S.sr.prot a x (.inr q)).symm
 have hz:∀a x,G.Z a=some x->h'.get? a=h.get? a:=λa x q=>(R.zrot a x.1 x.2 (e.z a x q).1).trans (S.sr.zrot a x.1 x.2 q).symm
 have μt:∀τ,p τ=true->(G.back p G').μ τ=G.μ τ:=λτ q=>if_pos q
 have μn:∀τ,p τ=false->(G.back p G').μ τ=G'.μ τ:=λτ q=>if_neg (xv.mp q)
 have g1:Gr (λτ=>U τ\/p τ=true) G (G.back p G'):=⟨e.p,λa x q=>⟨q,(kk a x q).2⟩,e.z,λτ q=>by
  cases z:p τ with
  |true=>exact μt τ z
  |false=>rw [z] at q;exact(μn τ z).trans (e.m τ (q.resolve_right jx))⟩
 have own0:∀a,G.mine p F.fa a->G'.own a=none:=λa q=>qp.mpr λτ z=>(km a q).1.elim λx y=>aj y.1 (R.at_ a τ z).1.2.1
 refine⟨g1,⟨⟨R.base,λa x q=> ?_,R.zrot,R.zst,λa x q=>R.kz a x (kk a x q).1,λτ x q=> ?_,λτ x a q wr ad=> ?_,λτ x a q wr ad=> ?_,λa τ q=> ?_⟩,?_⟩,λa k v r=> ?_⟩
 ·exact q.elim (λq=>R.prot a x (.inl q)) λq=>R.prot a x (.inr (kk a x q).1)
 ·have q:merge p c.σ σ' τ=some x:=q
  cases z:p τ with
  |true=>
   rw [td z] at q
   rw [μt τ z]
   refine((S.sr.obj τ x q).mono (G':=G.back p G') (U:=λ_=>False) (g1.weak0 λ_ z=>z.elim) (w.tmp τ x z q)).move λb ad=> ?_
   cases wr:x.wr with
   |true=>exact hk b (.inl (.inr (by rw [S.sr.own τ x b q wr ad];exact z)))
   |false=>exact(S.sr.frz τ x b q wr ad).elim λob q=>hz b _ q
  |false=>
   rw [p9 z] at q
   rw [μn τ z]
   exact OR.mono0 (G:=G') (G':=G.back p G') (U:=λτ=>p τ=false) ⟨λ_ _ z=>z,μn⟩ (w'.old τ x q) (R.obj τ x q)
 ·have q:merge p c.σ σ' τ=some x:=q
  cases z:p τ with
  |true=>
   rw [td z] at q
   rw [μt τ z] at ad
   have:=S.sr.own τ x a q wr ad
   exact(if_pos (by rw [this];exact z)).trans this
  |false=>
   rw [p9 z] at q
   rw [μn τ z] at ad
   have:=R.own τ x a q wr ad
   exact(if_neg λy=>aj this (own0 a (.inr y))).trans this
 ·have q:merge p c.σ σ' τ=some x:=q
  cases z:p τ with
  |true=>
   rw [td z] at q
   rw [μt τ z] at ad
   exact(S.sr.frz τ x a q wr ad).imp λob y=>(e.z a _ y).1
  |false=>
   rw [p9 z] at q
   rw [μn τ z] at ad
   exact R.frz τ x a q wr ad
 ·have q:(if(G.own a).any p=true then G.own a else G'.own a)=some τ:=q
  split at q
  ·rename_i z
   obtain⟨y,x,r⟩:=S.sr.at_ a τ q
   have zt:p τ=true:=by rw [q] at z;exact z
   exact⟨⟨(km a (.inr z)).2.trans y.1,y.2.1,(km a (.inr z)).1.elim λx z=>R.kz a x z.1,y.2.2.2⟩,x,(td zt).trans r.1,r.2.1,by rw [μt τ zt];exact r.2.2⟩
  ·obtain⟨y,x,r⟩:=R.at_ a τ q
   have zt:=ht τ x r.1
   exact⟨⟨y.1,qp.mpr λx z=>aj (kk a x z).1 y.2.1,y.2.2⟩,x,(p9 zt).trans r.1,r.2.1,by rw [μn τ zt];exact r.2.2⟩
 ·refine(S.fr.step (hk _ (.inl (.inl S.fr.st.faL))) λx d q=>hk _ ((S.fr.cown x d q).2.imp .inl wn.mp)).mono g1 hρ (λa m=> ?_) λa x q z=> ?_
  ·have n:=G.not_has (S.fr.fa0 a m)
   exact Gh.has_not ⟨(if_neg λy=>by rw [n.1] at y;cases y).trans (own0 a (.inl m)),(km a (.inl m)).2.trans n.2.1,n.2.2.1,(km a (.inl m)).1.elim λx z=>R.kz a x z.1⟩
  ·refine(if_neg λy=> ?_).trans (qp.mpr λτ y=>aj (kk a x q).1 (R.at_ a τ y).1.2.1)
   rw [z] at y;cases y
 ·exact AVR.mono0 (G:=G') (G':=G.back p G') (U:=λτ=>p τ=false) ⟨λ_ _ z=>z,μn⟩ k r
end
section
variable{α:Type}{c c1 c2 c3:Cx}{F:Fm}{W:Wd}{σ σ':Tg->Option AObj}{as bs:List AV}{es:List Expr}{G G':Gh}{h:Heap}{τ:Tg}{o:AObj}{U U':Tg->Prop}{s s':Shared}{a b r:AV}{R:Gh->α->Prop}{C n:Nat}{x name:Str}{pos:Pos}{f:Value}
inductive RC(W:Wd)(U:Tg->Prop)(σ:Tg->Option AObj)(G:Gh)(s:Shared)(a:AV)(r:Result)(s':Shared):Prop
 |mk (G':Gh) (v:Value) (z:r= .ok (.ret v)) (e:Gr U G G') (S:SR W σ G' s'.heap) (r:AVR G' a v) (q:SS s s')
def Fn(W:Wd)(U:Tg->Prop)(n:Nat)(f:Value)(as:List AV)(σ:Tg->Option AObj)(a:AV)(σ':Tg->Option AObj):Prop:=
 ∀A G s xs,A.handled=none->A.depth+2*n<900->A.units+20*n<9000->SR W σ G s.heap->All2 (AVR G) as xs->codeAny (Mk W) A (.call f ⟨xs,[]⟩) (RC W U σ' G s a) s
structure CallOK(U:Tg->Prop)(c:Cx)(σ':Tg->Option AObj):Prop where
 w:Wf Tg.isTmp c.σ
 w':Wf Tg.isTmp σ'
 ht:∀τ o,σ' τ=some o->τ.isTmp=false
 hρ:∀x v,c.ρ.lookup x=some v->v.keeps λτ=>U τ\/τ.isTmp=true
theorem ol_fn(E:Fn F.W U F.n f as (uh Tg.isTmp c.σ) a σ')(q:CallOK U c σ')(ha:a.keeps λτ=>τ.isTmp=false):OpL F (λτ=>U τ\/τ.isTmp=true) c (λxs=>call f xs []) as a ⟨c.ρ,merge Tg.isTmp c.σ σ'⟩:=λG s xs S r=>
 wpAny_call (codeAny_mono (E F.A _ s xs S.fr.st.hnd S.fr.st.depth S.fr.st.units S.enter (r.mono λx _ _ r=>r.mono S.gr_enter x.keepsT)) λr s' z=>z.casesOn λG' v z e R rv qq=>by
  obtain⟨g,S',k⟩:=S.back e R q.w q.w' q.ht q.hρ
  rw [z];exact⟨_,g,S',k a ha v rv,qq⟩)
def Kp(W:Wd)(f:Value):Prop:=∀h,W.K.In h->∃k,(k=Keeper.frame\/k=Keeper.machine\/k=Keeper.boundFrame)/\Looks (Mk W) h (keeperOf f) k
theorem Fu(hk:keepIn W.K f=true):Kp W f:=λh X=>keeps_K hk h X
theorem dr{i:String}:Kp W (.builtin i):=λh X=>⟨.machine,.inr (.inl rfl),Looks.of_pure rfl⟩
theorem p6{i:String}:Kp W (.type i):=λh X=>⟨.machine,.inr (.inl rfl),Looks.of_pure rfl⟩
theorem ub{A:Around}{env:Env}{Q0:List Value->Shared->Prop}{Q:Args->Shared->Prop}(E:wpAny (Mk W) A (spliced (backTo pos (starEach es env))) Q0 no s)
  (hn:(backTo pos (starEach es env)).any (·.1)=false) (k:∀vs s',Q0 vs s'->Q ⟨vs,[]⟩ s'):wpAny (Mk W) A (evalArgs f true (backTo pos (starEach es env)) []) Q no s:=by
 cases q:backTo pos (starEach es env) with
 |nil=>
  rw [q] at E
  unfold evalArgs
  show wpAny _ _ (spliced []>>=_) _ _ _
  exact wB (wM E (λvs s1 z=>wB (wP (wpAny_holding (wB (wP (wB (wP (wP (k vs s1 z))))))))) λ_ _ x=>x)
 |cons p r=>
  obtain⟨b,x⟩:=p
  rw [q] at E hn
  rw [xe,Bool.or_eq_false_iff] at hn
  have hb:b=false:=hn.1
  rw [hb] at E⊢
  exact evalArgs_plain (wM E (λvs s' z=>k vs s' z) λ_ _ x=>x)
theorem sf{Q:Args->Shared->Prop}(E:Ce F U c es as c1)(S:ST F c G s.heap)(hn:(backTo pos (starEach es F.env)).any (·.1)=false)
  (k:∀vs s',RA F U c1 G s (λG=>All2 (AVR G) as) vs s'->Q ⟨vs,[]⟩ s'):wpAny (Mk F.W) F.A (evalArgs f true (backTo pos (starEach es F.env)) []) Q no s:=ub (E pos G s S) hn k
theorem sb{first:List Value}(hk:Kp F.W f)(S:ST F c G s.heap)(r0:All2 (AVR G) bs first)(hU:∀τ,U τ->U' τ)(hb:∀b∈bs,b.keeps U')(E:Ce F U' c es as c1)(O:OpL F U c1 (λxs=>call f xs []) (bs++as) a c2)(hn:(backTo pos (starEach es F.env)).any (·.1)=false):
  wpAny (Mk F.W) F.A (callWith pos f first (backTo pos (starEach es F.env)) []) (RA F U c2 G s λG=>AVR G a) no s:=
 callWith_of (P:=F.W.K.In) (by rw [hn];rfl) hk (sf E S hn λvs s1 z=>z.casesOn λG1 g1 S1 r1 q1=>⟨S1.kin,fh (g1.weak hU) q1 (O G1 s1 _ S1 ((r0.mono λx m _ r=>r.mono g1 (hb x m)).append r1))⟩)
def NmE(F:Fm)(c:Cx)(x:Str)(p:Pos)(f:Value):Prop:=∀G s,ST F c G s.heap->∀Q:Value->Shared->Prop,(∀s',s'.heap=s.heap->SS s s'->Q f s')->wpAny (Mk F.W) F.A (eval (.Name x p) F.env) Q no s
theorem im{p:Pos}(N:NmE F c x p f)(hk:Kp F.W f)(E:Ce F U c es as c1)(O:OpL F U c1 (λxs=>call f xs []) as a c2)
  (hn:∀env,(backTo pos (starEach es env)).any (·.1)=false):Ev F U c (.Call (.Name x p) es [] pos) a c2:=λG s S=>
 Call_Name rfl (N G s S _ λs' hs q=>fh .refl q (sb hk (hs▸S) .nil (λ_ h=>h) (λ_ m=>(by nomatch m)) E O (hn _)))
theorem n_glob{p:Pos}{v:Value}(e:nsIn F.W.K mainGlobals x=some (some v))(hx:F.env.kindOf x=some .globalImplicit)(hd:(x==("__debug__":Str))=false):NmE F c x p v:=λG s S Q k=>
 Name_function_global S.fr.st.kind hx (loadGlobal_global (S.fr.st.glob▸F.W.top.g.keeps S.base) (mg_of F.W.kin F.W.top.g e) (k s rfl .refl)) hd
theorem bn{p:Pos}{v:Value}(e:nsIn F.W.K mainGlobals x=some none)(hv:bootBuiltins x=some v)(hn:x≠"__name__")(hx:F.env.kindOf x=some .globalImplicit)(hd:(x==("__debug__":Str))=false):NmE F c x p v:=λG s S Q k=>
 Name_function_global S.fr.st.kind hx (loadGlobal_builtin (S.fr.st.glob▸F.W.top.g.keeps S.base) (mg_none_of F.W.kin F.W.top.g e) (S.fr.st.blt▸F.W.top.b.keeps S.base) ((F.W.top.builtins x hn).trans hv) (k s rfl .refl)) hd
def Mt(F:Fm)(c:Cx)(a:AV)(name:Str)(f:Value):Prop:=∀G s x (pl:Sem Bool) (Q:Value×List Value->Shared->Prop),ST F c G s.heap->AVR G a x->Q (f,[x]) s->wpAny (Mk F.W) F.A (getMethod x name pl) Q no s
theorem G7{env:Env}{n:Nat}(hn:(backTo pos (starEach es env)).any (·.1)=false)(hl:n<30):methodCallForm n (backTo pos (starEach es env)) []=true:=by
 unfold methodCallForm
 have:(backTo pos (starEach es env)).all (λx=> !x.1)=true:=by
  rw [<-Bool.not_eq_false,<-List.not_any_eq_all_not,hn];decide
 rw [this]
 exact dTx hl
theorem e_meth{o:Expr}{apos:Pos}(E1:Ev F U c o b c1)(M:Mt F c1 b name f)(hk:Kp F.W f)(hU:∀τ,U τ->U' τ)(hb:b.keeps U')(E:Ce F U' c1 es as c2)(O:OpL F U c2 (λxs=>call f xs []) (b::as) a c3)
  (hn:∀env,(backTo pos (starEach es env)).any (·.1)=false) (hbs:∀env,attributeBase o name env (eval o env)=eval o env) (hl:(apos.endLine==pos.line)=true) (hz:es.length+0<30):Ev F U c (.Call (.Attribute o name apos) es [] pos) a c3:=λG s S=>by
 have he:eval (.Call (.Attribute o name apos) es [] pos) F.env=(do
  let ov<-attributeBase o name F.env (eval o F.env)
  standAt apos.atName
  methodCall o name apos pos F.env ov (es.length+0) (backTo pos (starEach es F.env)) []):=rfl
 rw [he,hbs]
 refine wB (E1.bind S λG1 v s1 S1 r1 g1 q1=>wB (wpAny_standAt ?_))
 unfold methodCall
 rw [G7 (hn _) hz]
 refine wB (wpAny_holding ?_)
 unfold calleeOf
 rw [if_pos rfl]
 refine M G1 s1 v _ _ S1 r1 ?_
 unfold methodCallPos
 rw [hl,if_pos (by rfl)]
 exact wB (wP (fh g1 q1 (sb hk S1 (.cons r1 .nil) hU (λx m=>(jg.mp m)▸hb) E O (hn _))))
theorem Hz{xs:List (Nat×AV)}{f:Nat}(e:c.σ τ=some (.inst C xs))(hc:ClsOK F.W C)(hf:findIn F.W.K (.ref C) name=some (some (.ref f)))(ht:isFn F.W.K (.ref f)=true)(hx:∀i,i<30->an i≠name):Mt F c (.obj τ) name (.ref f):=λG s y pl Q S r q=>by
 obtain rfl:y= .ref (G.μ τ):=r
 obtain⟨es,m,I⟩:=t8 S.sr e
 exact method_fn S.kin I.I hc.get hc.noga hf (beq_iff_eq.mp ht) (by show(lookIn name (dictOf es m)).map _=_;rw [lookIn_dict,ae_no I.r hx];rfl) q
variable{fl:Fl}
section
variable{kindOf:Str->Option NameKind}
theorem Lh:∀{b:List (Str×Value)} {m:Str->Option Value},x∉b.map (·.1)->bindL kindOf b m x=m x:=by
 intro b
 induction b with
 |nil=>exactλ_=>rfl
 |cons p r ih=>
  intro m h
  rw [jz,jh,not_or] at h
  obtain⟨n,v⟩:=p
  unfold bindL
  rw [ih h.2]
  split
  ·exact if_neg h.1
  ·rfl
theorem Lg:∀{b:List (Str×Value)} {m:Str->Option Value},x∉b.map (·.1)->bindC kindOf b m x=m x:=by
 intro b
 induction b with
 |nil=>exactλ_=>rfl
 |cons p r ih=>
  intro m h
  rw [jz,jh,not_or] at h
  obtain⟨n,v⟩:=p
  unfold bindC
  rw [ih h.2]
  split
  ·rfl
  ·exact if_neg h.1
theorem Ez{β:Type}:∀{ps:List Str} {xs:List β},x∈(ps.zip xs).map (·.1)->x∈ps:=by
 intro ps
 induction ps with
 |nil=>intro xs h;exact h
 |cons p ps ih=>
  intro xs h
  cases xs with
  |nil=>cases h
  |cons y xs=>exact(jh.mp h).elim (λe=>e▸ .head _) λh=> .tail _ (ih h)
theorem Hc{ps:List Str}{xs:List Value}(hn:ps.Nodup)(r:All2 (AVR G) as xs):∀{v:AV},(ps.zip as).lookup x=some v->x∈ps/\∃y,AVR G v y/\(∀m,kindOf x=some .local->bindL kindOf (ps.zip xs) m x=some y)/\∀m,kindOf x≠some .local->bindC kindOf (ps.zip xs) m x=some y:=by
 induction r generalizing ps with
 |nil=>intro v h;rw [List.zip_nil_right] at h;cases h
 | @cons a y as ys r _ ih=>
  intro v h
  cases ps with
  |nil=>cases h
  |cons p ps=>
   rw [kj] at hn
   rw [List.zip_cons_cons,kf] at h
   by_cases q:x=p
   ·rw [q,beq_self_eq_true] at h
    have nn:p∉(ps.zip ys).map (·.1):=λz=>hn.1 (Ez z)
    refine⟨q▸ .head _,y,sJx h▸r,λm k=> ?_,λm k=> ?_⟩
    ·rw [List.zip_cons_cons,q];unfold bindL;rw [Lh nn,if_pos (q▸k)];exact if_pos rfl
    ·rw [List.zip_cons_cons,q];unfold bindC;rw [Lg nn,if_neg (q▸k)];exact if_pos rfl
   ·rw [beq_false_of_ne q] at h
    obtain⟨z,w,r,l1,l2⟩:=ih hn.2 h
    exact⟨.tail _ z,w,r,λm k=>l1 _ k,λm k=>l2 _ k⟩
end
noncomputable def fmOf(W:Wd)(fd:FuncData)(f n:Nat)(A:Around)(L:Nat):Fm:=⟨W,A,callEnvC fd L f,L::(cellsFrom (L+1) fd.scope.names []).map (·.2),n⟩
structure DefOK(W:Wd)(f:Nat)(fd:FuncData)(body:List Stmt)(ps:List Str):Prop where
 at_:∃oc od osl,W.K.lookup f=some ⟨oc,od,.func fd,osl⟩
 code:codeIn W.K fd.code fd.qualname=true
 body:fd.body= .stmts body
 glob:fd.globals=mainGlobals
 blt:fd.builtins=builtinsNs
 clo:fd.closure=[]
 bind:∀xs:List Value,xs.length=ps.length->bindArgs fd ⟨xs,[]⟩=pure (ps.zip xs)
 kind:∀p∈ps,cj (fd.scope.names.lookup p)=true
 nd:ps.Nodup
 cnd:((cellsFrom 0 fd.scope.names []).map (·.1)).Nodup
 co:fd.scope.isCoroutine=false
 gen:fd.scope.isGenerator=false
 fn:fd.scope.kind= .function
theorem D5{k:Option NameKind}(h:cj k=true):k=some .local\/k=some .cell:=by
 cases k with
 |none=>cases h
 |some k=>cases k<;>first|exact .inl rfl|exact .inr rfl|cases h
noncomputable def Gh.drop(G:Gh):Gh:={G with own:=λa=>if(G.own a).any Tg.isTmp=true then none else G.own a}
theorem SR.drop(S:SR W σ G h):SR W (uh Tg.isTmp σ) G.drop h where
 base:=S.base
 prot:=S.prot
 zrot:=S.zrot
 zst:=S.zst
 kz:=S.kz
 obj:=λτ x e=>(S.obj τ x (g0 e).2).mono (G':=G.drop) (U:=ek) ⟨λ_ _ q=>q,λ_ _ q=>⟨q,rfl⟩,λ_ _ q=>⟨q,rfl⟩,λ_ _=>rfl⟩ x.keepsT
 frz:=λτ x a e w q=>S.frz τ x a (g0 e).2 w q
 own:=λτ x a e w q=>by
  have:=S.own τ x a (g0 e).2 w q
  exact(if_neg λz=>by rw [this] at z;exact jx ((g0 e).1.symm.trans z)).trans this
 at_:=λa τ e=>by
  have e:(if(G.own a).any Tg.isTmp=true then none else G.own a)=some τ:=e
  split at e
  ·cases e
  ·rename_i nt
   obtain⟨z,o,r⟩:=S.at_ a τ e
   exact⟨z,o,(Bb (xv.mpr λq=>nt (by rw [e];exact q))).trans r.1,r.2⟩
theorem Gr.drop:Gr U G G.drop:=⟨λ_ _ q=>q,λ_ _ q=>⟨q,rfl⟩,λ_ _ q=>⟨q,rfl⟩,λ_ _=>rfl⟩
noncomputable def Fl.val:Fl->AV
 | .next=> .dat .none
 | .ret a=>a
theorem FlR.val{f:Flow}(r:FlR G fl f):AVR G fl.val (match(generalizing:=false) f with| .ret v=>v|_=> .none):=by
 cases fl with
 |next=>rw [show f=_ from r];exact rfl
 |ret a=>obtain⟨v,e,r⟩:=r;rw [e];exact r
theorem fn_enter{f n:Nat}{fd:FuncData}{body:List Stmt}{ps:List Str}(D:DefOK W f fd body ps)(hlen:as.length=ps.length)
  (E:∀A L,Xs (fmOf W fd f n A L) U ⟨ps.zip as,σ⟩ body fl c):Fn W U (n+1) (.ref f) as σ fl.val (uh Tg.isTmp c.σ):=λA G s xs hh hd hu S r=>by
 obtain⟨oc,od,osl,ho⟩:=D.at_
 have hb:∀b o,W.b.get? b=some o->s.heap.get? b=some o:=λb o e=>S.prot b o (.inl (S.base b o e))
 have X:W.K.In s.heap:=W.kin.keeps hb
 refine codeAny_call_cells (fd:=fd) (body:=body) (binds:=ps.zip xs) (kg (jq (ji _ _) hd) (show 900<=recursionLimit by decide)) (X _ _ ho) rfl (W.top.nolimit.keeps hb) (codeRec_of X D.code) D.body (D.bind xs (r.length▸hlen)) D.clo ?_ ?_ D.co D.gen D.fn
 ·exactλx hx=>(D5 (D.kind _ (Ez (List.mem_map_of_mem hx)))).imp id λk=>⟨k,cellsFrom_some _ _ _ (.inl k)⟩
 intro s1 x
 have cl:∀y c,(callEnvC fd s.heap.objs.size f).cells.lookup y=some c->c∈((cellsFrom (s.heap.objs.size+1) fd.scope.names []).map (·.2)):=λy c e=>jf.mpr ⟨(y,c),mem_of_lookup e,rfl⟩
 have fs:FS (fmOf W fd f n (A.deeper (callEnvC fd s.heap.objs.size f)) s.heap.objs.size):=
  ⟨D.fn,D.glob,D.blt,hh,(by show A.depth+1+2*n<900;rw [wo];exact Nat.lt_of_succ_lt hd),(by show A.units+3+20*n<9000;rw [wo];exact jq (jv (by decide:3<=20) _) hu),λa b c h1 h2=>name_of_addr x.apart (mem_of_lookup h1) (mem_of_lookup h2),λa c h1=>xf (x.above a c (mem_of_lookup h1)),.head _,
   λa ha=>(jh.mp ha).imp id λha=>by
    obtain⟨⟨y,c⟩,hm,rfl⟩:=jf.mp ha
    exact⟨y,lookup_of_mem_nodup (cellsFrom_names fd.scope.names 0 (s.heap.objs.size+1) [] [] rfl▸D.cnd) hm⟩,
   λ_ a c h1=> .tail _ (cl a c h1),λa h1=>wn.mp (cellsFrom_some _ _ _ (.inl h1))⟩
 have hfr:∀a,s.heap.objs.size<=a->¬G.has a:=λa ha=>S.fresh ha
 have ab:∀a∈((cellsFrom (s.heap.objs.size+1) fd.scope.names []).map (·.2)),¬G.has a:=λa ha=>by
  obtain⟨⟨y,c⟩,hm,rfl⟩:=jf.mp ha
  exact hfr c (qk (x.above y c hm))
 have ST1:ST (fmOf W fd f n (A.deeper (callEnvC fd s.heap.objs.size f)) s.heap.objs.size) ⟨ps.zip as,σ⟩ G s1.heap:=by
  refine⟨S.keeps x.toInCall.keep,fs,⟨_,x.toInCall.ns,λy v e k=> ?_⟩,λy v e k=> ?_,λy c e=>⟨_,x.cell y c e⟩,λa ha=> ?_,λy c e=>⟨(G.not_has (ab c (cl y c e))).1,.inl (fs.cfa rfl y c e)⟩⟩
  ·obtain⟨_,z,rz,l1,_⟩:=Hc D.nd r e
   exact⟨z,l1 _ k,rz⟩
  ·obtain⟨hp,z,rz,_,l2⟩:=Hc (kindOf:=(callEnvC fd s.heap.objs.size f).kindOf) D.nd r e
   have kc:(callEnvC fd s.heap.objs.size f).kindOf y=some .cell:=(D5 (D.kind y hp)).elim (λq=>by
    have k:fd.scope.names.lookup y=some .cell\/fd.scope.names.lookup y=some .free:=k
    rw [q] at k;rcases k with k|k<;>cases k) id
   obtain⟨c,hc⟩:=fs.ccell y kc
   exact⟨c,z,hc,l2 (λ_=>none) (by rw [kc];intro z;cases z)▸x.cell y c hc,rz⟩
  ·exact(jh.mp ha).elim (λe=>e▸hfr _ (jc _)) (ab a)
 refine wM (E _ _ G s1 ST1) (λf s' z=>z.casesOn λG' e S' rf q=> ?_) λ_ _ x=>x.elim
 obtain⟨hh',tk,es⟩:=x.toInCall.same
 exact⟨G'.drop,_,rfl,e.trans .drop,S'.sr.drop,rf.val.mono (U:=ek) .drop AV.keepsT,SS.trans (es▸SS.heap hh' tk) q⟩
variable{vs:List AV}{t:Bool}{d e:PyData}{ds:List PyData}{i j:Int}
theorem Bt{f:Value->Value->Sem Value}(k:∀G s t1 t2,ST F c G s.heap->wpAny (Mk F.W) F.A (f (.int i t1) (.int j t2)) (RA F U c G s λG=>AVR G (.dat d)) no s):mf F U c f (.dat (.int i)) (.dat (.int j)) (.dat d) c:=λG s x y S r1 r2=>by
 obtain⟨t1,e1⟩:=r1;obtain⟨t2,e2⟩:=r2;rw [e1,e2];exact k G s t1 t2 S
theorem RA.int(S:ST F c G s.heap){i:Int}{n m:Nat}:RA F U c G s (λG=>AVR G (.dat (.int i))) (.int i n) {s with toks:=m}:= .here (s':={s with toks:=m}) S ⟨_,rfl⟩ (SS.heap s.heap _)
theorem o_add:mf F U c (binaryOp .Add) (.dat (.int i)) (.dat (.int j)) (.dat (.int (i+j))) c:=Bt λ_ _ _ _ S=>PyProof.Rows.add_int (.int S)
theorem o_sub:mf F U c (binaryOp .Sub) (.dat (.int i)) (.dat (.int j)) (.dat (.int (i-j))) c:=Bt λ_ _ _ _ S=>PyProof.Rows.sub_int (.int S)
theorem o_mul(hm:IntMulOk i j):mf F U c (binaryOp .Mult) (.dat (.int i)) (.dat (.int j)) (.dat (.int (i*j))) c:=Bt λ_ _ _ _ S=>PyProof.Rows.mul_int (.int S) hm
theorem o_mod(hj:0<j):mf F U c (binaryOp .Mod) (.dat (.int i)) (.dat (.int j)) (.dat (.int (i%j))) c:=Bt λ_ _ _ _ S=>PyProof.Rows.mod_int (Int.ne_of_gt hj) (Int.fmod_eq_emod_of_nonneg _ (Int.le_of_lt hj)▸ .int S)
theorem o_div(hj:0<j)(hp:Builtin.divisionGoesByPylong i j=false):mf F U c (binaryOp .FloorDiv) (.dat (.int i)) (.dat (.int j)) (.dat (.int (i/j))) c:=Bt λ_ _ _ _ S=>PyProof.Rows.floordiv_int (Int.ne_of_gt hj) (Int.fdiv_eq_ediv_of_nonneg _ (Int.le_of_lt hj)▸ .int S) (.inl hp)
theorem o_neg:Op1 F U c (unaryOp .USub) (.dat (.int i)) (.dat (.int (-i))) c:=λG s x S r=>by obtain⟨t1,e1⟩:=r;rw [e1];exact PyProof.Rows.neg_int (.int S)
theorem RA.bool(S:ST F c G s.heap){b:Bool}:RA F U c G s (λG=>AVR G (.dat (.bool b))) (.bool b) s:= .here S rfl .refl
theorem o_lt:mf F U c (compareOp .Lt) (.dat (.int i)) (.dat (.int j)) (.dat (.bool (decide (i<j)))) c:=Bt λ_ _ _ _ S=>PyProof.Rows.lt_int (.bool S)
theorem o_gt:mf F U c (compareOp .Gt) (.dat (.int i)) (.dat (.int j)) (.dat (.bool (decide (j<i)))) c:=Bt λ_ _ _ _ S=>PyProof.Rows.gt_int (.bool S)
theorem o_le:mf F U c (compareOp .LtE) (.dat (.int i)) (.dat (.int j)) (.dat (.bool (decide (i<=j)))) c:=Bt λ_ _ _ _ S=>PyProof.Rows.le_int (.bool S)
theorem o_ge:mf F U c (compareOp .GtE) (.dat (.int i)) (.dat (.int j)) (.dat (.bool (decide (j<=i)))) c:=Bt λ_ _ _ _ S=>PyProof.Rows.ge_int (.bool S)
noncomputable def isNone:PyData->Bool
 | .none=>true
 |_=>false
theorem DR.isNone{P:Nat->Option Obj}{v:Value}(r:DR P d v):(v==Value.none)=isNone d:=by
 cases d with
 |none=>rw [show v=_ from r];rfl
 |bool b=>rw [show v=_ from r];rfl
 |int i=>obtain⟨t,e⟩:=r;rw [e];rfl
 |str i=>obtain⟨_,t,e⟩:=r;rw [e];rfl
 |tuple i=>obtain⟨_,_,_,e,_⟩:=r;rw [e];rfl
 |list i=>obtain⟨_,_,_,e,_⟩:=r;rw [e];rfl
 |dict i=>exact r.elim
theorem o_is:mf F U c (compareOp .Is) (.dat d) (.dat .none) (.dat (.bool (isNone d))) c:=λG s x y S r1 r2=>by
 obtain rfl:y= .none:=r2
 exact is_none (DR.isNone r1▸ .bool S)
theorem o_isNot:mf F U c (compareOp .IsNot) (.dat d) (.dat .none) (.dat (.bool (!isNone d))) c:=λG s x y S r1 r2=>by
 obtain rfl:y= .none:=r2
 exact isNot_none (DR.isNone r1▸ .bool S)
theorem DR.reads{P:Nat->Option Obj}(hp:∀a o,P a=some o->h.get? a=some o)(d:PyData):∀v,DR P d v->∃as,Reads h v d as:=
 PyData.rec (motive_1:=λd=>∀v,DR P d v->∃as,Reads h v d as) (motive_2:=λd=>∀v,DRs P d v->∃as,ReadsAll h v d as) (motive_3:=λ_=>True) (motive_4:=λ_=>True)
  (λv r=>(show v=_ from r)▸⟨_,.none⟩) (λb v r=>(show v=_ from r)▸⟨_,.bool b⟩) (λi v r=>r.elim λt e=>e▸⟨_,.int i t⟩) (λi v r=>r.2.elim λt e=>e▸⟨_,.str i t⟩)
  (λ_ ih v r=>r.elim λa r=>r.elim λis r=>r.elim λn r=>(ih _ r.2.2).elim λas z=>r.1▸⟨_,.list (hp _ _ r.2.1) rfl rfl z⟩)
  (λ_ ih v r=>r.elim λa r=>r.elim λis r=>r.elim λn r=>(ih _ r.2.2).elim λas z=>r.1▸⟨_,.tuple (hp _ _ r.2.1) rfl rfl z⟩) (λ_ _ _ r=>r.elim)
  (λv r=>(show v=_ from r)▸⟨_,.nil⟩) (λ_ _ i1 i2 v r=>r.elim λy r=>r.elim λys r=>(i1 _ r.2.1).elim λas x=>(i2 _ r.2.2).elim λbs z=>r.1▸⟨_,.cons x z⟩) trivial (λ_ _ _ _=>trivial) (λ_ _ _ _=>trivial) d
noncomputable def lay(d:PyData):Bool:=d.canLay0&&decide (d.depth<=8)
theorem bi(h:lay d=true):d.canLay0=true/\d.depth<=8:=by
 unfold lay at h
 rw [jp,decide_eq_true_eq] at h;exact h
theorem ST.room(S:ST F c G h){n:Nat}(hn:n<=64):F.A.units+n<cLine:=kg (Nat.add_lt_add_of_lt_of_le (jq (ji _ _) S.fr.st.units) hn) (by decide)
theorem ST.room1(S:ST F c G h){a b:Nat}(q:a<=8):F.A.units+min a b<cLine:=jq (jv (ja (Nat.min_le_left a b) q) _) (S.room (n:=8) (by decide))
theorem ST.room2(S:ST F c G h){a b:Nat}(q:b<=8):F.A.units+1+min a b<cLine:=jq (ja (jv (ja (Nat.min_le_right a b) q) _) (jd (qh ..))) (S.room (n:=1+8) (by decide))
def Ls(σ:Tg->Option AObj)(a:AV)(vs:List AV):Prop:=(∃ds,a= .dat (.list ds)/\vs=ds.map .dat)\/∃τ w,a= .obj τ/\σ τ=some (.list w vs)
theorem dz{v:Value}(S:SR W σ G h)(hl:Ls σ a vs)(r:AVR G a v):∃y items n,v= .ref y/\h.get? y=some (listOf items n)/\All2 (AVR G) vs items.toList:=
 hl.elim (λq=>q.elim λds q=>by
  rw [q.1] at r
  rw [q.2]
  exact r.imp λy r=>r.imp λitems r=>r.imp λn r=>⟨r.1,S.prot _ _ (.inl r.2.1),r.2.2.dats⟩) λq=>q.elim λτ q=>q.elim λw q=>⟨_,(S.obj τ _ q.2).imp λitems z=>z.imp λn z=>⟨show v= .ref (G.μ τ) by rw [q.1] at r;exact r,z⟩⟩
theorem bw{y:Nat}{items:Array Value}{n:Nat}(e:h.get? y=some (listOf items n)):h.IsList y items:=⟨_,e,rfl,n,rfl⟩
theorem DRs.reads{P:Nat->Option Obj}(hp:∀a o,P a=some o->h.get? a=some o){ds:List PyData}:∀{vs},DRs P ds vs->∃as,ReadsAll h vs ds as:=by
 induction ds with
 |nil=>intro vs r;exact(show vs=[] from r)▸⟨_,.nil⟩
 |cons d ds ih=>intro vs r;exact r.elim λy r=>r.elim λys r=>(DR.reads hp d _ r.2.1).elim λas x=>(ih r.2.2).elim λbs z=>r.1▸⟨_,.cons x z⟩
theorem ux{v:Value}(S:SR W σ G h)(hl:Ls σ a (ds.map .dat))(r:AVR G a v):∃as,Reads h v (.list ds) as:=by
 obtain⟨y,items,n,e,g,q⟩:=dz S hl r
 obtain⟨as,z⟩:=DRs.reads (λa o e=>S.prot a o (.inl e)) q.dats
 rw [e];exact⟨_,.list g rfl rfl z⟩
def Dv(σ:Tg->Option AObj)(a:AV)(d:PyData):Prop:=a= .dat d\/∃ds,d= .list ds/\Ls σ a (ds.map .dat)
theorem p4{v:Value}(S:SR W σ G h)(q:Dv σ a d)(r:AVR G a v):∃as,Reads h v d as:=
 q.elim (λe=>DR.reads (λa o e=>S.prot a o (.inl e)) d v (show AVR G (.dat d) v from e▸r)) λq=>q.elim λds q=>q.1▸ux S q.2 r
theorem o_eq{e:PyData}(hd:lay d=true)(he:lay e=true)(h1:Dv c.σ a d)(h2:Dv c.σ b e):mf F U c (compareOp .Eq) a b (.dat (.bool (PyData.eqv d e))) c:=λG s x y S r1 r2=>by
 obtain⟨as,p⟩:=p4 S.sr h1 r1
 obtain⟨bs,q⟩:=p4 S.sr h2 r2
 exact compareEq_reads p q (bi hd).1 (bi he).1 (S.room1 (bi hd).2) (.bool S)
theorem o_ne{e:PyData}(hd:lay d=true)(he:lay e=true)(h1:Dv c.σ a d)(h2:Dv c.σ b e):mf F U c (compareOp .NotEq) a b (.dat (.bool (!PyData.eqv d e))) c:=λG s x y S r1 r2=>by
 obtain⟨as,p⟩:=p4 S.sr h1 r1
 obtain⟨bs,q⟩:=p4 S.sr h2 r2
 exact compareNe_reads p q (bi hd).1 (bi he).1 (S.room1 (bi hd).2) (.bool S)
theorem Df(h:lay (.list ds)=true):PyData.canLayAll0 ds=true:=by
 have:=(bi h).1
 unfold PyData.canLay0 at this;exact this
theorem I6(h:lay (.tuple ds)=true):PyData.canLayAll0 ds=true:=by
 have:=(bi h).1
 unfold PyData.canLay0 at this;exact this
theorem o_in(hd:lay (.list ds)=true)(he:lay e=true)(hl:Ls c.σ b (ds.map .dat)):mf F U c (compareOp .In) (.dat e) b (.dat (.bool (ds.any λy=>PyData.eqv y e))) c:=λG s x y S r1 r2=>by
 obtain⟨as,p⟩:=DR.reads (λa o e=>S.sr.prot a o (.inl e)) e x r1
 obtain⟨bs,q⟩:=ux S.sr hl r2
 exact in_list_reads q p (Df hd) (bi he).1 (S.room2 (bi he).2) (.bool S)
theorem Ig(hd:lay (.list ds)=true)(he:lay e=true)(hl:Ls c.σ b (ds.map .dat)):mf F U c (compareOp .NotIn) (.dat e) b (.dat (.bool (!ds.any λy=>PyData.eqv y e))) c:=λG s x y S r1 r2=>by
 obtain⟨as,p⟩:=DR.reads (λa o e=>S.sr.prot a o (.inl e)) e x r1
 obtain⟨bs,q⟩:=ux S.sr hl r2
 exact notIn_list_reads q p (Df hd) (bi he).1 (S.room2 (bi he).2) (.bool S)
theorem o_in_tup(hd:lay (.tuple ds)=true)(he:lay e=true):mf F U c (compareOp .In) (.dat e) (.dat (.tuple ds)) (.dat (.bool (ds.any λy=>PyData.eqv y e))) c:=λG s x y S r1 r2=>by
 obtain⟨as,p⟩:=DR.reads (λa o e=>S.sr.prot a o (.inl e)) e x r1
 obtain⟨bs,q⟩:=DR.reads (λa o e=>S.sr.prot a o (.inl e)) _ y r2
 exact in_tuple_reads q p (I6 hd) (bi he).1 (S.room2 (bi he).2) (.bool S)
theorem Dr(hd:lay (.tuple ds)=true)(he:lay e=true):mf F U c (compareOp .NotIn) (.dat e) (.dat (.tuple ds)) (.dat (.bool (!ds.any λy=>PyData.eqv y e))) c:=λG s x y S r1 r2=>by
 obtain⟨as,p⟩:=DR.reads (λa o e=>S.sr.prot a o (.inl e)) e x r1
 obtain⟨bs,q⟩:=DR.reads (λa o e=>S.sr.prot a o (.inl e)) _ y r2
 exact notIn_tuple_reads q p (I6 hd) (bi he).1 (S.room2 (bi he).2) (.bool S)
theorem ir{items:Array Value}{j:Nat}(r:All2 (AVR G) vs items.toList)(e:vs[j]? =some a):∃y,items[j]? =some y/\AVR G a y:=by
 have q:=r.get j
 rw [e,wp] at q
 cases z:items[j]? with
 |none=>rw [z] at q;exact q.elim
 |some y=>rw [z] at q;exact⟨y,rfl,q⟩
noncomputable def ao{β:Type}(k:Int)(vs:List β):Option β:=if 0<=k then vs[k.toNat]? else if k= -1 then vs[vs.length-1]? else none
theorem o_ix{o i:Expr}{k:Int}(hl:Ls c.σ a vs)(hx:ao k vs=some b)(hz:vs.length<=1000000)(hs:∀a k t,subscripted i false (.ref a) (.int k t)=operate [.ref a,.int k t] (getItem (.ref a) (.int k t))):mf F U c (subscriptTail o i) a (.dat (.int k)) b c:=λG s x y S r1 r2=>by
 obtain⟨tk,rfl⟩:=r2
 obtain⟨z,items,n,rfl,g,q⟩:=dz S.sr hl r1
 have hl:=bw g
 have hz':vs.length=items.size:=q.length.trans ju
 refine tail_any hl.typeIs slot_list_getitem.lookup ?_ (hs _ _ _)
 unfold ao at hx
 by_cases hk:0<=k
 ·rw [if_pos hk] at hx
  obtain⟨v,hv,rv⟩:=ir q hx
  have lt:k.toNat<items.size:=(Array.getElem?_eq_some_iff.mp hv).1
  exact wpAny_getItem_list hl hk (Int.toNat_of_nonneg hk▸big (ja (qk lt) (hz'▸hz))) hv (.here S rv .refl)
 ·rw [if_neg hk] at hx
  by_cases e:k= -1
  ·rw [if_pos e] at hx
   obtain⟨v,hv,rv⟩:=ir q hx
   have lt:vs.length-1<items.size:=(Array.getElem?_eq_some_iff.mp hv).1
   refine wpAny_getItem_list_neg hl (Int.not_le.mp hk) (by rw [e];exact Int.neg_le_neg (Int.ofNat_le.mpr (jq (jo _) lt))) (by rw [e];decide) ?_ (.here S rv .refl)
   rw [e,<-hz',Go];exact hv
  ·rw [if_neg e] at hx;cases hx
theorem o_ix_tup{o i:Expr}{j:Nat}{k:Int}(hj:seqIndex? k (ds.map AV.dat).length=some j)(hx:(ds.map AV.dat)[j]? =some b)(hk: -1000<=k/\k<=1000)(hs:∀a k t,subscripted i false (.ref a) (.int k t)=operate [.ref a,.int k t] (getItem (.ref a) (.int k t))):mf F U c (subscriptTail o i) (.dat (.tuple ds)) (.dat (.int k)) b c:=λG s x y S r1 r2=>by
 obtain⟨z,items,rfl,ht,q⟩:=tup_at S r1
 obtain⟨tk,rfl⟩:=r2
 obtain⟨v,hv,rv⟩:=ir q hx
 exact item_tupleT (show IsTup s.heap z items.toList.toArray by rw [Array.toArray_toList];exact ht) (Int.le_trans (by decide) hk.1) (xr hk.2 (by decide)) (q.length▸hj) (wp▸hv) (.here S rv .refl) (hs _ _ _)
theorem o_len(hl:Ls c.σ a vs)(hz:vs.length<=1000000):OpL F U c (λxs=>call (.builtin "len") xs []) [a] (.dat (.int vs.length)) c:=λG s xs S r=>by
 obtain⟨x,ys,rfl,r1,r⟩:=r.cons_inv
 obtain rfl:=r.nil_inv
 obtain⟨z,items,n,rfl,g,q⟩:=dz S.sr hl r1
 have hz':vs.length=items.size:=q.length.trans ju
 refine call_len_list (bw g) (big (hz'▸hz)) ?_
 rw [<-hz']
 exact .int S
theorem Gb(hl:Ls c.σ a (ds.map .dat)){es:List PyData}(hl2:Ls c.σ b (es.map .dat))(hz:(ds++es).length<=1000000):mf F U c (binaryOp .Add) a b (.dat (.list (ds++es))) c:=λG s x y S r1 r2=>by
 obtain⟨z,items,n,rfl,g,q⟩:=dz S.sr hl r1
 obtain⟨z2,items2,n2,rfl,g2,q2⟩:=dz S.sr hl2 r2
 have l:(ds++es).length=items.size+items2.size:=by rw [je];exact congr (cGx _ (q.length▸jb _).symm) (q2.length▸jb _).symm
 refine P.add_list (n:=n) (n2:=n2) g g2 ?_ (b6 (l▸ja hz (by decide)))
 obtain⟨g3,S3,p⟩:=S.data (U:=U) (ob:=listOf (items++items2) 0) rfl
 exact⟨_,g3,S3,⟨_,_,_,rfl,p,DRs.mono g3.p (by rw [yh];exact .of (q.dats.all.append q2.dats.all))⟩,rfl,rfl,rfl⟩
theorem Ml{es:List PyData}(hu:ds≠[])(hv:es≠[])(hz:(ds++es).length<=1000):mf F U c (binaryOp .Add) (.dat (.tuple ds)) (.dat (.tuple es)) (.dat (.tuple (ds++es))) c:=λG s x y S r1 r2=>by
 obtain⟨a,items,n,rfl,p,r1⟩:=r1
 obtain⟨a2,items2,n2,rfl,p2,r2⟩:=r2
 have l1:ds.length=items.size:=r1.all.length.trans ju
 have l2:es.length=items2.size:=r2.all.length.trans ju
 have hz:ds.length+es.length<=1000:=je▸hz
 refine P.add_tuple (n:=n) (n2:=n2) (S.sr.prot _ _ (.inl p)) (S.sr.prot _ _ (.inl p2)) (λq=>hu (List.eq_nil_of_length_eq_zero (l1.trans (Array.isEmpty_iff_size_eq_zero.mp q)))) (λq=>hv (List.eq_nil_of_length_eq_zero (l2.trans (Array.isEmpty_iff_size_eq_zero.mp q)))) ?_ (b6 (by rw [<-l1,<-l2];exact ja hz (by decide)))
 obtain⟨g3,S3,p3⟩:=S.data (U:=U) (ob:=dc (items++items2) 0) rfl
 exact⟨_,g3,S3,⟨_,_,_,rfl,p3,DRs.mono g3.p (by rw [yh];exact .of (r1.all.append r2.all))⟩,rfl,rfl,rfl⟩
end
section
variable{α:Type}{c c1 c2 c3 c4:Cx}{F:Fm}{W:Wd}{σ:Tg->Option AObj}{G:Gh}{h h':Heap}{τ:Tg}{o o':AObj}{U U' U'':Tg->Prop}{s s':Shared}{a b r:AV}{R:Gh->α->Prop}{t u:Bool}{x:Str}{pos:Pos}{d e:PyData}{i k:Int}{f:Int->Option AV}
section
variable{α β K:Type}[DecidableEq K]{R:α->β->Prop}
theorem Opt2.some_of{x:Option α}{y:Option β}{a:α}(q:Opt2 R x y)(e:x=some a):∃v,y=some v/\R a v:=by
 rw [e] at q
 cases y with
 |none=>exact q.elim
 |some v=>exact⟨v,rfl,q⟩
theorem Opt2.isSome{x:Option α}{y:Option β}(q:Opt2 R x y):y.isSome=x.isSome:=by
 cases x with
 |none=>cases y with
  |none=>rfl
  |some v=>exact q.elim
 |some a=>obtain⟨v,e,_⟩:=q.some_of rfl;rw [e];rfl
theorem pc{R:α->Value->Prop}{f:K->Option α}{kvs:List (K×Value)}{k:K}{u:α}{v:Value}(hr:∀k,Opt2 R (f k) (valueAt kvs k))(r:R u v)(x:K):Opt2 R (a6 f k u x) (valueAt (stored kvs k v) x):=by
 rw [fu]
 unfold a6
 by_cases h:x=k
 ·rw [if_pos h,if_pos h];exact r
 ·rw [if_neg h,if_neg h];exact hr x
theorem Dt{R:α->Value->Prop}{f:K->Option α}{kvs:List (K×Value)}{k:K}(hr:∀k,Opt2 R (f k) (valueAt kvs k))(x:K):Opt2 R (av f k x) (valueAt (without kvs k) x):=by
 rw [sy]
 unfold av
 by_cases h:x=k
 ·rw [if_pos h,if_pos h];trivial
 ·rw [if_neg h,if_neg h];exact hr x
theorem dl{R:α->Value->Prop}{f:K->Option α}{kvs:List (K×Value)}(hf:Few f)(hn:(kvs.map (·.1)).Nodup)(hr:∀k,Opt2 R (f k) (valueAt kvs k)):kvs.length<=1000000:=by
 obtain⟨L,hL,hl⟩:=hf
 refine ja (ja (jd (jb _).symm) (List.Nodup.length_le_of_subset hn λk hk=>hL k ?_)) hl
 obtain⟨p,hp,e⟩:=jf.mp hk
 obtain⟨v,hv⟩:=lh (kvs:=kvs) (k:=k) (xt.mpr ⟨p,hp,dTx e⟩)
 rw [<-(hr k).isSome,hv];rfl
theorem dj{prog:Program}{w:World}{knd:KeyKind prog w K}{a:Nat}{kvs:List (K×Value)}(x:h.DictOf knd a kvs):(kvs.map (·.1)).Nodup:=x.elim λ_ q=>q.elim λ_ q=>q.elim λ_ q=>q.2.2.2.2.2
end
theorem C3{α:Type}{f:Int->Option α}(h:∀t,(f t).isSome=true->rng t=true):Few f:=
 ⟨sx 500,λk hk=>by
  have:=h k hk
  unfold rng at this
  rw [jp,decide_eq_true_eq,decide_eq_true_eq] at this
  exact jf.mpr ⟨k.toNat,wd.mpr ((Int.toNat_lt this.1).mpr this.2),Int.toNat_of_nonneg this.1⟩,by unfold sx;rw [jb,qx];decide⟩
theorem sk_few{α:Type}{f:Str->Option α}(h:∀t,(f t).isSome=true->t∈SK):Few f:=⟨SK,h,by unfold SK;decide⟩
section
variable{α K:Type}[DecidableEq K]{R:K->Prop}{f:K->Option α}{k:K}{u:α}
theorem gz(h:∀t,(f t).isSome=true->R t)(r:R k)(t:K)(q:(a6 f k u t).isSome=true):R t:=by
 unfold a6 at q
 split at q
 ·rename_i e;rw [e];exact r
 ·exact h t q
theorem D8(h:∀t,(f t).isSome=true->R t)(t:K)(q:(av f k t).isSome=true):R t:=by
 unfold av at q
 split at q
 ·cases q
 ·exact h t q
end
noncomputable def lk(l:List (Int×AV))(k:Int):Option AV:=(l.find? λp=>p.1=k).map (·.2)
noncomputable def ug:AObj->Option (Int->Option AV)
 | .dictI _ f=>some f
 | .dictL _ l=>some (lk l)
 |_=>none
theorem lk_at{l:List (Int×AV)}{kvs:List (Int×Value)}(r:All2 (λx y=>x.1=y.1/\AVR G x.2 y.2) l kvs)(k:Int):Opt2 (AVR G) (lk l k) (valueAt kvs k):=by
 unfold lk valueAt
 induction r with
 |nil=>trivial
 |cons r _ ih=>
  rw [xd,xd,<-r.1]
  split
  ·exact r.2
  ·exact ih
theorem Hl(S:SR W σ G h)(e:σ τ=some o)(hf:ug o=some f):∃kvs,h.DictOf (intKind W.prog W.w) (G.μ τ) kvs/\∀k,Opt2 (AVR G) (f k) (valueAt kvs k):=by
 have r:=S.obj τ o e
 cases o with
 |dictI w f=>cases hf;exact r.imp λkvs q=>⟨q.1,q.2.1⟩
 |dictL w l=>cases hf;exact r.imp λkvs q=>⟨q.1,λk=>lk_at q.2 k⟩
 |_=>cases hf
theorem SR.nmod(S:SR W σ G h)(e:σ τ=some o)(hw:o.wr=true\/cStatics<G.μ τ)(hi:o.ad (G.μ τ) (G.μ τ)):(G.μ τ==sysModules)=false:=by
 have:cStatics<G.μ τ:=hw.elim (λw=>(S.at_ _ τ (S.own τ o _ e w hi)).1.2.2.2) id
 exact beq_false_of_ne λz=>absurd (show @LT.lt Nat _ 2 (G.μ τ) from this) (by rw [z];decide)
theorem ii(k:Int)(t:Tok):(intKind W.prog W.w).is k (.int k t)=true:=beq_self_eq_true k
theorem o_dget{o' i:Expr}(e:c.σ τ=some o)(hf:ug o=some f)(hx:f k=some a)(hs:∀a k t,subscripted i false (.ref a) (.int k t)=operate [.ref a,.int k t] (getItem (.ref a) (.int k t))):mf F U c (subscriptTail o' i) (.obj τ) (.dat (.int k)) a c:=λG s x y S r1 r2=>by
 obtain rfl:x= .ref (G.μ τ):=r1
 obtain⟨tk,rfl⟩:=r2
 obtain⟨kvs,hd,hr⟩:=Hl S.sr e hf
 obtain⟨v,hv,rv⟩:=(hr k).some_of hx
 exact tail_any hd.mapOf.typeIs slot_dict_getitem.lookup (wpAny_getItem_of (k:=k) (ii (W:=F.W) k tk) hd.mapOf hv (.here (s':={s with toks:=s.toks+1}) S rv (SS.heap s.heap _))) (hs _ _ _)
theorem o_din(e:c.σ τ=some o)(hf:ug o=some f)(hm:∀G h,SR F.W c.σ G h->(G.μ τ==sysModules)=false):mf F U c (compareOp .In) (.dat (.int k)) (.obj τ) (.dat (.bool (f k).isSome)) c:=λG s x y S r1 r2=>by
 obtain rfl:y= .ref (G.μ τ):=r2
 obtain⟨tk,rfl⟩:=r1
 obtain⟨kvs,hd,hr⟩:=Hl S.sr e hf
 exact wpAny_in_of (k:=k) (ii (W:=F.W) k tk) (hm G _ S.sr) hd.mapOf ((hr k).isSome▸ .here (s':={s with toks:=s.toks+1}) S rfl (SS.heap s.heap _))
theorem Dm(e:c.σ τ=some o)(hf:ug o=some f)(hm:∀G h,SR F.W c.σ G h->(G.μ τ==sysModules)=false):mf F U c (compareOp .NotIn) (.dat (.int k)) (.obj τ) (.dat (.bool (!(f k).isSome))) c:=λG s x y S r1 r2=>by
 obtain rfl:y= .ref (G.μ τ):=r2
 obtain⟨tk,rfl⟩:=r1
 obtain⟨kvs,hd,hr⟩:=Hl S.sr e hf
 exact wpAny_notIn_of (k:=k) (ii (W:=F.W) k tk) (hm G _ S.sr) hd.mapOf ((hr k).isSome▸ .here (s':={s with toks:=s.toks+1}) S rfl (SS.heap s.heap _))
theorem o_sget{o' i:Expr}{f:Str->Option AV}{k:Str}(e:c.σ τ=some (.dictS f))(hx:f k=some a)(hs:∀a k t,subscripted i false (.ref a) (.str k t)=operate [.ref a,.str k t] (getItem (.ref a) (.str k t))):mf F U c (subscriptTail o' i) (.obj τ) (.dat (.str k)) a c:=λG s x y S r1 r2=>by
 obtain rfl:x= .ref (G.μ τ):=r1
 obtain⟨_,tk,rfl⟩:=r2
 obtain⟨kvs,hd,hr,_⟩:=S.sr.obj τ _ e
 obtain⟨v,hv,rv⟩:=(hr k).some_of hx
 exact tail_any hd.mapOf.typeIs slot_dict_getitem.lookup (wpAny_getItem_of (k:=k) (by show(k==k)=true;exact beq_self_eq_true k) hd.mapOf hv (.here (s':={s with toks:=s.toks+1}) S rv (SS.heap s.heap _))) (hs _ _ _)
def Up2(F:Fm)(U:Tg->Prop)(c:Cx)(f:Value->Value->Sem Unit)(a b:AV)(c':Cx):Prop:=∀G s x y,ST F c G s.heap->AVR G a x->AVR G b y->wpAny (Mk F.W) F.A (f x y) (RA F U c' G s λ_ _=>True) no s
def Up3(F:Fm)(U:Tg->Prop)(c:Cx)(f:Value->Value->Value->Sem Unit)(a b d:AV)(c':Cx):Prop:=∀G s x y z,ST F c G s.heap->AVR G a x->AVR G b y->AVR G d z->wpAny (Mk F.W) F.A (f x y z) (RA F U c' G s λ_ _=>True) no s
theorem RA.upd{α:Type}{R:Gh->α->Prop}{v:α}{tk:Nat}(S:ST F c G s.heap)(e:c.σ τ=some o)(hw:o.wr=true)(hw':o'.wr=true)(ha:∀a,o'.ad (G.μ τ) a↔a=G.μ τ)(ha':∀a,o.ad (G.μ τ) a↔a=G.μ τ)(hs:Heap.SameBut (G.μ τ) s.heap h')(r:OR F.W G h' (G.μ τ) o')(q:R G v):
  RA F U ⟨c.ρ,up c.σ τ o'⟩ G s R v {s with heap:=h',toks:=tk}:=
 ⟨G,.refl,S.upd e hw hw' (λa=>(ha a).trans (ha' a).symm) (λa n=>hs.2 a λz=>n (z▸S.sr.own τ o _ e hw ((ha' _).mpr rfl))) r,q,SS.heap h' tk⟩
theorem o_dset(e:c.σ τ=some (.dictI true f))(hk:rng k=true):Up3 F U c setItem (.obj τ) (.dat (.int k)) a ⟨c.ρ,up c.σ τ (.dictI true (a6 f k a))⟩:=λG s x y z S r1 r2 r3=>by
 obtain rfl:x= .ref (G.μ τ):=r1
 obtain⟨tk,rfl⟩:=r2
 obtain⟨kvs,hd,hr,hf⟩:=S.sr.obj τ _ e
 exact wpAny_setItem_pairs (k:=k) (ii (W:=F.W) k tk) hd (λh' hd' hs=> .upd S e rfl rfl (λ_=>Iff.rfl) (λ_=>Iff.rfl) hs ⟨_,hd',pc hr r3,gz hf hk⟩ trivial) (b6 (ja (dl (C3 hf) (dj hd) hr) (by decide)))
noncomputable def lset(l:List (Int×AV))(k:Int)(v:AV):List (Int×AV):=if l.any (λp=>decide (p.1=k)) then l.map (λp=>if p.1=k then(p.1,v) else p) else l++[(k,v)]
theorem lset_at{l:List (Int×AV)}{kvs:List (Int×Value)}(r:All2 (λx y=>x.1=y.1/\AVR G x.2 y.2) l kvs){v:Value}(q:AVR G a v):All2 (λx y=>x.1=y.1/\AVR G x.2 y.2) (lset l k a) (stored kvs k v):=by
 have e:l.any (λp=>decide (p.1=k))=kvs.any (λp=>decide (p.1=k)):=by
  induction r with
  |nil=>rfl
  |cons r _ ih=>rw [xe,xe,r.1,ih]
 unfold lset stored
 rw [e]
 split
 ·rename_i m
  clear e m
  induction r with
  |nil=>exact .nil
  | @cons p y _ _ r _ ih=>
   refine .cons ?_ ih
   show(if p.1=k then(p.1,a) else p).1=(if y.1=k then(y.1,v) else y).1/\AVR G (if p.1=k then(p.1,a) else p).2 (if y.1=k then(y.1,v) else y).2
   by_cases z:p.1=k
   ·rw [if_pos z,if_pos (r.1▸z)];exact⟨r.1,q⟩
   ·rw [if_neg z,if_neg (r.1▸z)];exact r
 ·exact r.append (.cons ⟨rfl,q⟩ .nil)
theorem o_lset{l:List (Int×AV)}(e:c.σ τ=some (.dictL true l))(hz:l.length<=1000000):Up3 F U c setItem (.obj τ) (.dat (.int k)) a ⟨c.ρ,up c.σ τ (.dictL true (lset l k a))⟩:=λG s x y z S r1 r2 r3=>by
 obtain rfl:x= .ref (G.μ τ):=r1
 obtain⟨tk,rfl⟩:=r2
 obtain⟨kvs,hd,hr⟩:=S.sr.obj τ _ e
 exact wpAny_setItem_pairs (k:=k) (ii (W:=F.W) k tk) hd (λh' hd' hs=> .upd S e rfl rfl (λ_=>Iff.rfl) (λ_=>Iff.rfl) hs ⟨_,hd',lset_at hr r3⟩ trivial) (b6 (ja (pj hr hz) (by decide)))
theorem o_sset{f:Str->Option AV}{k:Str}(e:c.σ τ=some (.dictS f))(hk:k∈SK):Up3 F U c setItem (.obj τ) (.dat (.str k)) a ⟨c.ρ,up c.σ τ (.dictS (a6 f k a))⟩:=λG s x y z S r1 r2 r3=>by
 obtain rfl:x= .ref (G.μ τ):=r1
 obtain⟨_,tk,rfl⟩:=r2
 obtain⟨kvs,hd,hr,hf⟩:=S.sr.obj τ _ e
 exact wpAny_setItem_pairs (k:=k) (by show(k==k)=true;exact beq_self_eq_true k) hd (λh' hd' hs=> .upd S e rfl rfl (λ_=>Iff.rfl) (λ_=>Iff.rfl) hs ⟨_,hd',pc hr r3,gz hf hk⟩ trivial) (b6 (ja (dl (sk_few hf) (dj hd) hr) (by decide)))
theorem o_ddel(e:c.σ τ=some (.dictI true f))(hk:(f k).isSome=true):Up2 F U c delItem (.obj τ) (.dat (.int k)) ⟨c.ρ,up c.σ τ (.dictI true (av f k))⟩:=λG s x y S r1 r2=>by
 obtain rfl:x= .ref (G.μ τ):=r1
 obtain⟨tk,rfl⟩:=r2
 obtain⟨kvs,hd,hr,hf⟩:=S.sr.obj τ _ e
 exact wpAny_delItem_slot hd.mapOf.typeIs (by decide) PySem.F.slot_dict_delitem (call_meetsIn PySem.F.slot_dict_delitem hd.mapOf.typeIs PySem.F.entry_dict_delitem (PySem.F.args_dict_delitem_2 _ _)
  (meets_dict_delitem_pairs (intKind F.W.prog F.W.w) (k:=k) _ (ii (W:=F.W) k tk)) ⟨kvs,hd,b6 (ja (dl (C3 hf) (dj hd) hr) (by decide)),(hr k).isSome.trans hk,λh' hd' hs=> .upd S e rfl rfl (λ_=>Iff.rfl) (λ_=>Iff.rfl) hs ⟨_,hd',Dt hr,D8 hf⟩ trivial⟩)
theorem x_item{o i e:Expr}{p pos:Pos}(E1:Ev F U c e a c1)(hU:∀τ,U τ->U' τ)(hU':∀τ,U' τ->U'' τ)(ha:a.keeps U')(E2:Ev F U' c1 o b c2)(hb:b.keeps U'')(E3:Ev F U'' c2 i r c3)(O:Up3 F U c3 setItem b r a c4)(hs:∀env,swapsWith e (some (.Subscript o i p)) pos.line env=pure false):X1 F U c (.Assign [.Subscript o i p] e pos) .next c4:=λG s S=>
 wpAny_Assign_Subscript (E1.bind S λG1 v s1 S1 r1 g1 q1=>E2.bind S1 λG2 ov s2 S2 r2 g2 q2=>E3.bind S2 λG3 iv s3 S3 r3 g3 q3=>wM (O G3 s3 ov iv v S3 (r2.mono g3 hb) r3 (r1.mono (g2.trans (g3.weak hU')) ha)) (λ_ s4 z=>z.casesOn λG4 g4 S4 _ q4=>⟨G4,((g1.trans (g2.weak hU)).trans (g3.weak λτ h=>hU' τ (hU τ h))).trans g4,S4,rfl,((q1.trans q2).trans q3).trans q4⟩) λ_ _ z=>z) (hs _)
theorem x_del{o i:Expr}{p pos:Pos}(E1:Ev F U c o a c1)(hU:∀τ,U τ->U' τ)(ha:a.keeps U')(E2:Ev F U' c1 i b c2)(O:Up2 F U c2 delItem a b c3):X1 F U c (.Delete [.Subscript o i p] pos) .next c3:=λG s S=>
 wpAny_Delete (wpAny_deleteEach_cons (wpAny_delete_Subscript (E1.bind S λG1 v s1 S1 r1 g1 q1=>E2.bind S1 λG2 w s2 S2 r2 g2 q2=>wM (O G2 s2 v w S2 (r1.mono g2 ha) r2) (λ_ s3 z=>z.casesOn λG3 g3 S3 _ q3=>wpAny_deleteEach_nil ⟨G3,(g1.trans (g2.weak hU)).trans g3,S3,rfl,(q1.trans q2).trans q3⟩) λ_ _ z=>z)))
end
section
variable{α:Type}{c c1 c2 c3:Cx}{F:Fm}{W:Wd}{σ:Tg->Option AObj}{vs:List AV}{es:List Expr}{G:Gh}{h h':Heap}{τ:Tg}{o:AObj}{U:Tg->Prop}{s s':Shared}{a r:AV}{R:Gh->α->Prop}{t u:Bool}{x name:Str}{d e:PyData}{i k:Int}{f:List KI->Option AV}{ks:List KI}
section
variable{K:Type}[DecidableEq K]
theorem ez(xs:List (K×Nat×Value))(k:K):(atKey xs k).map (·.2)=valueAt (xs.map λx=>(x.1,x.2.2)) k:=by
 induction xs with
 |nil=>rfl
 |cons x xs ih=>
  rw [jz,au]
  unfold atKey at ih⊢
  rw [xd]
  by_cases h:x.1=k
  ·rw [if_pos h,dTx h];rfl
  ·rw [if_neg h,dFx h];exact ih
theorem Eg(xs:List (K×Nat×Value))(k:K)(a:Nat)(v:Value):(storedH xs k a v).map (λx=>(x.1,x.2.2))=stored (xs.map λx=>(x.1,x.2.2)) k v:=by
 unfold storedH stored
 have:(atKey xs k).isSome=(xs.map λx=>(x.1,x.2.2)).any λkv=>decide (kv.1=k):=by
  rw [<-wu (f:=(·.2)),ez]
  cases h:(xs.map λx=>(x.1,x.2.2)).any λkv=>decide (kv.1=k) with
  |true=>obtain⟨v,hv⟩:=lh h;rw [hv];rfl
  |false=>rw [px (by rw [h];exact jx)];rfl
 rw [this]
 split
 ·rw [jt,jt]
  refine xg λx _=> ?_
  show((if x.1=k then(x.1,x.2.1,v) else x).1,(if x.1=k then(x.1,x.2.1,v) else x).2.2)=if x.1=k then(x.1,v) else(x.1,x.2.2)
  by_cases h:x.1=k
  ·rw [if_pos h,if_pos h]
  ·rw [if_neg h,if_neg h]
 ·rw [kh];rfl
theorem Ca(xs:List (K×Nat×Value))(k:K):(nr xs k).map (λx=>(x.1,x.2.2))=without (xs.map λx=>(x.1,x.2.2)) k:=by
 unfold nr without
 rw [List.filter_map]
 exact cGx _ (List.filter_congr λx _=>by
  show(!decide (x.1=k))=decide (x.1≠k)
  exact(decide_not (p:=x.1=k)).symm)
end
theorem items_of{prog:Program}{w:World}{P:Nat->Option Obj}:∀{l:List Int} {vs:List Value},DRs P (l.map .int) vs->ItemsAre (intKind prog w) l vs:=by
 intro l
 induction l with
 |nil=>intro vs r;rw [show vs=[] from r];exact .nil
 |cons i l ih=>intro vs r;obtain⟨y,ys,e,⟨t,q⟩,z⟩:=r;rw [e];exact .cons (q▸beq_self_eq_true i) (ih z)
theorem ki_of{prog:Program}{w:World}{P:Nat->Option Obj}(hp:∀a o,P a=some o->h.get? a=some o){k:KI}{v:Value}(r:DR P (KI.dat k) v):KIs prog w h k v:=by
 cases k with
 |tup l=>exact r.imp λa r=>r.elim λitems r=>r.elim λn r=>⟨r.1,_,items,n,hp _ _ r.2.1,rfl,rfl,items_of r.2.2⟩
 |_=>exact r
theorem kis_of{prog:Program}{w:World}{P:Nat->Option Obj}(hp:∀a o,P a=some o->h.get? a=some o){ks:List KI}{vs:List Value}(r:All2 (λk v=>DR P (KI.dat k) v) ks vs):All2 (KIs prog w h) ks vs:=r.mono λ_ _ _ r=>ki_of hp r
theorem All2.unmap{α β γ:Type}{R:β->γ->Prop}{f:α->β}{xs:List α}:∀{ys:List γ},All2 R (xs.map f) ys->All2 (λx y=>R (f x) y) xs ys:=by
 induction xs with
 |nil=>intro ys r;rw [r.nil_inv];exact .nil
 |cons x xs ih=>intro ys r;obtain⟨y,ys',e,r,q⟩:=r.cons_inv;rw [e];exact .cons r (ih q)
def KeyP(G:Gh)(ks:List KI)(a:Nat):Prop:=∃items n,G.P a=some (dc items n)/\All2 (λk v=>DR G.P (KI.dat k) v) ks items.toList
theorem Bi(S:SR W σ G h){v:Value}(r:AVR G (.dat (.tuple (ks.map KI.dat))) v):∃a,v= .ref a/\KeyP G ks a/\(iu W.prog W.w).is h ks a:=by
 obtain⟨a,items,n,e,p,q⟩:=r
 have q:=q.all.unmap
 exact⟨a,e,⟨items,n,p,q⟩,⟨_,items,n,S.prot _ _ (.inl p),rfl,rfl,kis_of (λa o e=>S.prot a o (.inl e)) q⟩⟩
theorem Cq(S:SR W σ G h)(e:σ τ=some (.dictT f)):∃xs,h.DictOfH (iu W.prog W.w) (G.μ τ) xs/\(∀x∈xs,KeyP G x.1 x.2.1)/\∀k,Opt2 (AVR G) (f k) (valueAt (xs.map λx=>(x.1,x.2.2)) k):=by
 obtain⟨_,xs,⟨es,ep,g,q⟩,kp,n,r⟩:=S.obj τ _ e
 exact⟨xs,⟨_,es,ep,g,⟨rfl,rfl,rfl⟩,rfl,q,λx hx=>(kp x hx).elim λitems z=>z.elim λn z=>⟨_,items,n,S.prot _ _ (.inl z.1),rfl,rfl,kis_of (λa o e=>S.prot a o (.inl e)) z.2⟩,n⟩,kp,λk=>ez xs k▸r k⟩
theorem dt_of{xs:List (List KI×Nat×Value)}{a:Nat}(d:h.DictOfH (iu W.prog W.w) a xs)(kp:∀x∈xs,KeyP G x.1 x.2.1)(r:∀k,Opt2 (AVR G) (f k) (valueAt (xs.map λx=>(x.1,x.2.2)) k))(hf:∀k,(f k).isSome=true->k∈TK):OR W G h a (.dictT f):=by
 obtain⟨o,es,ep,ho,⟨c1,c2,c3⟩,hd,he,_,hn⟩:=d
 refine⟨hf,xs,⟨es,ep,ho.trans (cGx some ?_),he⟩,kp,hn,λk=>ez xs k▸r k⟩
 obtain⟨c,dct,data,slots⟩:=o
 cases c1;cases c2;cases c3;cases hd
 rfl
theorem o_tget(e:c.σ τ=some (.dictT f)):OpL F U c (λxs=>call (.builtin "dict.get") xs []) [.obj τ,.dat (.tuple (ks.map KI.dat))] ((f ks).getD (.dat .none)) c:=λG s xs S r=>by
 obtain⟨x,ys,rfl,r1,r⟩:=r.cons_inv
 obtain⟨y,ys,rfl,r2,r⟩:=r.cons_inv
 obtain rfl:=r.nil_inv
 obtain rfl:x= .ref (G.μ τ):=r1
 obtain⟨xs,hd,_,hr⟩:=Cq S.sr e
 obtain⟨a,rfl,_,hka⟩:=Bi S.sr r2
 refine call_meetsIn PySem.F.slot_dict_get hd.typeIs PySem.F.entry_dict_get (PySem.F.args_dict_get_2 _ _) (meetsH_dict_get (iu F.W.prog F.W.w) _ a (S.sr.nmod e (.inl rfl) rfl)) ⟨S.room (n:=1+8) (by decide),ks,xs,hka,hd,?_⟩
 refine .here (s':={s with toks:=_}) S ?_ (SS.heap s.heap _)
 rw [ez]
 have:=hr ks
 cases h1:f ks with
 |none=>rw [h1] at this;cases h2:valueAt (xs.map λx=>(x.1,x.2.2)) ks with
  |none=>exact rfl
  |some v=>rw [h2] at this;exact this.elim
 |some u=>rw [h1] at this;obtain⟨v,h2,q⟩:=this.some_of rfl;rw [h2];exact q
theorem se{xs:List (List KI×Nat×Value)}{a:Nat}(d:h.DictOfH (iu W.prog W.w) a xs):(xs.map (·.1)).Nodup:=d.elim λ_ q=>q.elim λ_ q=>q.elim λ_ q=>q.2.2.2.2.2
theorem i0{n:Nat}:(sx n).length=n:=by unfold sx;rw [jb,qx]
theorem ni{α β:Type}{l:List α}{g:α->List β}{m:Nat}(h:∀a,(g a).length=m):(l.flatMap g).length=l.length*m:=by
 induction l with
 |nil=>rw [List.length_nil,Nat.zero_mul];rfl
 |cons a l ih=>rw [List.flatMap_cons,je,ih,h,List.length_cons,Nat.succ_mul,we]
theorem len_argK:argK.length=3661:=by
 unfold argK
 rw [je,ni (m:=60) λ_=>by rw [jb,i0],List.length_cons,jb,i0]
theorem len_TK:TK.length<=1000000:=by
 unfold TK
 rw [je,ni (m:=500) λ_=>by rw [jb,i0],i0,ni (m:=3661*(2*14)) λ_=>by
  rw [ni (m:=2*14) λ_=>by rw [ni (m:=14) λ_=>by rw [jb];unfold datK;rw [je,jb,jb,i0,i0]];rfl,len_argK]]
 decide
theorem fewT{xs:List (List KI×Nat×Value)}(hf:∀k,(f k).isSome=true->k∈TK)(hn:(xs.map (·.1)).Nodup)(hr:∀k,Opt2 (AVR G) (f k) (valueAt (xs.map λx=>(x.1,x.2.2)) k)):xs.length<=sizeLine:=by
 have:=dl (kvs:=xs.map λx=>(x.1,x.2.2)) ⟨TK,hf,len_TK⟩ (by rw [jt];exact hn) hr
 rw [jb] at this
 exact b6 (ja this (by decide))
theorem o_tset(e:c.σ τ=some (.dictT f))(hk:ks∈TK):Up3 F U c setItem (.obj τ) (.dat (.tuple (ks.map KI.dat))) a ⟨c.ρ,up c.σ τ (.dictT (a6 f ks a))⟩:=λG s x y z S r1 r2 r3=>by
 obtain rfl:x= .ref (G.μ τ):=r1
 obtain⟨xs,hd,kp,hr⟩:=Cq S.sr e
 have hf:=(S.sr.obj τ _ e).1
 obtain⟨a,rfl,kk,hka⟩:=Bi S.sr r2
 refine wpAny_setItem_heap (knd:=iu F.W.prog F.W.w) (k:=ks) (S.room (n:=1+8) (by decide)) hka hd (λh' hd' hs=> .upd S e rfl rfl (λ_=>Iff.rfl) (λ_=>Iff.rfl) hs (dt_of hd' (λx hx=> ?_) (λk=>by rw [Eg];exact pc hr r3 k) (gz hf hk)) trivial) (fewT hf (se hd) hr)
 unfold storedH at hx
 split at hx
 ·obtain⟨y,hy,rfl⟩:=jf.mp hx
  unfold putAt
  split
  ·exact kp y hy
  ·exact kp y hy
 ·exact(ke.mp hx).elim (kp x) λhx=>jg.mp hx▸kk
theorem o_tdel(e:c.σ τ=some (.dictT f))(hi:(f ks).isSome=true):Up2 F U c delItem (.obj τ) (.dat (.tuple (ks.map KI.dat))) ⟨c.ρ,up c.σ τ (.dictT (av f ks))⟩:=λG s x y S r1 r2=>by
 obtain rfl:x= .ref (G.μ τ):=r1
 obtain⟨xs,hd,kp,hr⟩:=Cq S.sr e
 have hf:=(S.sr.obj τ _ e).1
 obtain⟨a,rfl,kk,hka⟩:=Bi S.sr r2
 exact B0 (knd:=iu F.W.prog F.W.w) (k:=ks) (S.room (n:=1+8) (by decide)) hka hd (by rw [<-wu (f:=(·.2)),ez,(hr ks).isSome];exact hi) (λh' tk hd' hs=> .upd S e rfl rfl (λ_=>Iff.rfl) (λ_=>Iff.rfl) hs (dt_of hd' (λx hx=>kp x (kr.mp hx).1) (λk=>by rw [Ca];exact Dt hr k) (D8 hf)) trivial) (fewT hf (se hd) hr)
theorem mt_dictT{id:String}(e:c.σ τ=some (.dictT f))(slot:Slot "dict" name id)(hty:typeOf (.builtin id)=pure (.type "method_descriptor")):Mt F c (.obj τ) name (.builtin id):=λG s x pl Q S r q=>by
 obtain rfl:x= .ref (G.μ τ):=r
 obtain⟨xs,hd,_⟩:=Cq S.sr e
 exact getMethod_builtin hd.typeIs PySem.F.plainAttrs_dict slot hty (λa z=>by cases z;exact let⟨o,_,_,ho,hc,_⟩:=hd;⟨o,ho,hc.2.1⟩) q
variable{ws:List AV}{G':Gh}{U':Tg->Prop}{s'':Shared}{b:AV}{pos:Pos}{ds:List PyData}{j:Int}
theorem pk{y n:Nat}{items:Array Value}(g:s.heap.get? y=some (listOf items n)):s.TypeIs (.ref y) "list":=⟨_,g,rfl⟩
theorem Bo{id:String}(hl:Ls c.σ a vs)(slot:Slot "list" name id)(hty:typeOf (.builtin id)=pure (.type "method_descriptor")):Mt F c a name (.builtin id):=λG s x pl Q S r q=>by
 obtain⟨y,items,n,rfl,g,_⟩:=dz S.sr hl r
 exact getMethod_builtin (pk g) PySem.F.plainAttrs_list slot hty (λa z=>by cases z;exact⟨_,g,rfl⟩) q
theorem RA.lst{α:Type}{R:Gh->α->Prop}{v:α}(S:ST F c G s.heap)(e:c.σ τ=some (.list true vs)){items:Array Value}{n:Nat}(g:s.heap.get? (G.μ τ)=some (listOf items n))(f:Array Value->Array Value)(r:All2 (AVR G) ws (f items).toList)(q:R G v):
  RA F U ⟨c.ρ,up c.σ τ (.list true ws)⟩ G s R v {s with heap:=s.heap.update (G.μ τ) (Obj.mapSeq f)}:=
 .upd (tk:=s.toks) S e rfl rfl (λ_=>Iff.rfl) (λ_=>Iff.rfl) (Heap.SameBut.update s.heap (G.μ τ) _) ⟨f items,_,IsL.update (l:=G.μ τ) (items:=items) (n:=n) g f,r⟩ q
theorem o_append(e:c.σ τ=some (.list true vs))(hz:vs.length<=1000000):OpL F U c (λxs=>call (.builtin "list.append") xs []) [.obj τ,a] (.dat .none) ⟨c.ρ,up c.σ τ (.list true (vs++[a]))⟩:=λG s xs S r=>by
 obtain⟨x,ys,rfl,r1,r⟩:=r.cons_inv
 obtain⟨y,ys,rfl,r2,r⟩:=r.cons_inv
 obtain rfl:=r.nil_inv
 obtain rfl:x= .ref (G.μ τ):=r1
 obtain⟨items,n,g,q⟩:=S.sr.obj τ _ e
 exact call_meets PySem.F.slot_list_append (pk g) PySem.F.entry_list_append (PySem.F.args_list_append_2 _ _) (list_append _ items n _ (b6 (ja (jd (q.length.trans ju).symm) (ja hz (by decide))))) ⟨g,.lst S e g _ (by rw [ye];exact q.append (.cons r2 .nil)) rfl⟩
theorem o_extend(e:c.σ τ=some (.list true vs))(hl:Ls c.σ a ws)(hz:vs.length+ws.length<=1000000):OpL F U c (λxs=>call (.builtin "list.extend") xs []) [.obj τ,a] (.dat .none) ⟨c.ρ,up c.σ τ (.list true (vs++ws))⟩:=λG s xs S r=>by
 obtain⟨x,ys,rfl,r1,r⟩:=r.cons_inv
 obtain⟨y,ys,rfl,r2,r⟩:=r.cons_inv
 obtain rfl:=r.nil_inv
 obtain rfl:x= .ref (G.μ τ):=r1
 obtain⟨items,n,g,q⟩:=S.sr.obj τ _ e
 obtain⟨y2,items2,n2,rfl,g2,q2⟩:=dz S.sr hl r2
 have hz:items.size+items2.size<=1000000:=by rw [<-q.length.trans ju,<-q2.length.trans ju];exact hz
 refine call_meets PySem.F.slot_list_extend (pk g) PySem.F.entry_list_extend (PySem.F.args_list_extend_2 _ _) (AutoSeq1.list_extend_list_list_0 _ items n _ items2 n2 ?_ (b6 (ja (ji _ _) (ja hz (by decide)))) (qm (b6 (ja hz (by decide))))) ⟨g,g2,.lst S e g _ (by rw [yh];exact q.append q2) rfl⟩
 unfold Builtin.List.listTooLong
 simp only [jp,decide_eq_true_eq,not_and]
 intro _;have zz:=sizeLine_eq;lia
theorem o_pop(e:c.σ τ=some (.list true (vs++[a])))(hz:vs.length<=1000000):OpL F U c (λxs=>call (.builtin "list.pop") xs []) [.obj τ] a ⟨c.ρ,up c.σ τ (.list true vs)⟩:=λG s xs S r=>by
 obtain⟨x,ys,rfl,r1,r⟩:=r.cons_inv
 obtain rfl:=r.nil_inv
 obtain rfl:x= .ref (G.μ τ):=r1
 obtain⟨items,n,g,q⟩:=S.sr.obj τ _ e
 have hl:vs.length+1=items.size:=by rw [<-q.length.trans ju,je];rfl
 obtain⟨y,hy,ry⟩:=ir q (j:=items.size-1) (a:=a) (by rw [<-hl,yo];exact List.getElem?_concat_length)
 refine call_meets PySem.F.slot_list_pop (pk g) PySem.F.entry_list_pop (PySem.F.args_list_pop_1 _) (MeetsSeq.list_pop_last _ items n y hy (b6 (hl▸ja (jm hz) (by decide)))) ⟨g,.lst S e g _ ?_ ry⟩
 have q:=q.take vs.length
 rw [List.take_left' rfl] at q
 obtain⟨l⟩:=items
 have hl:vs.length=l.length-1:=(Nat.eq_sub_of_add_eq hl)
 simp only [List.eraseIdxIfInBounds_toArray,xu]
 rw [hl] at q
 rw [List.eraseIdx_eq_take_drop_succ,List.drop_eq_nil_of_le (show l.length<=l.length-1+1 from Nat.le_succ_of_pred_le (jc _)),jk]
 exact q
theorem e_upto{hi:Expr}{p:Pos}(E:Ev F U c hi (.dat (.int i)) c1):Ev F U c (.Slice none (some hi) none p) (.slice none (some i) none) c1:=λG s S=>
 wpAny_Slice (by
  rw [evalPart_none]
  exact wP (E.bind S λG1 v1 s1 S1 r1 g1 q1=>wP (r1.elim λtk e=>by
   obtain⟨g4,S4,p⟩:=S1.data (U:=U) (ob:={cls:= .type "slice",data:= .fields #[.none,v1,.none]}) rfl
   exact⟨_,g1.trans g4,S4,⟨_,_,v1,_,rfl,p,.none,e▸ .int i tk,.none⟩,q1.trans ⟨rfl,rfl,rfl⟩⟩)))
theorem e_back{st:Expr}{p:Pos}(E:Ev F U c st (.dat (.int i)) c1):Ev F U c (.Slice none none (some st) p) (.slice none none (some i)) c1:=λG s S=>
 wpAny_Slice (by
  rw [evalPart_none]
  exact wP (wP (E.bind S λG1 v1 s1 S1 r1 g1 q1=>(r1.elim λtk e=>by
   obtain⟨g4,S4,p⟩:=S1.data (U:=U) (ob:={cls:= .type "slice",data:= .fields #[.none,.none,v1]}) rfl
   exact⟨_,g1.trans g4,S4,⟨_,_,_,v1,rfl,p,.none,.none,e▸ .int i tk⟩,q1.trans ⟨rfl,rfl,rfl⟩⟩))))
inductive RFl(F:Fm)(U:Tg->Prop)(c:Cx)(G:Gh)(s:Shared)(ws:List AV)(v:Value)(s':Shared):Prop
 |mk (G':Gh) (e:Gr U G G') (S:ST F c G' s'.heap) (q:SS s s') (x:Nat) (items:Array Value) (n:Nat) (v:v= .ref x) (g:s'.heap.get? x=some (listOf items n)) (f:¬G'.has x) (fa:x∉F.fa) (fc:∀y d,F.env.cells.lookup y=some d->d≠x) (st:cStatics<x) (r:All2 (AVR G') ws items.toList)
def EvF(F:Fm)(U:Tg->Prop)(c:Cx)(e:Expr)(ws:List AV)(c':Cx):Prop:=∀G s,ST F c G s.heap->wpAny (Mk F.W) F.A (eval e F.env) (RFl F U c' G s ws) no s
theorem RFl.glue{v:Value}(e:Gr U G G')(q:SS s s')(z:RFl F U c G' s' ws v s''):RFl F U c G s ws v s'':=z.casesOn λG2 e2 S q2 x items n v g f fa fc st r=>⟨G2,e.trans e2,S,q.trans q2,x,items,n,v,g,f,fa,fc,st,r⟩
theorem RFl.push{items:Array Value}{tk n:Nat}(S:ST F c G s.heap)(r:All2 (AVR G) ws items.toList)(hk:∀b o,s.heap.get? b=some o->h'.get? b=some o){x:Nat}(hx:s.heap.objs.size<=x)(g:h'.get? x=some (listOf items n)):RFl F U c G s ws (.ref x) {s with heap:=h',toks:=tk}:=
 ⟨G,.refl,S.keeps hk,SS.heap _ _,x,items,n,rfl,g,S.sr.fresh hx,S.fr.fresh hx,λy d e z=>(S.fr.alive.2 y d e).elim λ_ q=>qr.mpr hx (z▸Heap.lt_size q),kg S.sr.statics hx,r⟩
theorem RFl.dat{v:Value}(z:RFl F U c G s (ds.map .dat) v s'):RA F U c G s (λG=>AVR G (.dat (.list ds))) v s':=z.casesOn λG2 e2 S q2 x items n v g f fa fc st r=>
 ⟨G2.prot x (listOf items n),e2.trans (.prot f),S.protect f fa g,⟨x,items,n,v,if_pos rfl,r.dats.mono (Gr.prot (U:=U) f).p⟩,q2⟩
theorem EvF.dat{e:Expr}(E:EvF F U c e (ds.map .dat) c1):Ev F U c e (.dat (.list ds)) c1:=λG s S=>wM (E G s S) (λ_ _ z=>z.dat) λ_ _ z=>z
theorem f_list{es:List Expr}{pos:Pos}(E:Ce F U c es ws c1)(hz:ws.length<=10000000):EvF F U c (.List es pos) ws c1:=λG s S=>
 List_ ((E pos).bind S λG1 vs s1 S1 r1 g1 q1=>wpAny_newList (.glue g1 q1 (.push (tk:=s1.toks) (items:=vs.toArray) S1 r1 (λ_ _ e=>Heap.get?_push_of_some _ e) (jc _) (Heap.get?_push_size _ rfl))) (b6 (pj r1 hz)))
noncomputable def fq{β:Type}(lo hi st:Option Int)(vs:List β):Option (List β):=
 if lo=none/\st=none then hi.bind λb=>if 0<=b then some (vs.take b.toNat) else if b= -1 then some (vs.take (vs.length-1)) else none
 else if lo=none/\hi=none/\st=some (-1) then some vs.reverse else none
theorem vz(items:Array Value):(slicePick items none none (some (-1))).toList=items.toList.reverse:=by rw [krv_pick]
theorem My{β:Type}{R:β->Value->Prop}{lo hi st:Option Int}{vs ws:List β}{items:Array Value}(e:fq lo hi st vs=some ws)(r:All2 R vs items.toList):st≠some 0/\All2 R ws (slicePick items lo hi st).toList:=by
 unfold fq at e
 split at e
 ·rename_i z
  rw [z.1,z.2]
  refine⟨λz=>(by cases z),?_⟩
  cases hi with
  |none=>cases e
  |some b=>
   have e:(if 0<=b then some (vs.take b.toNat) else if b= -1 then some (vs.take (vs.length-1)) else none)=some ws:=e
   split at e
   ·rename_i hb
    obtain⟨n,rfl⟩:=Int.eq_ofNat_of_zero_le hb
    rw [slicePick_upto',<-sJx e]
    exact r.take n
   ·split at e
    ·rename_i hb
     have:=slicePick_butLast items 1 (jc _)
     rw [hb,show(-1:Int)= -((1:Nat):Int) from rfl,this,<-sJx e,r.length,ju]
     exact r.take _
    ·cases e
 ·split at e
  ·rename_i z
   rw [z.1,z.2.1,z.2.2,vz,<-sJx e]
   exact⟨λz=>(by cases z),r.reverse⟩
  ·cases e
def Rdl(F:Fm)(c:Cx)(a:AV)(vs:List AV):Prop:=∀G s v,ST F c G (Shared.heap s)->AVR G a v->∃y items,v= .ref y/\s.heap.IsList y items/\All2 (AVR G) vs items.toList
theorem Ls.rd(hl:Ls c.σ a vs):Rdl F c a vs:=λG s v S r=>(dz S.sr hl r).imp λy z=>z.imp λitems z=>z.elim λn z=>⟨z.1,bw z.2.1,z.2.2⟩
theorem B8{o i:Expr}{lo hi st:Option Int}(E1:Ev F U c o a c1)(E2:Ev F U' c1 i (.slice lo hi st) c2)(hU:∀τ,U τ->U' τ)(ha:a.keeps U')(hl:Rdl F c2 a vs)(hp:fq lo hi st vs=some ws)(hz:vs.length<=1000000)
  (hs:∃f:Value->Value->List Value,∀a b,subscripted i false (.ref a) (.ref b)=operate (f (.ref a) (.ref b)) (getItem (.ref a) (.ref b))):EvF F U c (.Subscript o i pos) ws c2:=λG s S=>
 Subscript_ (E1.bind S λG1 v s1 S1 r1 g1 q1=>E2.bind S1 λG2 w s2 S2 r2 g2 q2=>by
  obtain⟨f,hs⟩:=hs
  obtain⟨y,items,rfl,g,q⟩:=hl G2 s2 _ S2 (r1.mono g2 ha)
  have hsz:items.size<=1000000:=q.length.trans ju▸hz
  obtain⟨x,l,u,sp,rfl,p,p1,p2,p3⟩:=r2
  obtain⟨h0,q⟩:=My hp q
  exact tail_any g.typeIs slot_list_getitem.lookup (wpAny_getItem_list_slice g ⟨_,S2.sr.prot _ _ (.inl p),rfl,rfl⟩ p1 p2 p3 h0 (.glue (g1.trans (g2.weak hU)) (q1.trans q2) (.push (tk:=s2.toks) S2 q (λ_ _ e=>Heap.get?_push_of_some _ e) (jc _) (Heap.get?_push_size _ rfl))) (b6 (ja hsz (by decide)))) (hs _ _))
end
section
variable{α:Type}{c:Cx}{F:Fm}{W:Wd}{σ σ':Tg->Option AObj}{ρ ρ':List (Str×AV)}{G:Gh}{h h':Heap}{τ:Tg}{o:AObj}{U:Tg->Prop}{a b:AV}{R:Gh->α->Prop}{t:Bool}{y:Str}{e:PyData}{k:Int}{x:Nat}
noncomputable def Gh.putL(G:Gh)(τ:Tg)(x:Nat)(L:List Nat):Gh:={G with μ:=λτ'=>if τ'=τ then x else G.μ τ',own:=λb=>if b∈L then some τ else if G.own b=some τ then none else G.own b}
noncomputable abbrev Gh.put(G:Gh)(τ:Tg)(x:Nat):Gh:=G.putL τ x [x]
theorem put_at{L:List Nat}:(G.putL τ x L).μ τ=x:=if_pos rfl
theorem ri{L:List Nat}{τ':Tg}(q:τ'≠τ):(G.putL τ x L).μ τ'=G.μ τ':=if_neg q
theorem Gr.put{L:List Nat}(h:¬U τ):Gr U G (G.putL τ x L):=⟨λ_ _ q=>q,λ_ _ q=>⟨q,rfl⟩,λ_ _ q=>⟨q,rfl⟩,λτ' q=>ri λe=>h (e▸q)⟩
theorem Im{L:List Nat}{b:Nat}{τ':Tg}(q:τ'≠τ)(hx:b∉L):(G.putL τ x L).own b=some τ'↔G.own b=some τ':=by
 show(if b∈L then some τ else if G.own b=some τ then none else G.own b)=some τ'↔_
 rw [if_neg hx]
 split
 ·rename_i z;rw [z];exact⟨λe=>(by cases e),λe=>absurd (sJx e).symm q⟩
 ·exact Iff.rfl
structure Held(W:Wd)(σ σ':Tg->Option AObj)(G:Gh)(h h':Heap)(τ:Tg)(x:Nat)(L:List Nat)(τ':Tg):Prop where
 ex:(σ' τ'=σ τ'/\(∀b,G.own b=some τ'->h'.get? b=h.get? b)/\∀o,σ τ'=some o->o.keeps (·≠τ))\/∃o1 o2,σ τ'=some o1/\o1.wr=true/\σ' τ'=some o2/\o2.wr=true/\(∀a,o2.ad (G.μ τ') a↔o1.ad (G.μ τ') a)/\OR W (G.putL τ x L) h' (G.μ τ') o2
theorem SR.put{L:List Nat}(S:SR W σ G h)(hx:∀b∈L,¬G.has b)(st:∀b∈L,cStatics<b)(w:o.wr=true)(ad:∀b,o.ad x b↔b∈L)(R:OR W (G.putL τ x L) h' x o)(e:σ' τ=some o)(H:∀τ',τ'≠τ->Held W σ σ' G h h' τ x L τ')(hp:∀b,(∃o,G.P b=some o\/G.K b=some o)\/(∃o,G.Z b=some o)->h'.get? b=h.get? b):SR W σ' (G.putL τ x L) h' where
 base:=S.base
 prot:=λb q e=>(hp b (.inl ⟨q,e⟩)).trans (S.prot b q e)
 zrot:=λb t q e=>(hp b (.inr ⟨_,e⟩)).trans (S.zrot b t q e)
 zst:=S.zst
 kz:=S.kz
 obj:=λτ' q z=>by
  by_cases n:τ'=τ
  ·rw [n] at z⊢;rw [put_at];exact sJx (e.symm.trans z)▸R
  ·rw [ri n]
   rcases(H τ' n).ex with⟨e1,e2,e3⟩|⟨o1,o2,e1,w1,e2,w2,had,R2⟩
   ·rw [e1] at z
    refine((S.obj τ' q z).mono (U:=(·≠τ)) (.put λz=>z rfl) (e3 q z)).move λb y=> ?_
    cases wr:q.wr with
    |true=>exact e2 b (S.own τ' q b z wr y)
    |false=>exact hp b (.inr ((S.frz τ' q b z wr y).elim λ_ z=>⟨_,z⟩))
   ·exact sJx (e2.symm.trans z)▸R2
 own:=λτ' q b z wr y=>by
  by_cases n:τ'=τ
  ·rw [n] at z y⊢
   rw [put_at,<-sJx (e.symm.trans z)] at y
   exact if_pos ((ad b).mp y)
  ·rw [ri n] at y
   have:G.own b=some τ':=by
    rcases(H τ' n).ex with⟨e1,_,_⟩|⟨o1,o2,e1,w1,e2,w2,had,R2⟩
    ·exact S.own τ' q b (e1▸z) wr y
    ·exact S.own τ' o1 b e1 w1 ((had b).mp (sJx (e2.symm.trans z)▸y))
   exact(Im n λz=>hx b z (.inl ⟨τ',this⟩)).mpr this
 frz:=λτ' q b z wr y=>by
  by_cases n:τ'=τ
  ·rw [n] at z;exact absurd ((sJx (e.symm.trans z)▸w).symm.trans wr) (by decide)
  ·rw [ri n] at y
   rcases(H τ' n).ex with⟨e1,_,_⟩|⟨o1,o2,e1,w1,e2,w2,had,R2⟩
   ·exact S.frz τ' q b (e1▸z) wr y
   ·exact absurd ((sJx (e2.symm.trans z)▸w2).symm.trans wr) (by decide)
 at_:=λb τ' q=>by
  by_cases n:b∈L
  ·have:τ'=τ:=(sJx ((if_pos n).symm.trans q)).symm
   rw [this,put_at]
   have nn:=G.not_has (hx b n)
   exact⟨⟨nn.2.1,nn.2.2.1,nn.2.2.2,st b n⟩,o,e,w,(ad b).mpr n⟩
  ·have m:τ'≠τ:=λz=>by
    have q:(if b∈L then some τ else if G.own b=some τ then none else G.own b)=some τ':=q
    rw [if_neg n] at q
    split at q
    ·cases q
    ·rename_i y;exact y (z▸q)
   rw [Im m n] at q
   rw [ri m]
   obtain⟨y,p,z,wr,pa⟩:=S.at_ b τ' q
   rcases(H τ' m).ex with⟨e1,_,_⟩|⟨o1,o2,e1,w1,e2,w2,had,R2⟩
   ·exact⟨y,p,e1.trans z,wr,pa⟩
   ·exact⟨y,o2,e2,w2,(had b).mpr (sJx (z.symm.trans e1)▸pa)⟩
theorem Il{L:List Nat}{b:Nat}(n:b∉L)(q:¬G.has b):¬(G.putL τ x L).has b:=Gh.has_not
 ⟨(if_neg n).trans (by rw [(G.not_has q).1];exact if_neg λe=>by cases e),(G.not_has q).2⟩
theorem FR.put{L:List Nat}(S:FR F ρ G h)(hx:∀b∈L,¬G.has b)(hf:∀b∈L,b∉F.fa)(k:∀y v,ρ.lookup y=some v->v.keeps (·≠τ)):FR F ρ (G.putL τ x L) h:=
 S.mono (U:=(·≠τ)) (.put λz=>z rfl) k (λb m=>Il (λz=>hf b z m) (S.fa0 b m)) λb q z y=>(if_neg λe=>hx b e (.inr (.inl ⟨q,.inr z⟩))).trans (by rw [y];exact if_neg λe=>by cases e)
theorem FR.sub(S:FR F ρ G h)(hs:∀y v,ρ'.lookup y=some v->ρ.lookup y=some v):FR F ρ' G h:=
 ⟨S.st,S.ns.imp λm q=>⟨q.1,λx v e1 e2=>q.2 x v (hs x v e1) e2⟩,λx v e=>S.cell x v (hs x v e),S.live,S.fa0,S.cown⟩
theorem iy{p:Nat->Prop}(h:p x):∀b∈[x],p b:=λb m=>jg.mp m▸h
theorem ST.ownL{L:List Nat}(S:ST F c G h)(R:OR F.W G h x o)(w:o.wr=true)(ad:∀b,o.ad x b↔b∈L)(hx:∀b∈L,¬G.has b)(hf:∀b∈L,b∉F.fa)(st:∀b∈L,cStatics<b)(hw:o.keeps (·≠τ))(hσ:∀τ' o,τ'≠τ->c.σ τ'=some o->o.keeps (·≠τ))(hρ:∀y v,c.ρ.lookup y=some v->v.keeps (·≠τ)):
  ST F ⟨c.ρ,up c.σ τ o⟩ (G.putL τ x L) h:=
 ⟨S.sr.put hx st w ad (R.mono (U:=(·≠τ)) (.put λz=>z rfl) hw) ba (λτ' n=>⟨.inl ⟨bc n,λ_ _=>rfl,λo=>hσ τ' o n⟩⟩) λ_ _=>rfl,S.fr.put hx hf hρ⟩
theorem ST.own(S:ST F c G h)(R:OR F.W G h x o)(w:o.wr=true)(ad:∀b,o.ad x b↔b=x)(hx:¬G.has x)(hf:x∉F.fa)(st:cStatics<x)(hw:o.keeps (·≠τ))(hσ:∀τ' o,τ'≠τ->c.σ τ'=some o->o.keeps (·≠τ))(hρ:∀y v,c.ρ.lookup y=some v->v.keeps (·≠τ)):
  ST F ⟨c.ρ,up c.σ τ o⟩ (G.put τ x) h:=S.ownL R w (λb=>(ad b).trans jg.symm) (iy hx) (iy hf) (iy st) hw hσ hρ
end
section
variable{α:Type}{c c1:Cx}{F:Fm}{W:Wd}{ρ:List (Str×AV)}{ws:List AV}{xs:List (Nat×AV)}{es:List Expr}{G G':Gh}{h h':Heap}{τ τh:Tg}{o o' oh oh':AObj}{U:Tg->Prop}{s s':Shared}{a b r:AV}{R:Gh->α->Prop}{C i x:Nat}{y:Str}{pos:Pos}{d:PyData}{j k:Int}{e:Expr}{f:Int->Option AV}
def EvQ(F:Fm)(c:Cx)(e:Expr)(a:AV):Prop:=∀G s,ST F c G s.heap->∀Q:Value->Shared->Prop,(∀v tk,AVR G a v->Q v {s with toks:=tk})->wpAny (Mk F.W) F.A (eval e F.env) Q no s
theorem EvQ.ev(E:EvQ F c e a):Ev F U c e a c:=λG s S=>E G s S _ λv tk r=> .here (s':={s with toks:=tk}) S r (SS.heap s.heap tk)
theorem Bz{x:Str}(hv:c.ρ.lookup x=some a)(hk:ul (F.env.kindOf x)=true)(hd:(x==("__debug__":Str))=false)(hc:(x==("__classdict__":Str))=false):EvQ F c (.Name x pos) a:=λG s S Q k=>by
 cases q:F.env.kindOf x with
 |none=>rw [q] at hk;cases hk
 |some kd=>
  cases kd with
  |«local»=>obtain⟨m,hn,hm⟩:=S.fr.ns;obtain⟨y,hy,r⟩:=hm x a hv q;exact wpAny_Name (wpAny_loadName_local S.fr.st.kind q hn hy (k y s.toks r)) hd
  |cell=>obtain⟨c,y,hc',hi,r⟩:=S.fr.cell x a hv (.inl q);exact wpAny_Name (wpAny_loadName_cell S.fr.st.kind q hc' hi (k y s.toks r)) hd
  |free=>obtain⟨c,y,hc',hi,r⟩:=S.fr.cell x a hv (.inr q);exact wpAny_Name (wpAny_loadName_free S.fr.st.kind q hc' hi (k y s.toks r) hc) hd
  |_=>rw [q] at hk;cases hk
theorem q_attr{o:Expr}(E:EvQ F c o (.obj τ))(e:c.σ τ=some (.inst C xs))(hc:ClsOK F.W C)(hp:findIn F.W.K (.ref C) (an i)=some none)(hi:i<30)(hx:xs.lookup i=some a)(hb:∀env,attributeBase o (an i) env (eval o env)=eval o env):EvQ F c (.Attribute o (an i) pos) a:=λG s S Q k=>by
 show wpAny _ _ (do
  let ov<-attributeBase o (an i) F.env (eval o F.env)
  standAt pos.atName
  let r<-holding [ov] (getAttr ov (an i) true)
  letTemporaryGo o ov r
  pure r) _ _ s
 rw [hb]
 refine wB (E G s S _ λv tk r=>wB (wpAny_standAt (wB (wpAny_holding ?_))))
 obtain rfl:v= .ref (G.μ τ):=r
 obtain⟨es,m,I⟩:=t8 S.sr e
 obtain⟨w,ho,hr⟩:=F7 I.r hi
 rw [hx] at hr
 cases w with
 |none=>exact hr.elim
 |some w=>exact get_value (s:={s with toks:=tk}) S.kin I.I hc.get (findObj_own hc.hasD hp (by rfl) (by rw [lookIn_dict];exact ho)) (AVR.handed hr) (wB (wpAny_letTemporaryGo (wP (k w _ hr))))
inductive RFo(F:Fm)(U:Tg->Prop)(c:Cx)(G:Gh)(s:Shared)(o:AObj)(v:Value)(s':Shared):Prop
 |mk (G':Gh) (e:Gr U G G') (S:ST F c G' s'.heap) (q:SS s s') (x:Nat) (v:v= .ref x) (g:OR F.W G' s'.heap x o) (w:o.wr=true) (ad:∀a b,o.ad a b↔b=a) (f:¬G'.has x) (fa:x∉F.fa) (fc:∀y d,F.env.cells.lookup y=some d->d≠x) (st:cStatics<x)
def EvO(F:Fm)(U:Tg->Prop)(c:Cx)(e:Expr)(o:AObj)(c':Cx):Prop:=∀G s,ST F c G s.heap->wpAny (Mk F.W) F.A (eval e F.env) (RFo F U c' G s o) no s
theorem EvF.own(E:EvF F U c e ws c1):EvO F U c e (.list true ws) c1:=λG s S=>wM (E G s S) (λv s' z=>z.casesOn λG2 e2 S q2 x items n v g f fa fc st r=>⟨G2,e2,S,q2,x,v,⟨items,n,g,r⟩,rfl,λ_ _=> .rfl,f,fa,fc,st⟩) λ_ _ z=>z
structure Lone(c:Cx)(o:AObj)(τ:Tg):Prop where
 w:o.keeps (·≠τ)
 s:∀τ' o,τ'≠τ->c.σ τ'=some o->o.keeps (·≠τ)
 r:∀y v,c.ρ.lookup y=some v->v.keeps (·≠τ)
theorem e_own(E:EvO F U c e o c1)(hU:¬U τ)(L:Lone c1 o τ):Ev F U c e (.obj τ) ⟨c1.ρ,up c1.σ τ o⟩:=λG s S=>
 wM (E G s S) (λv s' z=>z.casesOn λG2 e2 S q2 x v g w ad f fa fc st=>⟨_,e2.trans (.put hU),S.own g w (ad x) f fa st L.w L.s L.r,by rw [v];exact cGx Value.ref put_at.symm,q2⟩) λ_ _ z=>z
noncomputable def Mr(ρ:List (Str×AV))(x:Str):List (Str×AV):=ρ.filter λp=>p.1≠x
theorem rdel_of{x y:Str}{v:AV}(q:(Mr ρ x).lookup y=some v):y≠x/\ρ.lookup y=some v:=by
 induction ρ with
 |nil=>cases q
 |cons p r ih=>
  unfold Mr at q ih
  rw [yg] at q
  split at q
  ·rename_i n
   rw [kf] at q⊢
   split at q
   ·rename_i z;exact⟨λe=>oDx n ((beq_iff_eq.mp z).symm.trans e),q⟩
   ·exact ih q
  ·rename_i n
   have n:p.1=x:=Decidable.not_not.mp λz=>n (dTx z)
   obtain⟨z,w⟩:=ih q
   exact⟨z,by rw [kf,beq_false_of_ne (λe=>z (e.trans n))];exact w⟩
theorem rdel_at{x y:Str}(n:y≠x):(Mr ρ x).lookup y=ρ.lookup y:=by
 induction ρ with
 |nil=>rfl
 |cons p r ih=>
  unfold Mr at ih⊢
  rw [yg]
  split
  ·rw [kf,kf,ih]
  ·rename_i m
   have m:p.1=x:=Decidable.not_not.mp λz=>m (dTx z)
   rw [kf,beq_false_of_ne (λe=>n (e.trans m)),ih]
theorem x_own{x:Str}{p:Pos}(E:EvO F U c e o c1)(hU:¬U τ)(L:Lone ⟨Mr c1.ρ x,c1.σ⟩ o τ)(hk:cj (F.env.kindOf x)=true)(hf:F.env.func.isSome=true\/F.env.kindOf x=some .local)(hs:∀env,swapsWith e (some (.Name x p)) pos.line env=pure false):
  X1 F U c (.Assign [.Name x p] e pos) .next ⟨aq c1.ρ x (.obj τ),up c1.σ τ o⟩:=λG s S=>
 wpAny_Assign_Name (wM (E G s S) (λv s' z=>z.casesOn λG2 e2 S q2 i v g w ad f fa fc st=>by
  have S1:ST F ⟨Mr c1.ρ x,c1.σ⟩ G2 s'.heap:=⟨S.sr,S.fr.sub λy w q=>(rdel_of q).2⟩
  refine dt hk hf (S1.own g w (ad i) f fa st L.w L.s L.r) (show AVR _ (.obj τ) _ from v.trans (cGx Value.ref put_at.symm)) λs2 S2 q3=>⟨_,e2.trans (.put hU),⟨S2.sr,S2.fr.sub λy w q=> ?_⟩,rfl,q2.trans q3⟩
  by_cases z:y=x
  ·rw [z,pe] at q⊢;exact q
  ·rw [ew z] at q⊢;rw [rdel_at z];exact q) λ_ _ z=>z) (hs _)
structure Care(c:Cx)(o:AObj)(τ τh:Tg):Prop where
 n:τh≠τ
 w:o.keeps (·≠τ)
 s:∀τ' o,τ'≠τ->τ'≠τh->c.σ τ'=some o->o.keeps (·≠τ)
 r:∀y v,c.ρ.lookup y=some v->v.keeps (·≠τ)
theorem ST.care(S:ST F c G h)(g:OR F.W G h x o)(w0:o.wr=true)(ad:∀a b,o.ad a b↔b=a)(hx:¬G.has x)(hf:x∉F.fa)(hc:∀y d,F.env.cells.lookup y=some d->d≠x)(st:cStatics<x)(L:Care c o τ τh)
  (e:c.σ τh=some oh) (w1:oh.wr=true) (w2:oh'.wr=true) (had:∀a,oh'.ad (G.μ τh) a↔oh.ad (G.μ τh) a) (hs:∀b,G.own b≠some τh->h'.get? b=h.get? b) (R:OR F.W (G.put τ x) h' (G.μ τh) oh'):
  ST F ⟨c.ρ,up (up c.σ τ o) τh oh'⟩ (G.put τ x) h':=by
 have ne:∀b,(((∃o,G.P b=some o\/G.K b=some o)\/∃o,G.Z b=some o)\/b=x)->h'.get? b=h.get? b:=λb q=>hs b λz=>by
  have y:=(S.sr.at_ b τh z).1
  rcases q with(⟨o,q|q⟩|⟨o,q⟩)|q
  ·exact aj q y.1
  ·exact aj q y.2.1
  ·exact aj q y.2.2.1
  ·exact hx (q▸ .inl ⟨τh,z⟩)
 have gx:Gr (·≠τ) G (G.put τ x):= .put λz=>z rfl
 refine⟨S.sr.put (iy hx) (iy st) w0 (λb=>(ad x b).trans jg.symm) ((g.mono gx L.w).move λb q=>ne b (.inr ((ad x b).mp q))) ((bc (Ne.symm L.n)).trans ba) (λτ' n=>⟨?_⟩) λb q=>ne b (.inl q),(S.fr.put (iy hx) (iy hf) L.r).step ?_ ?_⟩
 ·by_cases z:τ'=τh
  ·exact .inr ⟨oh,oh',z▸e,w1,z▸ba,w2,z▸had,z▸R⟩
  ·exact .inl ⟨(bc z).trans (bc n),λb q=>hs b λy=>z (sJx (q.symm.trans y)),λo=>L.s τ' o n z⟩
 ·exact hs _ λz=>S.fr.fa0 _ S.fr.st.faL (.inl ⟨_,z⟩)
 ·exactλy d q=>hs _ λz=>Option.some_ne_none _ (z.symm.trans (S.fr.cown y d q).1)
theorem Gz{o' i:Expr}{p:Pos}(E:EvO F U c e o c1)(Eo:EvQ F c1 o' (.obj τh))(Ei:EvQ F c1 i (.dat (.int k)))(hU:¬U τ)(L:Care c1 o τ τh)(eh:c1.σ τh=some (.dictI true f))(hr:rng k=true)(hk:∀j v,j≠k->f j=some v->v.keeps (·≠τ))(hs:∀env,swapsWith e (some (.Subscript o' i p)) pos.line env=pure false):
  X1 F U c (.Assign [.Subscript o' i p] e pos) .next ⟨c1.ρ,up (up c1.σ τ o) τh (.dictI true (a6 f k (.obj τ)))⟩:=λG s S=>
 wpAny_Assign_Subscript (wM (E G s S) (λv s1 z=>z.casesOn λG1 g1 S1 q1 x v gx w0 ad hx hfa hfc st=>Eo G1 s1 S1 _ λov tk r1=>Ei G1 {s1 with toks:=tk} S1 _ λiv tk2 r2=>by
  obtain rfl:ov= .ref (G1.μ τh):=r1
  obtain⟨tk3,rfl⟩:=r2
  obtain⟨kvs,hd,hq,hf⟩:=S1.sr.obj τh _ eh
  refine wpAny_setItem_pairs (k:=k) (ii (W:=F.W) k tk3) hd (λh' hd' hs'=> ?_) (b6 (ja (dl (C3 hf) (dj hd) hq) (by decide)))
  refine⟨G1.put τ x,g1.trans (.put hU),S1.care gx w0 ad hx hfa hfc st L eh rfl rfl (λ_=>Iff.rfl) (λb n=>hs'.2 b λz=>n (z▸S1.sr.own τh _ _ eh rfl rfl)) ⟨_,hd',λj=> ?_,gz hf hr⟩,rfl,q1.trans (SS.heap _ _)⟩
  rw [fu]
  unfold a6
  by_cases z:j=k
  ·rw [if_pos z,if_pos z,v];exact cGx Value.ref put_at.symm
  ·rw [if_neg z,if_neg z];exact(hq j).mono λw m _ q=>q.mono (U:=(·≠τ)) (.put λz=>z rfl) (hk j w z m)) λ_ _ z=>z) (hs _)
theorem Gy{y:Str}{p p':Pos}(E:EvO F U c e o c1)(ho:c1.ρ.lookup y=some (.obj τh))(hk:ul (F.env.kindOf y)=true)(hd:(y==("__debug__":Str))=false)(hcl:(y==("__classdict__":Str))=false)(hU:¬U τ)(L:Care c1 o τ τh)
  (hi:c1.σ τh=some (.inst C xs)) (hc:ClsOK F.W C) (hp:findIn F.W.K (.ref C) (an i)=some none) (h30:i<30) (hkp:∀p∈xs,p.1≠i->p.2.keeps (·≠τ)) (hs:∀env,swapsWith e (some (.Attribute (.Name y p') (an i) p)) pos.line env=pure false):
  X1 F U c (.Assign [.Attribute (.Name y p') (an i) p] e pos) .next ⟨c1.ρ,up (up c1.σ τ o) τh (.inst C (aq xs i (.obj τ)))⟩:=λG s S=>
 plainObj_wpAny_Assign_Attribute (wM (E G s S) (λv s1 z=>z.casesOn λG1 g1 S1 q1 x' v gx w0 ad hx' hfa hfc st=>(Bz ho hk hd hcl) G1 s1 S1 _ λov tk r1=>by
  obtain rfl:ov= .ref (G1.μ τh):=r1
  refine v9 (s:={s1 with toks:=tk}) S1.kin S1.sr hi hc hp h30 λh' hs hO tk=>⟨G1.put τ x',g1.trans (.put hU),S1.care gx w0 ad hx' hfa hfc st L hi rfl rfl (λ_=>Iff.rfl) (λb n=>hs.2 b λz=>n (z▸S1.sr.own τh _ _ hi rfl (.inr rfl))) ?_,rfl,q1.trans (SS.heap h' tk)⟩
  have:=hO (G1.put τ x') (λp m n y r=>r.mono (U:=(·≠τ)) (.put λz=>z rfl) (hkp p m n)) (.obj τ) (ri L.n) (v.trans (cGx Value.ref put_at.symm))
  exact this) λ_ _ z=>z) (hs _)
end
section
variable{c:Cx}{F:Fm}{W:Wd}{vs:List AV}{G G' G2:Gh}{h h' h2:Heap}{τ:Tg}{o:AObj}{U:Tg->Prop}{s s':Shared}{a b r:AV}{y:Str}{d:PyData}{i k:Int}{x:Nat}{e:Expr}{ob:Obj}
noncomputable def Gh.hold(G:Gh)(x:Nat)(ob:Obj):Gh:={G with K:=λb=>if b=x then some ob else G.K b}
noncomputable def Gh.unh(G:Gh)(x:Nat):Gh:={G with K:=λb=>if b=x then none else G.K b}
theorem Gr.hold(q:¬G.has x):Gr U G (G.hold x ob):=
 ⟨λ_ _ e=>e,λb z e=>⟨(if_neg λy=>aj (y▸e) (G.not_has q).2.2.1).trans e,rfl⟩,λ_ _ e=>⟨e,rfl⟩,λ_ _=>rfl⟩
structure New(F:Fm)(G:Gh)(h:Heap)(x:Nat):Prop where
 has:¬G.has x
 fa:x∉F.fa
 fc:∀y d,F.env.cells.lookup y=some d->d≠x
theorem ST.new(S:ST F c G h)(hx:h.objs.size<=x):New F G h x:=⟨S.sr.fresh hx,S.fr.fresh hx,λy d e z=>(S.fr.alive.2 y d e).elim λ_ q=>qr.mpr hx (z▸Heap.lt_size q)⟩
theorem ST.hold(S:ST F c G h)(N:New F G h x)(e:h.get? x=some ob):ST F c (G.hold x ob) h:=by
 have n:=G.not_has N.has
 refine⟨S.sr.grow (.hold N.has) rfl rfl (λb z q=> ?_) (λb z q=> ?_) (λb τ z=>⟨(S.sr.at_ b τ z).1.1,(if_neg λ(y:b=x)=>aj (y▸z) n.1).trans (S.sr.at_ b τ z).1.2.1⟩),S.fr.mono (U:=ek) (.hold N.has) (λ_ v _=>v.keepsT) (λb m q=>S.fr.fa0 b m (q.imp id λq=>q.imp (λq=>q.imp λo q=>q.imp id λq=>(if_neg λ(y:b=x)=>N.fa (y▸m)).symm.trans q) id)) λ_ _ _ z=>z⟩
 ·by_cases y:b=x
  ·rw [y];exact n.2.2.2
  ·exact S.sr.kz b z ((if_neg y).symm.trans q)
 ·by_cases y:b=x
  ·exact q.elim (λq=>S.sr.prot b z (.inl q)) λq=>by rw [y];exact e.trans ((if_pos y).symm.trans q)
  ·exact S.sr.prot b z (q.imp id λq=>(if_neg y).symm.trans q)
structure Unh(F:Fm)(U:Tg->Prop)(c:Cx)(G G2:Gh)(h2:Heap)(x:Nat)(ob:Obj):Prop where
 S:ST F c (G2.unh x) h2
 g:Gr U G (G2.unh x)
 n:New F (G2.unh x) h2 x
 at_:h2.get? x=some ob
 v:∀a v,AVR G2 a v->AVR (G2.unh x) a v
theorem ST.unh(N:New F G h x)(g:Gr U (G.hold x ob) G2)(S:ST F c G2 h2):Unh F U c G G2 h2 x ob:=by
 have kx:G2.K x=some ob/\G2.P x=G.P x:=g.k x ob (if_pos rfl)
 have n:=G.not_has N.has
 have own:G2.own x=none:=qp.mpr λτ z=>aj kx.1 (S.sr.at_ x τ z).1.2.1
 have ku:∀b z,(G2.unh x).K b=some z->b≠x/\G2.K b=some z:=λb z q=>by
  have q:(if b=x then none else G2.K b)=some z:=q
  split at q
  ·cases q
  ·rename_i y;exact⟨y,q⟩
 have hu:¬(G2.unh x).has x:=Gh.has_not ⟨own,kx.2.trans n.2.1,if_pos rfl,S.sr.kz x ob kx.1⟩
 have v:∀a v,AVR G2 a v->AVR (G2.unh x) a v:=λa v r=>AVR.mono0 (G':=G2.unh x) (U:=ek) ⟨λ_ _ z=>z,λ_ _=>rfl⟩ a.keepsT r
 refine⟨⟨⟨S.sr.base,λb z q=>S.sr.prot b z (q.imp id λq=>(ku b z q).2),S.sr.zrot,S.sr.zst,λb z q=>S.sr.kz b z (ku b z q).2,λτ z q=>OR.mono0 (U:=ek) ⟨λ_ _ z=>z,λ_ _=>rfl⟩ z.keepsT (S.sr.obj τ z q),S.sr.own,S.sr.frz,λb τ q=> ?_⟩,S.fr.st,?_,?_,S.fr.live,λb m q=>S.fr.fa0 b m (q.imp id λq=>q.imp (λq=>q.imp λz q=>q.imp id λq=>(ku b z q).2) id),λy d q=>⟨(S.fr.cown y d q).1,(S.fr.cown y d q).2.imp id λz=> ?_⟩⟩,⟨g.p,λb z q=> ?_,g.z,g.m⟩,⟨hu,N.fa,N.fc⟩,S.sr.prot x ob (.inr kx.1),v⟩
 ·obtain⟨y,z⟩:=S.sr.at_ b τ q
  exact⟨⟨y.1,qp.mpr λz q=>aj (ku b z q).2 y.2.1,y.2.2⟩,z⟩
 ·exact S.fr.ns.imp λm q=>⟨q.1,λx w e1 e2=>(q.2 x w e1 e2).imp λy r=>⟨r.1,v _ _ r.2⟩⟩
 ·exactλx w e1 e2=>(S.fr.cell x w e1 e2).imp λc q=>q.imp λy q=>⟨q.1,q.2.1,v _ _ q.2.2⟩
 ·rw [show(G2.unh x).K d=G2.K d from if_neg (N.fc y d q)];exact z
 ·have e:b≠x:=λy=>aj (y▸q) n.2.2.1
  obtain⟨y,w⟩:=g.k b z ((if_neg e).trans q)
  exact⟨(if_neg e).trans y,w⟩
theorem ST.same(S:ST F c G h)(N:New F G h x)(hs:Heap.SameBut x h h'):ST F c G h':=
 ⟨S.sr.frame N.has hs,S.fr.step (hs.2 _ λq=>N.fa (q▸S.fr.st.faL)) λy d q=>hs.2 d (N.fc y d q)⟩
theorem ST.ext(S:ST F c G h)(N:New F G h x)(hs:Heap.ExtBut x h h'):ST F c G h':=
 ⟨S.sr.step λb q=>keeps_eq1 (S.sr.live q) λob e=>hs b ob (λz=>N.has (z▸q)) e,S.fr.step (keeps_eq1 S.fr.alive.1 λob e=>hs _ ob (λz=>N.fa (z▸S.fr.st.faL)) e) λy d q=>keeps_eq1 (S.fr.alive.2 y d q) λob e=>hs d ob (N.fc y d q) e⟩
where keeps_eq1 {h h':Heap} {a:Nat} (e:∃o,h.get? a=some o) (k:∀o,h.get? a=some o->h'.get? a=some o):h'.get? a=h.get? a:=e.elim λo e=>(k o e).trans e.symm
noncomputable def owners:List String:=["enumerate","zip","dict_itemiterator","dict_reverseitemiterator","odict_iterator","itertools.zip_longest","itertools.pairwise"]
def ItLive(h:Heap)(I:Nat):Prop:=∃o n vs,h.get? I=some o/\o.cls= .type n/\o.data= .fields vs/\owners.contains n=false
theorem ItLive.go{I:Nat}{A:Around}{target:Expr}{v:Value}{Q:Unit->Shared->Prop}{E:Value->Shared->Prop}(x:ItLive s.heap I)(q:Q () s):wpAny (Mk W) A (letOwnedTupleGo target (.ref I) v) Q E s:=by
 obtain⟨o,n,vs,e,hc,hd,hn⟩:=x
 cases target<;>(first|exact wP q|skip)
 all_goals
  cases v<;>(first|exact wP q|skip)
  unfold letOwnedTupleGo
  refine wB (wpAny_load e ?_)
  rw [hc,hd]
  rename_i a
  show wpAny _ A (if(owners.contains n&&vs[0]? ==some (rawInt a))=true then _ else _) Q E s
  rw [if_neg (by rw [hn,Bool.false_and];exact jx)]
  exact wP q
structure Itn(W:Wd)(G0:Gh)(I:Nat)(vs:List AV)(pr:List (Nat×Obj))(St:Nat->Heap->Prop):Prop where
 live:∀i h,St i h->ItLive h I
 frame:∀i h h',St i h->h'.get? I=h.get? I->St i h'
 self:∀i (A:Around) (s:Shared) (Q:Value->Shared->Prop) (E:Value->Shared->Prop),St i s.heap->Q (.ref I) s->wpAny (Mk W) A (pyIter (.ref I)) Q E s
 item:∀i x (A:Around) (s:Shared) (Q:Option Value->Shared->Prop),vs[i]? =some x->A.handled=none->(∀p∈pr,s.heap.get? p.1=some p.2)->St i s.heap->
  (∀v h' tk,AVR G0 x v->St (i+1) h'->Heap.SameBut I s.heap h'->Q (some v) {s with heap:=h',toks:=tk})->wpAny (Mk W) A (pyNext (.ref I)) Q no s
 done:∀(A:Around) (s:Shared) (Q:Option Value->Shared->Prop),A.handled=none->(∀p∈pr,s.heap.get? p.1=some p.2)->St vs.length s.heap->(∀h' tk,Heap.ExtBut I s.heap h'->Q none {s with heap:=h',toks:=tk})->wpAny (Mk W) A (pyNext (.ref I)) Q no s
inductive RIt(F:Fm)(c:Cx)(G:Gh)(s:Shared)(vs:List AV)(v:Value)(s':Shared):Prop
 |mk (G':Gh) (e:Gr ek G G') (S:ST F c G' s'.heap) (q:SS s s') (I:Nat) (pr:List (Nat×Obj)) (St:Nat->Heap->Prop) (z:v= .ref I) (N:New F G' s'.heap I) (it:Itn F.W G' I vs pr St) (st:St 0 s'.heap) (hp:∀p∈pr,G'.P p.1=some p.2\/∃τ,G'.Z p.1=some (τ,p.2))
def It0(F:Fm)(c:Cx)(a:AV)(vs:List AV):Prop:=∀G s x,ST F c G s.heap->AVR G a x->wpAny (Mk F.W) F.A (pyIter x) (RIt F c G s vs) no s
variable{c1 c2 c3:Cx}{σ:Tg->Option AObj}{as:List AV}{xs:List (Str×AV)}{es:List Expr}{U':Tg->Prop}{s'':Shared}{t:Bool}{fl:Fl}{pos:Pos}{ds:List PyData}{f:Int->Option AV}
def LsZ(σ:Tg->Option AObj)(a:AV)(vs:List AV):Prop:=(∃ds,a= .dat (.list ds)/\vs=ds.map .dat)\/∃τ,a= .obj τ/\σ τ=some (.list false vs)
theorem ls_fz{v:Value}(S:SR W σ G h)(hl:LsZ σ a vs)(r:AVR G a v):∃y items n,v= .ref y/\(G.P y=some (listOf items n)\/∃τ,G.Z y=some (τ,listOf items n))/\All2 (AVR G) vs items.toList:=
 hl.elim (λq=>q.elim λds q=>by
  rw [q.1] at r
  rw [q.2]
  exact r.imp λy r=>r.imp λitems r=>r.imp λn r=>⟨r.1,.inl r.2.1,r.2.2.dats⟩) λq=>q.elim λτ q=>(S.frz τ _ _ q.2 rfl rfl).elim λob z=>by
  obtain⟨items,n,y⟩:=S.obj τ _ q.2
  rw [q.1] at r
  exact⟨_,items,n,r,.inr ⟨τ,sJx ((S.zrot _ _ _ z).symm.trans y.1)▸z⟩,y.2⟩
theorem I5(hl:LsZ c.σ a vs):It0 F c a vs:=λG s v S r=>by
 obtain⟨y,items,n,rfl,p,q⟩:=ls_fz S.sr hl r
 have g:s.heap.get? y=some (listOf items n):=p.elim (λp=>S.sr.prot _ _ (.inl p)) λp=>p.elim λ_ p=>S.sr.zrot _ _ _ p
 refine wpAny_pyIter_list (bw g) ⟨G,.refl,S.push _,SS.heap _ _,s.heap.objs.size,[(y,listOf items n)],λi h=>h.IsListIter s.heap.objs.size y i,rfl,⟨S.sr.fresh (jc _),S.fr.fresh (jc _),(S.new (jc _)).fc⟩,⟨?_,?_,?_,?_,?_⟩,⟨_,Heap.get?_push_size _ rfl,rfl,rfl⟩,λz m=>jg.mp m▸p⟩
 ·exactλi h ⟨o,ho,hc,hd⟩=>⟨o,_,_,ho,hc,hd,by decide⟩
 ·exactλi h h' ⟨o,ho,r⟩ q=>⟨o,q.trans ho,r⟩
 ·exactλi A s Q E st q=>wpAny_pyIter_listiter st q
 ·exactλi x A s Q hx hh hp st hQ=>by
   obtain⟨v,hv,rv⟩:=ir q hx
   exact wpAny_pyNext_list_item st (bw (hp _ (.head _))) hv λh' st' hs=>hQ v h' s.toks rv st' hs
 ·exactλA s Q hh hp st hQ=>wpAny_pyNext_list_end hh st (bw (hp _ (.head _))) (by rw [Array.getElem?_eq_none_iff,q.length,ju];exact jc _) λh' hs=>hQ h' s.toks hs
theorem D6{y n:Nat}{items:Array Value}(S:ST F c G s.heap)(p:G.P y=some (dc items n))(q:All2 (AVR G) vs items.toList):wpAny (Mk F.W) F.A (pyIter (.ref y)) (RIt F c G s vs) no s:=by
 refine iter_tuple ⟨_,S.sr.prot _ _ (.inl p),rfl,_,rfl⟩ ⟨G,.refl,S.push _,SS.heap _ _,s.heap.objs.size,[(y,dc items n)],λi h=>IsTupIter h s.heap.objs.size y i,rfl,⟨S.sr.fresh (jc _),S.fr.fresh (jc _),(S.new (jc _)).fc⟩,⟨?_,?_,?_,?_,?_⟩,⟨_,Heap.get?_push_size _ rfl,rfl,rfl⟩,λz m=>jg.mp m▸ .inl p⟩
 ·exactλi h ⟨o,ho,hc,hd⟩=>⟨o,_,_,ho,hc,hd,by decide⟩
 ·exactλi h h' ⟨o,ho,r⟩ q=>⟨o,q.trans ho,r⟩
 ·exactλi A s Q E st q=>wpAny_pyIter_tupleiter st q
 ·exactλi x A s Q hx hh hp st hQ=>by
   obtain⟨v,hv,rv⟩:=ir q hx
   exact next_tuple_item st ⟨_,hp _ (.head _),rfl,_,rfl⟩ hv λh' st' hs=>hQ v h' s.toks rv st' hs
 ·exactλA s Q hh hp st hQ=>next_tuple_end hh st ⟨_,hp _ (.head _),rfl,_,rfl⟩ (by rw [Array.getElem?_eq_none_iff,q.length,ju];exact jc _) λh' hs=>hQ h' s.toks hs
theorem it_tup(ht:∀G v,AVR G a v->∃y items n,v= .ref y/\G.P y=some (dc items n)/\All2 (AVR G) vs items.toList):It0 F c a vs:=λG s v S r=>by
 obtain⟨y,items,n,rfl,p,q⟩:=ht G v r
 exact D6 S p q
theorem tup_dat:∀G v,AVR G (.dat (.tuple ds)) v->∃y items n,v= .ref y/\G.P y=some (dc items n)/\All2 (AVR G) (ds.map .dat) items.toList:=λG v r=>
 r.imp λy r=>r.imp λitems r=>r.imp λn r=>⟨r.1,r.2.1,r.2.2.dats⟩
theorem it_range{n:Int}(h0:0<=n)(h1:n<=1000000):It0 F c (.range n) ((List.range n.toNat).map λ(i:Nat)=> .dat (.int (i:Int))):=λG s v S r=>by
 obtain⟨y,t1,t2,t3,rfl,p⟩:=r
 have hr:IsRange s.heap y 0 n 1 t1 t2 t3:=S.sr.prot _ _ (.inl p)
 have hsz:Builtin.Range.rangeSize 0 n 1=n:=by rw [rangeSize_one];split;exact Int.sub_zero n;exact Int.le_antisymm h0 (Int.not_lt.mp ‹_›)
 refine wpAny_pyIter_range hr (small_one (by decide) (by decide) (Int.le_trans (by decide) h0) (xr h1 (by decide))) ?_
 rw [hsz]
 refine⟨G,.refl,S.push _,SS.heap _ _,s.heap.objs.size,[],λi h=>IsRangeIter h s.heap.objs.size (i:Int) (n-i) 1,rfl,⟨S.sr.fresh (jc _),S.fr.fresh (jc _),(S.new (jc _)).fc⟩,⟨?_,?_,?_,?_,?_⟩,?_,λz m=>(by cases m)⟩
 ·exactλi h ho=>⟨_,_,_,ho,rfl,rfl,by decide⟩
 ·exactλi h h' ho q=>q.trans ho
 ·exactλi A s Q E st q=>wpAny_pyIter_rangeiter st q
 ·intro i x A s1 Q hx hh hp st hQ
  have hi:i<n.toNat:=by
   by_cases q:i<n.toNat
   ·exact q
   ·rw [List.getElem?_eq_none (by rw [jb,qx];exact xw q)] at hx;cases hx
  rw [jw,List.getElem?_range hi] at hx
  cases hx
  refine wpAny_pyNext_range_item st (Int.sub_pos_of_lt (Int.lt_toNat.mp hi)) λh' st' hs=>hQ _ h' (s1.toks+1) ⟨_,rfl⟩ ?_ hs
  show IsRangeIter _ _ _ _ _
  rw [show((i+1:Nat):Int)=(i:Int)+1 from rfl,<-Int.sub_sub]
  exact st'
 ·intro A s1 Q hh hp st hQ
  rw [jb,qx] at st
  exact wpAny_pyNext_range_end hh st (Int.sub_nonpos_of_le (Int.self_le_toNat n)) λh' hs=>hQ h' s1.toks hs
 ·show IsRangeIter _ _ _ _ _
  rw [show n-((0:Nat):Int)=n from Int.sub_zero n]
  exact Heap.get?_push_size _ rfl
noncomputable def Lp(F:Fm)(U:Tg->Prop)(target:Expr)(body:List Stmt)(fl:Fl)(c':Cx):List AV->Cx->Prop
 |[],c=>fl= .next/\c'=c
 |x::xs,c=>∃c1 c2,As F c target x c1/\((Xs F U c1 body .next c2/\∃c3:Cx,c3.σ=c2.σ/\(∀y v,c3.ρ.lookup y=some v->c2.ρ.lookup y=some v)/\Lp F U target body fl c' xs c3)\/(Xs F U c1 body fl c2/\c'=c2/\fl≠ .next))
theorem ST.cut(S:ST F c G h){c':Cx}(hs:c'.σ=c.σ)(hr:∀y v,c'.ρ.lookup y=some v->c.ρ.lookup y=some v):ST F c' G h:=⟨hs▸S.sr,S.fr.sub hr⟩
theorem A6{β:Type}{vs xs:List β}{i:Nat}{x:β}(e:vs.drop i=x::xs):vs[i]? =some x/\vs.drop (i+1)=xs:=
 ⟨by rw [<-List.head?_drop,e];rfl,by rw [<-List.tail_drop,e];rfl⟩
inductive FI(F:Fm)(U:Tg->Prop)(target:Expr)(body:List Stmt)(I:Nat)(vs:List AV)(St:Nat->Heap->Prop)(G:Gh)(s:Shared)(fl:Fl)(c1:Cx)(k:Nat)(s':Shared):Prop
 |mk (i:Nat) (rest:List AV) (G':Gh) (c':Cx) (hr:vs.drop i=rest) (hk:k=rest.length+1) (hi:i+rest.length=vs.length) (g:Gr U G G') (S:ST F c' G' s'.heap) (st:St i s'.heap) (L:Lp F U target body fl c1 rest c') (q:SS s s') (N:New F G' s'.heap I)
inductive ItS(W:Wd)(G:Gh)(I:Nat)(x:AV)(st:Heap->Prop)(s:Shared):Option Value->Shared->Prop
 |mk (v:Value) (h:Heap) (tk:Nat) (r:AVR G x v) (t:st h) (hs:Heap.SameBut I s.heap h):ItS W G I x st s (some v) {s with heap:=h,toks:=tk}
inductive ItE(I:Nat)(s:Shared):Option Value->Shared->Prop
 |mk (h:Heap) (tk:Nat) (hs:Heap.ExtBut I s.heap h):ItE I s none {s with heap:=h,toks:=tk}
theorem New.move(N:New F G h x):New F G h' x:=⟨N.has,N.fa,N.fc⟩
inductive BoP(F:Fm)(U:Tg->Prop)(P:Nat->Shared->Prop)(G:Gh)(s:Shared)(fl:Fl)(c1:Cx)(k:Nat):Flow->Shared->Prop
 |next {m:Nat} {s':Shared} (hm:m<k) (h:P m s'):BoP F U P G s fl c1 k .next s'
 |ret {v:Value} {s':Shared} (h:RA F U c1 G s (λG=>FlR G fl) (.ret v) s'):BoP F U P G s fl c1 k (.ret v) s'
inductive TuP(F:Fm)(U:Tg->Prop)(P:Nat->Shared->Prop)(target:Expr)(body:List Stmt)(I:Nat)(G:Gh)(s:Shared)(fl:Fl)(c1:Cx)(k:Nat):Option Value->Shared->Prop
 |done {s':Shared} (h:RA F U c1 G s (λG=>FlR G fl) .next s'):TuP F U P target body I G s fl c1 k none s'
 |item {v:Value} {s':Shared} (l:ItLive s'.heap I) (h:wpAny (Mk F.W) F.A (assign target F.env v) (λ_ s2=>wpAny (Mk F.W) F.A (execs body F.env) (BoP F U P G s fl c1 k) no s2) no s'):TuP F U P target body I G s fl c1 k (some v) s'
theorem for_turn{target:Expr}{body:List Stmt}{I:Nat}{pr:List (Nat×Obj)}{St:Nat->Heap->Prop}{s1:Shared}{k:Nat}{P:Nat->Shared->Prop}(hP:∀k s,FI F U target body I vs St G s' fl c1 k s->P k s)(it:Itn F.W G I vs pr St)(hv:∀v∈vs,v.keeps U)(hp:∀p∈pr,G.P p.1=some p.2\/∃τ,G.Z p.1=some (τ,p.2))(X:FI F U target body I vs St G s' fl c1 k s1):
  wpAny (Mk F.W) F.A (pyNext (.ref I)) (TuP F U P target body I G s' fl c1 k) no s1:=by
 obtain⟨i,rest,G1,c',hr,hk,hi,g1,S1,t1,L1,q1,N1⟩:=X
 have hp1:∀p∈pr,s1.heap.get? p.1=some p.2:=λp m=>(hp p m).elim (λz=>S1.sr.prot _ _ (.inl (g1.p _ _ z))) λz=>z.elim λτ z=>S1.sr.zrot _ _ _ (g1.z _ _ z).1
 cases rest with
 |nil=>exact it.done F.A s1 _ S1.fr.st.hnd hp1 ((show i=vs.length from hi)▸t1) λh2 tk hs=> .done ⟨G1,g1,L1.2▸S1.ext N1 hs,L1.1▸rfl,q1.trans (SS.heap h2 tk)⟩
 |cons x xs=>
  obtain⟨hx,hd⟩:=A6 hr
  refine it.item i x F.A s1 _ hx S1.fr.st.hnd hp1 t1 λv h2 tk rv t2 hs=> .item (s':={s1 with heap:=h2,toks:=tk}) (it.live _ _ t2) ?_
  obtain⟨ob,_,_,hI,_⟩:=it.live _ _ t2
  have gh:Gr U G1 (G1.hold I ob):= .hold N1.has
  obtain⟨c2,c3,A,L1⟩:=L1
  refine wM (A _ {s1 with heap:=h2,toks:=tk} v ((S1.same N1 hs).hold N1.move hI) (rv.mono (g1.trans gh) (hv x (xp hx)))) (λ_ s3 z=>z.casesOn λG3 g3 S3 _ q3=> ?_) λ_ _ x=>x
  have un:∀{c:Cx} {G4:Gh} {s4:Shared},Gr U G3 G4->ST F c G4 s4.heap->Unh F U c G1 G4 s4.heap I ob:=λg4 S4=>ST.unh (N1.move (h':=h2)) ((g3.weak λ_ _=>trivial).trans g4) S4
  have sk:∀{s'':Shared},SS s3 s''->SS s' s'':=λb=>q1.trans ((SS.heap h2 tk).trans (q3.trans b))
  refine L1.elim (λL=>wM (L.1 G3 s3 S3) (λf s4 y=>y.casesOn λG4 g4 S4 r4 q4=> ?_) λ_ _ x=>x) λL=>wM (L.1 G3 s3 S3) (λf s4 y=>y.casesOn λG4 g4 S4 r4 q4=> ?_) λ_ _ x=>x
  ·have Q:=un g4 S4
   exact L.2.elim λc5 L2=>(show f= .next from r4)▸ .next (by rw [hk];exact wq _) (hP (xs.length+1) s4 ⟨i+1,xs,_,_,hd,rfl,(wg i xs.length).trans hi,g1.trans Q.g,Q.S.cut L2.1 L2.2.1,it.frame _ _ _ t2 (Q.at_.trans hI.symm),L2.2.2,sk q4,Q.n⟩)
  ·have Q:=un g4 S4
   cases fl with
   |next=>exact absurd rfl L.2.2
   |ret a=>exact r4.elim λw r=>r.1▸ .ret ⟨_,g1.trans Q.g,L.2.1▸Q.S,⟨w,rfl,Q.v _ _ r.2⟩,sk q4⟩
theorem for_core{target:Expr}{body:List Stmt}{I:Nat}{pr:List (Nat×Obj)}{St:Nat->Heap->Prop}(it:Itn F.W G I vs pr St)(L:Lp F U target body fl c1 vs c)(hv:∀v∈vs,v.keeps U)(S0:ST F c G s.heap)(N:New F G s.heap I)(st:St 0 s.heap)(hp:∀p∈pr,G.P p.1=some p.2\/∃τ,G.Z p.1=some (τ,p.2)):
  codeAny (Mk F.W) F.A (.forLoop target (.ref I) body [] F.env) (λr s'=>match r with| .ok f=>RA F U c1 G s (λG=>FlR G fl) f s'| .error e=>cameBackBy (Mk F.W) F.A F.env no e s') s:=
 codeAny_forLoop_any (FI F U target body I vs St G s fl c1) (λk s1 X=>wM (for_turn (λ_ _ x=>x) it hv hp X) (λr s2 z=>z.casesOn (λh=>wpAny_execs_nil h) λl h=>l.go (wM h (λ_ s3 h=>wM h (λf s4 b=>b.casesOn (λhm h=>⟨_,hm,h⟩) λh=>h) λ_ _ x=>x.elim) λ_ _ x=>x.elim)) λ_ _ x=>x.elim) (vs.length+1) ⟨0,vs,G,c,rfl,rfl,qn _,.refl,S0,st,L,.refl,N⟩
inductive RIu(F:Fm)(U:Tg->Prop)(c:Cx)(G:Gh)(s:Shared)(vs:List AV)(v:Value)(s':Shared):Prop
 |mk (G1:Gh) (s1:Shared) (g:Gr U G G1) (q:SS s s1) (r:RIt F c G1 s1 vs v s')
def EvIt(F:Fm)(U:Tg->Prop)(c:Cx)(e:Expr)(vs:List AV)(c':Cx):Prop:=∀G s,ST F c G s.heap->wpAny (Mk F.W) F.A (eval e F.env) (λv s1=>wpAny (Mk F.W) F.A (pyIter v) (RIu F U c' G s vs) no s1) no s
theorem Do.iter(E:Ev F U c e a c1)(I:It0 F c1 a vs):EvIt F U c e vs c1:=λG s S=>E.bind S λG1 v s1 S1 r1 g1 q1=>wM (I G1 s1 v S1 r1) (λ_ _ z=>⟨G1,s1,g1,q1,z⟩) λ_ _ x=>x
theorem M7{k:Nat}(E:Ce F U c es as c1)(hz:as.length<=1000):EvIt F U c (.Tuple es k pos) as c1:=λG s S=>
 Tuple_ ((E pos).bind S λG1 vs s1 S1 r1 g1 q1=>wpAny_newTuple (by
  obtain⟨g2,S2,p⟩:=S1.data (U:=U) (ob:=dc vs.toArray 0) rfl
  exact wM (D6 (s:={s1 with heap:=s1.heap.push (dc vs.toArray 0)}) S2 p (r1.mono λa _ v r=>r.mono (U:=ek) (.prot (S1.sr.fresh (jc _))) a.keepsT)) (λ_ _ z=>⟨_,{s1 with heap:=s1.heap.push (dc vs.toArray 0)},g1.trans g2,q1.trans (s':=s1) ⟨rfl,rfl,rfl⟩,z⟩) λ_ _ x=>x) (b6 (pj r1 (ja hz (by decide)))))
theorem x_for{target iter:Expr}{body:List Stmt}(E:EvIt F U' c iter vs c1)(hU:∀τ,U' τ->U τ)(hv:∀v∈vs,v.keeps U)(L:Lp F U target body fl c2 vs c1)(hs:∀x,foldedSetIterable iter F.env x=pure x):X1 F U' c (.For target iter body [] pos) fl c2:=λG s S=>
 wpAny_For (wM (E G s S) (λv s1 z=>wM z (λit s2 z=>z.casesOn λG1 s1 g1 q1 z=>z.casesOn λG2 g2 S2 q2 I pr St e N itn st hp=>by
  rw [e]
  refine codeAny_mono (for_core itn L hv S2 N st hp) λr s3 z=> ?_
  cases r with
  |error e=>exact z
  |ok f=>exact RA.glue (g1.trans (g2.weak λ_ _=>trivial)) (q1.trans q2) (z.casesOn λg e' S r q'=>⟨g,e'.weak hU,S,r,q'⟩)) λ_ _ x=>x) λ_ _ x=>x) hs
variable{α:Type}{o':AObj}{R:Gh->α->Prop}{u:Bool}
structure Fz(o o':AObj):Prop where
 w:o.wr=true
 w':o'.wr=false
 ad:∀a b,o.ad a b↔b=a
 ad':∀a b,o'.ad a b↔b=a
 r:∀W G h a,OR W G h a o↔OR W G h a o'
 k:∀U,o.keeps U↔o'.keeps U
 cls:∀D as,o'≠ .inst D as/\o≠ .inst D as
 dct:∀w f,o'≠ .dictI w f/\o≠ .dictI w f
theorem fy:Fz (.list true vs) (.list false vs):=⟨rfl,rfl,λ_ _=> .rfl,λ_ _=> .rfl,λ_ _ _ _=> .rfl,λ_=> .rfl,λ_ _=>⟨nofun,nofun⟩,λ_ _=>⟨nofun,nofun⟩⟩
theorem Cw{l:List (Int×AV)}:Fz (.dictL true l) (.dictL false l):=⟨rfl,rfl,λ_ _=> .rfl,λ_ _=> .rfl,λ_ _ _ _=> .rfl,λ_=> .rfl,λ_ _=>⟨nofun,nofun⟩,λ_ _=>⟨nofun,nofun⟩⟩
noncomputable def Gh.freeze(G:Gh)(τ:Tg)(ob:Obj):Gh:={G with Z:=λb=>if b=G.μ τ then some (τ,ob) else G.Z b,own:=λb=>if b=G.μ τ then none else G.own b}
noncomputable def Gh.thaw(G:Gh)(τ:Tg):Gh:={G with Z:=λb=>if b=G.μ τ then none else G.Z b,own:=λb=>if b=G.μ τ then some τ else G.own b}
theorem OR.ghost{a:Nat}(p:G'.P=G.P)(m:G'.μ=G.μ)(r:OR W G h a o):OR W G' h a o:=r.mono0 (U:=ek) ⟨λ_ _ z=>p▸z,λ_ _=>m▸rfl⟩ o.keepsT
theorem AVR.ghost{v:Value}(p:G'.P=G.P)(m:G'.μ=G.μ)(r:AVR G a v):AVR G' a v:=r.mono0 (U:=ek) ⟨λ_ _ z=>p▸z,λ_ _=>m▸rfl⟩ a.keepsT
theorem bg{β:Type}{p:Prop}[Decidable p]{a b:Option β}{z:β}(q:(if p then a else b)=some z):(p/\a=some z)\/(¬p/\b=some z):=by
 by_cases x:p
 ·exact .inl ⟨x,(if_pos x).symm.trans q⟩
 ·exact .inr ⟨x,(if_neg x).symm.trans q⟩
structure Rest(F:Fm)(c:Cx)(G:Gh)(h:Heap)(τ:Tg)(o':AObj)(ob:Obj):Prop where
 S:ST F ⟨c.ρ,up c.σ τ o'⟩ (G.freeze τ ob) h
 g:Gr ek G (G.freeze τ ob)
 p:G.P (G.μ τ)=none
 z:G.Z (G.μ τ)=none
 st:cStatics<G.μ τ
theorem ST.freeze(S:ST F c G h)(e:c.σ τ=some o)(z:Fz o o')(g:h.get? (G.μ τ)=some ob):Rest F c G h τ o' ob:=by
 have own:G.own (G.μ τ)=some τ:=S.sr.own τ o _ e z.w ((z.ad _ _).mpr rfl)
 obtain⟨⟨p,k,zz,st⟩,_⟩:=S.sr.at_ _ _ own
 have gr:Gr ek G (G.freeze τ ob):=⟨λ_ _ q=>q,λ_ _ q=>⟨q,rfl⟩,λb _ q=>⟨(if_neg λy=>aj (y▸q) zz).trans q,rfl⟩,λ_ _=>rfl⟩
 refine⟨⟨⟨S.sr.base,S.sr.prot,λb t q y=> ?_,λb t q y=>(bg y).elim (λy=>y.1▸st) λy=>S.sr.zst b t q y.2,λb q y=>(if_neg λz=>aj (z▸y) k).trans (S.sr.kz b q y),λt q y=> ?_,λt q b y w r=> ?_,λt q b y w r=> ?_,λb t q=> ?_⟩,S.fr.mono gr (λ_ v _=>v.keepsT) (λb m q=>S.fr.fa0 b m ?_) λb q _ y=>by show(if b=_ then _ else _)=_;rw [y,ite_self]⟩,gr,p,zz,st⟩
 ·exact(bg y).elim (λy=>y.1▸(Prod.mk.inj (sJx y.2)).2▸g) λy=>S.sr.zrot b t q y.2
 ·exact OR.ghost (G:=G) (a:=G.μ t) rfl rfl ((i6 y).elim (λy=>y.1▸y.2▸(z.r _ _ _ _).mp (S.sr.obj τ o e)) λy=>S.sr.obj t q y.2)
 ·exact(i6 y).elim (λy=>absurd ((y.2▸z.w').symm.trans w) (by decide)) λy=>(if_neg λ(m:b=_)=>y.1 (sJx ((S.sr.own t _ b y.2 w r).symm.trans (m▸own)))).trans (S.sr.own t q b y.2 w r)
 ·exact(i6 y).elim (λy=>⟨ob,(if_pos (show b=_ from by rw [y.1,y.2] at r;exact(z.ad' _ _).mp r)).trans (by rw [y.1])⟩) λy=>(S.sr.frz t q b y.2 w r).imp λob q=>(if_neg λz=>aj (z▸q) zz).trans q
 ·obtain⟨n,q⟩:=(bg q).resolve_left λq=>(by nomatch q.2)
  obtain⟨y,ob',y2,w,r⟩:=S.sr.at_ b t q
  refine⟨⟨y.1,y.2.1,(if_neg n).trans y.2.2.1,y.2.2.2⟩,ob',(bc λm=>n ?_).trans y2,w,r⟩
  rw [m] at y2 r
  exact(z.ad _ _).mp (sJx (y2.symm.trans e)▸r)
 ·exact q.elim (λq=>q.elim λt q=>(bg q).elim (λq=>(by nomatch q.2)) λq=> .inl ⟨t,q.2⟩) λq=>q.elim (λq=> .inr (.inl q)) λq=>q.elim λt q=>(bg q).elim (λq=>q.1▸ .inl ⟨_,own⟩) λq=> .inr (.inr ⟨t,q.2⟩)
structure Woke(F:Fm)(c:Cx)(U:Tg->Prop)(G0 G:Gh)(h:Heap)(τ:Tg)(o:AObj):Prop where
 S:ST F ⟨c.ρ,up c.σ τ o⟩ (G.thaw τ) h
 g:Gr U G0 (G.thaw τ)
theorem ST.thaw{c0:Cx}(X:Rest F c0 G2 h2 τ o' ob)(z:Fz o o')(g:Gr U (G2.freeze τ ob) G)(u:U τ)(S:ST F c G h)(e:c.σ τ=some o'):Woke F c U G2 G h τ o:=by
 have m:G.μ τ=G2.μ τ:=g.m τ u
 obtain⟨Z0,P0⟩:=g.z (G2.μ τ) (τ,ob) (if_pos rfl)
 rw [<-m] at Z0 P0
 have pn:G.P (G.μ τ)=none:=P0.trans (m▸X.p)
 have kn:G.K (G.μ τ)=none:=qp.mpr λo q=>aj Z0 (S.sr.kz _ _ q)
 have on:G.own (G.μ τ)=none:=qp.mpr λt q=>aj Z0 (S.sr.at_ _ _ q).1.2.2.1
 refine⟨⟨⟨S.sr.base,S.sr.prot,λb t q y=> ?_,λb t q y=>(bg y).elim (λy=>(by nomatch y.2)) λy=>S.sr.zst b t q y.2,λb q y=> ?_,λt q y=> ?_,λt q b y w r=> ?_,λt q b y w r=> ?_,λb t q=> ?_⟩,S.fr.st,?_,?_,S.fr.live,λb n q=>S.fr.fa0 b n ?_,λx d q=> ?_⟩,?_⟩
 ·exact(bg y).elim (λy=>(by nomatch y.2)) λy=>S.sr.zrot b t q y.2
 ·show(if b=_ then none else G.Z b)=none
  rw [S.sr.kz b q y,ite_self]
 ·exact OR.ghost (G:=G) (a:=G.μ t) rfl rfl ((i6 y).elim (λy=>y.1▸y.2▸(z.r _ _ _ _).mpr (S.sr.obj τ o' e)) λy=>S.sr.obj t q y.2)
 ·exact(i6 y).elim (λy=>(if_pos (show b=_ from by rw [y.1,y.2] at r;exact(z.ad _ _).mp r)).trans (by rw [y.1])) λy=>(if_neg λ(n:b=_)=>aj (S.sr.own t _ b y.2 w r) (n▸on)).trans (S.sr.own t q b y.2 w r)
 ·exact(i6 y).elim (λy=>absurd ((y.2▸z.w).symm.trans w) (by decide)) λy=>(S.sr.frz t q b y.2 w r).imp λob q=>(if_neg λ(n:b=_)=>y.1 (Prod.mk.inj (sJx ((n▸q).symm.trans Z0))).1).trans q
 ·by_cases n:b=G.μ τ
  ·have:t=τ:=(sJx ((if_pos n).symm.trans q)).symm
   rw [this,n]
   exact⟨⟨pn,kn,if_pos rfl,m▸X.st⟩,o,ba,z.w,(z.ad _ _).mpr rfl⟩
  ·obtain⟨y,ob',y2,w,r⟩:=S.sr.at_ b t ((if_neg n).symm.trans q)
   exact⟨⟨y.1,y.2.1,(if_neg n).trans y.2.2.1,y.2.2.2⟩,ob',(bc λm=>by rw [m,e] at y2;exact absurd ((sJx y2▸w).symm.trans z.w') (by decide)).trans y2,w,r⟩
 ·exact S.fr.ns.imp λm q=>⟨q.1,λx v e1 e2=>(q.2 x v e1 e2).imp λy r=>⟨r.1,AVR.ghost (G:=G) rfl rfl r.2⟩⟩
 ·exactλx v e1 e2=>(S.fr.cell x v e1 e2).imp λc q=>q.imp λy q=>⟨q.1,q.2.1,AVR.ghost (G:=G) rfl rfl q.2.2⟩
 ·exact q.elim (λq=>q.elim λt q=>(bg q).elim (λq=>q.1▸ .inr (.inr ⟨_,Z0⟩)) λq=> .inl ⟨t,q.2⟩) λq=>q.elim (λq=> .inr (.inl q)) λq=>q.elim λt q=>(bg q).elim (λq=>(by nomatch q.2)) λq=> .inr (.inr ⟨t,q.2⟩)
 ·exact⟨(if_neg λ(n:d=_)=>(S.fr.cown x d q).2.elim (λy=>S.fr.fa0 d y (n▸ .inr (.inr ⟨_,Z0⟩))) λy=>by rw [n,kn] at y;cases y).trans (S.fr.cown x d q).1,(S.fr.cown x d q).2⟩
 ·have gg:Gr U G2 G:=(X.g.weak λ_ _=>trivial).trans g
  exact⟨gg.p,gg.k,λb q y=>⟨(if_neg λ(n:b=_)=>aj y (n▸m▸X.z)).trans (gg.z b q y).1,(gg.z b q y).2⟩,gg.m⟩
theorem Do.frz{t:Sem α}(z:Fz o o')(e:c.σ τ=some o)(E:Do F (λt=>U t\/t=τ) ⟨c.ρ,up c.σ τ o'⟩ t R c1)(e1:c1.σ τ=some o')(hR:∀G τ v,R G v->R (Gh.thaw G τ) v):Do F U c t R ⟨c1.ρ,up c1.σ τ o⟩:=λG s S=>
 (S.sr.obj τ o e).live ((z.ad _ _).mpr rfl)|>.elim λob g=>
 have X:=S.freeze e z g
 wM (E _ s X.S) (λv s' y=>y.casesOn λG' g' S' r q=>have w:=S'.thaw X z g' (.inr rfl) e1;⟨_,w.g.weak λ_=> .inl,w.S,hR _ _ _ r,q⟩) λ_ _ x=>x
theorem x_frz{st:Stmt}(z:Fz o o')(e:c.σ τ=some o)(E:X1 F (λt=>U t\/t=τ) ⟨c.ρ,up c.σ τ o'⟩ st fl c1)(e1:c1.σ τ=some o'):X1 F U c st fl ⟨c1.ρ,up c1.σ τ o⟩:=
 Do.frz z e E e1 λG τ v r=>by
  cases fl with
  |next=>exact r
  |ret a=>exact r.imp λv r=>⟨r.1,r.2.ghost rfl rfl⟩
theorem e_frz(z:Fz o o')(e':c.σ τ=some o)(E:Ev F (λt=>U t\/t=τ) ⟨c.ρ,up c.σ τ o'⟩ e a c1)(e1:c1.σ τ=some o'):Ev F U c e a ⟨c1.ρ,up c1.σ τ o⟩:=Do.frz z e' E e1 λG τ v r=>r.ghost rfl rfl
theorem SR.recast(S:SR W σ G h)(e:σ τ=some o)(hw:o'.wr=o.wr)(ad:∀a b,o'.ad a b↔o.ad a b)(R:OR W G h (G.μ τ) o'):SR W (up σ τ o') G h where
 base:=S.base
 prot:=S.prot
 zrot:=S.zrot
 zst:=S.zst
 kz:=S.kz
 obj:=λt q y=>(i6 y).elim (λy=>y.1▸y.2▸R) λy=>S.obj t q y.2
 own:=λt q b y w r=>(i6 y).elim (λy=>y.1▸S.own τ o b e (hw▸y.2▸w) ((ad _ _).mp (y.2▸y.1▸r))) λy=>S.own t q b y.2 w r
 frz:=λt q b y w r=>(i6 y).elim (λy=>y.1▸S.frz τ o b e (hw▸y.2▸w) ((ad _ _).mp (y.2▸y.1▸r))) λy=>S.frz t q b y.2 w r
 at_:=λb t q=>⟨(S.at_ b t q).1,(S.at_ b t q).2.elim λx y=>by
  by_cases n:t=τ
  ·have:=n▸y.1
   rw [e] at this
   exact⟨o',n▸ba,hw▸sJx this▸y.2.1,(ad _ _).mpr (sJx this▸y.2.2)⟩
  ·exact⟨x,(bc n).trans y.1,y.2⟩⟩
variable{σ':Tg->Option AObj}
theorem Eu{kvs:List (Int×Value)}{p:Int×Value}(hn:(kvs.map (·.1)).Nodup)(m:p∈kvs):valueAt kvs p.1=some p.2:=by
 induction kvs with
 |nil=>cases m
 |cons q kvs ih=>
  rw [au]
  refine(jh.mp m).elim (λe=>by rw [e];exact if_pos rfl) λm=> ?_
  have hn:=kj.mp hn
  rw [if_neg λ(e:q.1=p.1)=>hn.1 (e.symm▸List.mem_map_of_mem (f:=(·.1)) m:q.1∈kvs.map (·.1))]
  exact ih hn.2 m
inductive Ord(G:Gh)(f:Int->Option AV)(kvs:List (Int×Value)):Prop
 |mk (l:List (Int×AV)) (r:All2 (λx y=>x.1=y.1/\AVR G x.2 y.2) l kvs) (e:∀x∈l,f x.1=some x.2)
theorem ord_of{kvs:List (Int×Value)}(q:∀p∈kvs,∃a,f p.1=some a/\AVR G a p.2):Ord G f kvs:=by
 induction kvs with
 |nil=>exact⟨[],.nil,λ_ m=>(by nomatch m)⟩
 |cons p kvs ih=>exact(q p (.head _)).elim λa r=>(ih λp m=>q p (.tail _ m)).casesOn λl z w=>
  ⟨(p.1,a)::l,.cons ⟨rfl,r.2⟩ z,λx m=>(jh.mp m).elim (λe=>e▸r.1) (w x)⟩
theorem lk_mem{l:List (Int×AV)}(q:lk l k=some a):(k,a)∈l:=by
 obtain⟨p,e,r⟩:=Option.map_eq_some_iff.mp q
 have z:=List.find?_some e
 exact(Prod.ext (oDx z) r:p=(k,a))▸List.mem_of_find?_eq_some e
theorem ord_eq{kvs:List (Int×Value)}{l:List (Int×AV)}(q:∀k,Opt2 (AVR G) (f k) (valueAt kvs k))(r:All2 (λx y=>x.1=y.1/\AVR G x.2 y.2) l kvs)(e:∀x∈l,f x.1=some x.2):lk l k=f k:=by
 cases z:lk l k with
 |some a=>exact(e _ (lk_mem z)).symm
 |none=>
  have:=lk_at r k
  have q:=q k
  rw [z] at this
  cases w:valueAt kvs k with
  |some v=>rw [w] at this;exact this.elim
  |none=>rw [w] at q;cases y:f k with
   |none=>rfl
   |some b=>rw [y] at q;exact q.elim
theorem Bk{l:List (Int×AV)}{kvs:List (Int×Value)}(r:All2 (λx y=>x.1=y.1/\AVR G x.2 y.2) l kvs):l.map (·.1)=kvs.map (·.1):=by
 induction r with
 |nil=>rfl
 |cons r _ ih=>exact yc.mpr ⟨r.1,ih⟩
theorem up_up:up (up σ τ o) τ o'=up σ τ o':=funext λt=>by
 by_cases e:t=τ
 ·rw [e,ba,ba]
 ·rw [bc e,bc e,bc e]
theorem fn_order{g:Value}{n:Nat}(e:σ τ=some (.dictI true f))(E:∀l:List (Int×AV),(l.map (·.1)).Nodup->(∀k,lk l k=f k)->Fn W U n g as (up σ τ (.dictL true l)) a (up σ' τ (.dictL true l))):Fn W U n g as σ a (up σ' τ (.dictI true f)):=λA G s xs hA hd hu S r=>by
 obtain⟨kvs,d,q,hf⟩:=S.obj τ _ e
 have nd:=dj d
 obtain⟨l,z,w⟩:=ord_of (G:=G) (f:=f) (kvs:=kvs) λp m=>by
  have q:=q p.1
  rw [Eu nd m] at q
  cases y:f p.1 with
  |none=>rw [y] at q;exact q.elim
  |some b=>rw [y] at q;exact⟨b,rfl,q⟩
 have el:∀k,lk l k=f k:=λk=>ord_eq q z w
 refine codeAny_mono (E l (Bk z▸nd) el A G s xs hA hd hu (S.recast e (o':= .dictL true l) rfl (λ_ _=> .rfl) ⟨kvs,d,z⟩) r) λr s' y=>y.casesOn λG' v z e' S' r' q'=>⟨G',v,z,e',?_,r',q'⟩
 obtain⟨kvs',d',z'⟩:=S'.obj τ _ ba
 have:=S'.recast ba (o':= .dictI true f) rfl (λ_ _=> .rfl) ⟨kvs',d',λk=>el k▸lk_at z' k,hf⟩
 rwa [up_up] at this
variable{ρ:List (Str×AV)}{ws:List AV}
noncomputable def Wh(F:Fm)(U:Tg->Prop)(test:Expr)(body:List Stmt)(fl:Fl)(c':Cx):Nat->Cx->Prop
 |0,_=>False
 |n+1,c=>(It F U c test false c'/\fl= .next)\/∃c1 c2,It F U c test true c1/\((Xs F U c1 body .next c2/\∃c3:Cx,c3.σ=c2.σ/\(∀y v,c3.ρ.lookup y=some v->c2.ρ.lookup y=some v)/\Wh F U test body fl c' n c3)\/(Xs F U c1 body fl c2/\c'=c2/\fl≠ .next))
inductive WI(F:Fm)(U:Tg->Prop)(test:Expr)(body:List Stmt)(G:Gh)(s:Shared)(fl:Fl)(c1:Cx)(k:Nat)(s':Shared):Prop
 |mk (G':Gh) (c':Cx) (g:Gr U G G') (S:ST F c' G' s'.heap) (L:Wh F U test body fl c1 k c') (q:SS s s')
inductive WhP(F:Fm)(U:Tg->Prop)(P:Nat->Shared->Prop)(body:List Stmt)(G:Gh)(s:Shared)(fl:Fl)(c1:Cx)(k:Nat):Bool->Shared->Prop
 |done {s':Shared} (h:RA F U c1 G s (λG=>FlR G fl) .next s'):WhP F U P body G s fl c1 k false s'
 |go {s':Shared} (h:wpAny (Mk F.W) F.A (execs body F.env) (BoP F U P G s fl c1 k) no s'):WhP F U P body G s fl c1 k true s'
theorem Gx{test:Expr}{body:List Stmt}{s1:Shared}{k:Nat}{P:Nat->Shared->Prop}(hP:∀k s,WI F U test body G s' fl c1 k s->P k s)(X:WI F U test body G s' fl c1 k s1):wpAny (Mk F.W) F.A (isTrue test F.env (eval test F.env)) (WhP F U P body G s' fl c1 k) no s1:=by
 obtain⟨G1,c',g1,S1,L1,q1⟩:=X
 cases k with
 |zero=>exact L1.elim
 |succ k=>
  refine L1.elim (λL=>wM (L.1 G1 s1 S1) (λb s2 y=>y.casesOn λG2 g2 S2 r q2=>(show b=false from r)▸ .done ⟨G2,g1.trans g2,S2,L.2▸rfl,q1.trans q2⟩) λ_ _ x=>x) λL=>L.elim λc2 L=>L.elim λc3 L=>wM (L.1 G1 s1 S1) (λb s2 y=>y.casesOn λG2 g2 S2 r q2=>(show b=true from r)▸ .go ?_) λ_ _ x=>x
  refine L.2.elim (λL=>wM (L.1 G2 s2 S2) (λf s3 y=>y.casesOn λG3 g3 S3 r3 q3=> ?_) λ_ _ x=>x) λL=>wM (L.1 G2 s2 S2) (λf s3 y=>y.casesOn λG3 g3 S3 r3 q3=> ?_) λ_ _ x=>x
  ·exact L.2.elim λc5 L2=>(show f= .next from r3)▸ .next (wq _) (hP k s3 ⟨G3,_,(g1.trans g2).trans g3,S3.cut L2.1 L2.2.1,L2.2.2,(q1.trans q2).trans q3⟩)
  ·cases fl with
   |next=>exact absurd rfl L.2.2
   |ret a=>exact r3.elim λw r=>r.1▸ .ret ⟨G3,(g1.trans g2).trans g3,L.2.1▸S3,⟨w,rfl,r.2⟩,(q1.trans q2).trans q3⟩
theorem x_while{test:Expr}{body:List Stmt}{n:Nat}(L:Wh F U test body fl c1 n c):X1 F U c (.While test body [] pos) fl c1:=λG s S=>
 wpAny_While (codeAny_whileLoop (WI F U test body G s fl c1) (λk s1 X=>wM (Gx (λ_ _ x=>x) X) (λb s2 z=>z.casesOn (λh=>wpAny_execs_nil h) λh=>wM h (λf s3 b=>b.casesOn (λhm h=>⟨_,hm,h⟩) λh=>h) λ_ _ x=>x.elim) λ_ _ x=>x.elim) n ⟨G,c,.refl,S,L,.refl⟩)
def Ts(F:Fm)(U:Tg->Prop)(c:Cx)(ifs:List Expr)(t:Bool)(c':Cx):Prop:=
 Do F U c (forIn ifs true λc r=>if r=true then do let ok<-isTrue c F.env (eval c F.env);pure (ForInStep.yield ok) else pure (ForInStep.yield r)) (λ_ b=>b=t) c'
theorem ts_nil:Ts F U c [] true c:=λG s S=>wpAny_tests_nil (.here S rfl .refl)
theorem ts_one(E:It F U c e t c1):Ts F U c [e] t c1:=λG s S=>wpAny_tests_one (E G s S)
noncomputable def Cp(F:Fm)(U:Tg->Prop)(x:Str)(elt:Expr)(ifs:List Expr)(ρ:List (Str×AV))(σ':Tg->Option AObj):List AV->(Tg->Option AObj)->List AV->Prop
 |[],σ,ws=>ws=[]/\σ'=σ
 |a::vs,σ,ws=>∃σ1:Tg->Option AObj,(Ts F U ⟨aq ρ x a,σ⟩ ifs false ⟨aq ρ x a,σ1⟩/\Cp F U x elt ifs ρ σ' vs σ1 ws)\/∃b σ2 us,Ts F U ⟨aq ρ x a,σ⟩ ifs true ⟨aq ρ x a,σ1⟩/\Ev F U ⟨aq ρ x a,σ1⟩ elt b ⟨aq ρ x a,σ2⟩/\b.keeps U/\ws=b::us/\Cp F U x elt ifs ρ σ' vs σ2 us
inductive CI(F:Fm)(U:Tg->Prop)(x:Str)(elt:Expr)(ifs:List Expr)(ρ:List (Str×AV))(I D:Nat)(vs:List AV)(St:Nat->Heap->Prop)(G:Gh)(s:Shared)(ws:List AV)(σ:Tg->Option AObj)(k:Nat)(s':Shared):Prop
 |mk (i:Nat) (rest:List AV) (G':Gh) (σ':Tg->Option AObj) (us us':List AV) (items:Array Value) (hr:vs.drop i=rest) (hk:k=rest.length+1) (hi:i+rest.length=vs.length) (hu:us.length<=i) (g:Gr U G G') (S:ST F ⟨ρ,σ'⟩ G' s'.heap) (st:St i s'.heap) (L:Cp F U x elt ifs ρ σ rest σ' us') (q:SS s s') (N:New F G' s'.heap I) (M:New F G' s'.heap D) (d:s'.heap.PlainList D items) (r:All2 (AVR G') us items.toList) (e:us++us'=ws) (w:∀v∈us,v.keeps U)
inductive CE(F:Fm)(U:Tg->Prop)(ρ:List (Str×AV))(D:Nat)(G:Gh)(s:Shared)(ws:List AV)(σ:Tg->Option AObj)(r:Result)(s':Shared):Prop
 |mk (G':Gh) (items:Array Value) (z:r= .ok .next) (g:Gr U G G') (S:ST F ⟨ρ,σ⟩ G' s'.heap) (q:SS s s') (M:New F G' s'.heap D) (d:s'.heap.PlainList D items) (r:All2 (AVR G') ws items.toList)
theorem New.unh{I D:Nat}(N:New F G h I):New F (G.unh D) h' I:=⟨λz=>N.has (z.imp id λz=>z.imp (λz=>z.imp λo z=>z.imp id λz=>((bg z).resolve_left λz=>Option.some_ne_none _ z.2.symm).2) id),N.fa,N.fc⟩
theorem New.hold{I D:Nat}{ob:Obj}(N:New F G h I)(n:I≠D):New F (G.hold D ob) h' I:=⟨λz=>N.has (z.imp id λz=>z.imp (λz=>z.imp λo z=>z.imp id λz=>((bg z).resolve_left λz=>n z.1).2) id),N.fa,N.fc⟩
structure Two(F:Fm)(U:Tg->Prop)(c:Cx)(G G2:Gh)(h2:Heap)(I D:Nat)(oi od:Obj):Prop where
 S:ST F c ((G2.unh I).unh D) h2
 g:Gr U G ((G2.unh I).unh D)
 N:New F ((G2.unh I).unh D) h2 I
 M:New F ((G2.unh I).unh D) h2 D
 i:h2.get? I=some oi
 d:h2.get? D=some od
 v:∀a v,AVR G2 a v->AVR ((G2.unh I).unh D) a v
theorem ST.two{I D:Nat}{oi od:Obj}(N:New F G h I)(M:New F G h D)(n:I≠D)(g:Gr U ((G.hold D od).hold I oi) G2)(S:ST F c G2 h2):Two F U c G G2 h2 I D oi od:=
 have A:=ST.unh (N.hold n (h':=h)) g S
 have B:=ST.unh M A.g A.S
 ⟨B.S,B.g,A.n.unh,B.n,A.at_,B.at_,λa v r=>B.v a v (A.v a v r)⟩
inductive Nx(P:Nat->Shared->Prop)(k:Nat)(s:Shared):Prop
 |mk (m:Nat) (hm:m<k) (h:P m s)
inductive CoT(F:Fm)(P:Nat->Shared->Prop)(elt:Expr)(D:Nat)(k:Nat):Bool->Shared->Prop
 |no {s':Shared} (h:Nx P k s'):CoT F P elt D k false s'
 |yes {s':Shared} (h:wpAny (Mk F.W) F.A (eval elt F.env) (λx s4=>wpAny (Mk F.W) F.A (call (.builtin "list.append") [.ref D,x]) (λ_=>Nx P k) no s4) no s'):CoT F P elt D k true s'
inductive CoP(F:Fm)(P:Nat->Shared->Prop)(Q:Shared->Prop)(y:Str)(p:Pos)(ifs:List Expr)(elt:Expr)(D:Nat)(k:Nat):Option Value->Shared->Prop
 |done {s':Shared} (h:Q s'):CoP F P Q y p ifs elt D k none s'
 |item {v:Value} {s':Shared} (h:wpAny (Mk F.W) F.A (assign (.Name y p) F.env v) (λ_ s2=>wpAny (Mk F.W) F.A (forIn ifs true λc r=>if r=true then do let ok<-isTrue c F.env (eval c F.env);pure (ForInStep.yield ok) else pure (ForInStep.yield r)) (CoT F P elt D k) no s2) no s'):CoP F P Q y p ifs elt D k (some v) s'
theorem Ln{elt:Expr}{ifs:List Expr}{y:Str}{p:Pos}{I D:Nat}{pr:List (Nat×Obj)}{St:Nat->Heap->Prop}{s1:Shared}{k:Nat}{P:Nat->Shared->Prop}{Q:Shared->Prop}(hP:∀k s,CI F U y elt ifs ρ I D vs St G s' ws σ' k s->P k s)(hQ:∀s,CE F U ρ D G s' ws σ' (.ok .next) s->Q s)(it:Itn F.W G I vs pr St)(hv:∀v∈vs,v.keeps U)(hl:cj (F.env.kindOf y)=true)(hf:F.env.func.isSome=true\/F.env.kindOf y=some .local)(hy:ρ.lookup y=none)
  (hz:vs.length<=1000000) (hp:∀p∈pr,G.P p.1=some p.2\/∃τ,G.Z p.1=some (τ,p.2)) (n:I≠D) (X:CI F U y elt ifs ρ I D vs St G s' ws σ' k s1):wpAny (Mk F.W) F.A (pyNext (.ref I)) (CoP F P Q y p ifs elt D k) no s1:=by
 obtain⟨i,rest,G1,σ1,us,us',items,hr,hk,hi,hu,g1,S1,t1,L1,q1,N1,M1,d1,r1,e1,w1⟩:=X
 have hp1:∀p∈pr,s1.heap.get? p.1=some p.2:=λp m=>(hp p m).elim (λz=>S1.sr.prot _ _ (.inl (g1.p _ _ z))) λz=>z.elim λτ z=>S1.sr.zrot _ _ _ (g1.z _ _ z).1
 have cut:∀{a:AV} (z:Str) (v:AV),ρ.lookup z=some v->(aq ρ y a).lookup z=some v:=λz v e=>(ew λq=>aj (q▸e) hy).trans e
 cases rest with
 |nil=>
  refine it.done F.A s1 _ S1.fr.st.hnd hp1 ((show i=vs.length from hi)▸t1) λh2 tk hs=> .done (hQ _ ⟨G1,items,rfl,g1,L1.2▸S1.ext N1 hs,q1.trans (SS.heap h2 tk),M1.move,d1.imp λk e=>hs _ _ n.symm e,?_⟩)
  rw [L1.1,jk] at e1
  exact e1▸r1
 |cons x xs=>
  obtain⟨hx,hd⟩:=A6 hr
  refine it.item i x F.A s1 _ hx S1.fr.st.hnd hp1 t1 λv h2 tk rv t2 hs=> .item (s':={s1 with heap:=h2,toks:=tk}) ?_
  obtain⟨oi,_,_,hI,_⟩:=it.live _ _ t2
  obtain⟨kd,hD⟩:=d1
  have Sh:=((S1.same N1 hs).hold M1.move ((hs.2 D n.symm).trans hD)).hold (N1.hold n (h':=h2)) hI
  have gh:Gr U G1 ((G1.hold D (listOf items kd)).hold I oi):=(Gr.hold M1.has).trans (.hold (N1.hold n (h':=h2)).has)
  have hn:i+1+xs.length=vs.length:=(wg i xs.length).trans hi
  refine wM (Aq (pos:=p) hl hf _ {s1 with heap:=h2,toks:=tk} v Sh (rv.mono (g1.trans gh) (hv x (xp hx)))) (λ_ s3 z=>z.casesOn λG3 g3 S3 _ q3=> ?_) λ_ _ x=>x
  have sk:∀{s'':Shared},SS s3 s''->SS s' s'':=λa=>q1.trans ((SS.heap h2 tk).trans (q3.trans a))
  have un:∀{c:Cx} {G4:Gh} {s4:Shared},Gr U G3 G4->ST F c G4 s4.heap->Two F U c G1 G4 s4.heap I D oi (listOf items kd):=λg4 S4=>ST.two (h:=s1.heap) N1 M1 n ((g3.weak λ_ _=>trivial).trans g4) S4
  have go:∀{σ4:Tg->Option AObj} {G4:Gh} {s4:Shared} {vs' us'':List AV} {its:Array Value},Gr U G1 G4->ST F ⟨ρ,σ4⟩ G4 s4.heap->s4.heap.get? I=some oi->SS s3 s4->New F G4 s4.heap I->New F G4 s4.heap D->s4.heap.PlainList D its->All2 (AVR G4) us'' its.toList->us''++vs'=ws->(∀v∈us'',v.keeps U)->us''.length<=i+1->Cp F U y elt ifs ρ σ' xs σ4 vs'->Nx P k s4:=λg4 S4 hi4 q4 N4 M4 d4 r4 e4 w4 u4 L4=>
   ⟨xs.length+1,hk▸wq _,hP _ _ ⟨i+1,xs,_,_,_,_,_,hd,rfl,hn,u4,g1.trans g4,S4,it.frame _ _ _ t2 (hi4.trans hI.symm),L4,sk q4,N4,M4,d4,r4,e4,w4⟩⟩
  refine L1.elim λσ2 L1=>L1.elim (λL=>wM (L.1 _ s3 S3) (λb s4 z=>z.casesOn λG4 g4 S4 r4 q4=> ?_) λ_ _ x=>x) λL=>L.elim λb L=>L.elim λσ3 L=>L.elim λus3 L=>wM (L.1 _ s3 S3) (λt s4 z=>z.casesOn λG4 g4 S4 r4 q4=>(show t=true from r4)▸ .yes ?_) λ_ _ x=>x
  ·have Q:=un g4 S4
   exact(show b=false from r4)▸ .no (go Q.g (Q.S.cut (c':=⟨ρ,σ2⟩) rfl λz v=>cut z v) Q.i q4 Q.N Q.M ⟨kd,Q.d⟩ (r1.mono λv m _ r=>r.mono Q.g (w1 v m)) e1 w1 (qm hu) L.2)
  ·refine wM (L.2.1 _ s4 S4) (λu s5 z=>z.casesOn λG5 g5 S5 r5 q5=> ?_) λ_ _ x=>x
   have Q:=un (g4.trans g5) S5
   have hsz:items.size<=sizeLine:=b6 (ja (ju (xs:=items)▸r1.length▸hu) (ja (ja (ji i _) (jd hi)) (ja hz (by decide))))
   refine wpAny_list_append_plain (hsz:=hsz) ⟨kd,Q.d⟩ λh7 d7 hs7=>go (us'':=us++[b]) Q.g ((Q.S.cut (c':=⟨ρ,σ3⟩) rfl λz v=>cut z v).same Q.M hs7) ((hs7.2 I n).trans Q.i) (q4.trans (q5.trans (SS.heap h7 s5.toks))) Q.N.move Q.M.move d7 ?_ ?_ ?_ ?_ L.2.2.2.2
   ·rw [ye];exact(r1.mono λv m _ r=>r.mono Q.g (w1 v m)).append (.cons (Q.v _ _ r5) .nil)
   ·rw [jy];exact(cGx (us++·) L.2.2.2.1).symm.trans e1
   ·exactλv m=>(ke.mp m).elim (w1 v) λm=>jg.mp m▸L.2.2.1
   ·rw [je];exact jm hu
theorem Lm{elt iter:Expr}{ifs:List Expr}{scope:Scope}{y:Str}{p:Pos}{I D:Nat}{pr:List (Nat×Obj)}{St:Nat->Heap->Prop}(it:Itn F.W G I vs pr St)(L:Cp F U y elt ifs ρ σ' vs σ ws)(hv:∀v∈vs,v.keeps U)(hl:cj (F.env.kindOf y)=true)(hf:F.env.func.isSome=true\/F.env.kindOf y=some .local)(hy:ρ.lookup y=none)
  (hz:vs.length<=1000000) (S0:ST F ⟨ρ,σ⟩ G s.heap) (N:New F G s.heap I) (M:New F G s.heap D) (st:St 0 s.heap) (hp:∀p∈pr,G.P p.1=some p.2\/∃τ,G.Z p.1=some (τ,p.2)) (n:I≠D) (d0:s.heap.PlainList D #[]):
  codeAny (Mk F.W) F.A (.compLoop (.ListComp elt [⟨.Name y p,iter,ifs,0⟩] scope pos) 0 (.ref I) (.ref D) F.env) (CE F U ρ D G s ws σ') s:=
 codeAny_compLoop_tests (CI F U y elt ifs ρ I D vs St G s ws σ') (λk s1 X=>wM (Ln (Q:=CE F U ρ D G s ws σ' (.ok .next)) (λ_ _ x=>x) (λ_ x=>x) it hv hl hf hy hz hp n X) (λr s2 z=>z.casesOn (λh=>h) λh=>wM h (λ_ s3 h=>wM h (λt s4 c=>c.casesOn (λh=>(if_neg jx).mpr (h.casesOn λm hm h=>⟨m,hm,h⟩)) λh=>(if_pos rfl).mpr (wM h (λx s5 h=>wM h (λ_ s6 h=>h.casesOn λm hm h=>⟨m,hm,h⟩) λ_ _ x=>x.elim) λ_ _ x=>x.elim)) λ_ _ x=>x.elim) λ_ _ x=>x.elim) λ_ _ x=>x.elim) (vs.length+1) ⟨0,vs,G,σ,[],ws,#[],rfl,rfl,qn _,jc _,.refl,S0,st,L,.refl,N,M,d0,.nil,rfl,λ_ m=>(by nomatch m)⟩
noncomputable def r6(env:Env)(cs:List (Str×Addr))(x:Str×NameKind):List (Str×Addr):=if(x.2== .free)=true then(match env.cells.lookup x.1 with|some c=>(x.1,c)::cs|none=>cs) else cs
noncomputable def Ar(scope:Scope)(env:Env):List (Str×Addr):=scope.names.foldl (r6 env) []
theorem clOf_go{env:Env}{names:List (Str×NameKind)}{cs:List (Str×Addr)}(h:∀x∈names,x.2= .free->∃c,env.cells.lookup x.1=some c):
  (forIn names cs λx r=>do
   if x.2== .free then
    let c<-cellOf env x.1
    pure (ForInStep.yield ((x.1,c)::r))
   else pure (ForInStep.yield r):Sem (List (Str×Addr)))=pure (names.foldl (r6 env) cs):=by
 induction names generalizing cs with
 |nil=>rfl
 |cons x names ih=>
  rw [List.forIn_cons,List.foldl_cons]
  unfold r6
  by_cases q:(x.2==NameKind.free)=true
  ·obtain⟨c,hc⟩:=h x (.head _) (eq_of_beq q)
   rw [if_pos q,if_pos q,hc]
   unfold cellOf
   rw [hc,pure_bind,pure_bind]
   exact ih λy hy=>h y (.tail _ hy)
  ·rw [if_neg q,if_neg q,pure_bind]
   exact ih λy hy=>h y (.tail _ hy)
theorem Au{scope:Scope}{env:Env}(h:∀x∈scope.names,x.2= .free->∃c,env.cells.lookup x.1=some c):closureFor scope env=pure (Ar scope env):=by
 unfold closureFor Ar
 rw [<-clOf_go h,bind_pure]
theorem Mh{x y:Str}{c:Addr}{l:List (Str×Addr)}:((y,c)::l).lookup x=if x=y then some c else l.lookup x:=by
 rw [kf]
 by_cases q:x=y
 ·rw [q,beq_self_eq_true,if_pos rfl]
 ·rw [if_neg q,show(x==y)=false from beq_eq_false_iff_ne.mpr q]
theorem clOf_look{env:Env}{x:Str}{names:List (Str×NameKind)}{cs:List (Str×Addr)}:(names.foldl (r6 env) cs).lookup x=if(x,NameKind.free)∈names/\(env.cells.lookup x).isSome=true then env.cells.lookup x else cs.lookup x:=by
 induction names generalizing cs with
 |nil=>exact(if_neg λq=>(by nomatch q.1)).symm
 |cons y names ih=>
  rw [List.foldl_cons,ih]
  by_cases p:(x,NameKind.free)∈names/\(env.cells.lookup x).isSome=true
  ·rw [if_pos p,if_pos ⟨.tail _ p.1,p.2⟩]
  ·rw [if_neg p]
   have st:(r6 env cs y).lookup x=if y=(x,NameKind.free)/\(env.cells.lookup x).isSome=true then env.cells.lookup x else cs.lookup x:=by
    unfold r6
    by_cases q:(y.2==NameKind.free)=true
    ·rw [if_pos q]
     cases e:env.cells.lookup y.1 with
     |none=>exact(if_neg λz=>by rw [z.1] at e;rw [e] at z;cases z.2).symm
     |some c=>
      show((y.1,c)::cs).lookup x=_
      rw [Mh]
      by_cases n:x=y.1
      ·have:y=(x,NameKind.free):=Prod.ext n.symm (eq_of_beq q)
       rw [if_pos n,n,e,if_pos ⟨Prod.ext rfl (eq_of_beq q),rfl⟩]
      ·rw [if_neg n,if_neg λz=>n (cGx Prod.fst z.1).symm]
    ·rw [if_neg q,if_neg λz=>q (by rw [z.1];rfl)]
   rw [st]
   by_cases m:y=(x,NameKind.free)/\(env.cells.lookup x).isSome=true
   ·rw [if_pos m,if_pos ⟨m.1▸ .head _,m.2⟩]
   ·rw [if_neg m,if_neg λz=>(jh.mp z.1).elim (λw=>m ⟨w.symm,z.2⟩) λw=>p ⟨w,z.2⟩]
theorem cq{scope:Scope}{env:Env}{x:Str}{c:Addr}(h:(Ar scope env).lookup x=some c):env.cells.lookup x=some c:=
 (bg (clOf_look.symm.trans h)).elim (·.2) λz=>(by nomatch z.2)
theorem Hg{scope:Scope}{env:Env}{x:Str}{c:Addr}(h:env.cells.lookup x=some c)(q:(x,NameKind.free)∈scope.names):(Ar scope env).lookup x=some c:=clOf_look.trans ((if_pos ⟨q,by rw [h];rfl⟩).trans h)
noncomputable def cfm(F:Fm)(scope:Scope)(L:Nat):Fm:=⟨F.W,F.A,compEnvC scope (Ar scope F.env) L F.env,[L],F.n⟩
structure ScOK(F:Fm)(scope:Scope):Prop where
 cell:∀y∈scope.names,y.2≠ .cell
 kind:scope.kind= .function
 names:∀y∈scope.names,y.2= .local->scope.names.lookup y.1=some .local
 free:∀y∈scope.names,y.2= .free->F.env.kindOf y.1=some .cell
theorem pd{scope:Scope}{env:Env}{x:Str}{k:NameKind}(hk:k= .cell\/k= .free)(hcell:∀y∈scope.names,y.2≠ .cell)(h:(relabel scope env).names.lookup x=some k):(x,NameKind.free)∈scope.names:=by
 unfold relabel at h
 have:∀names:List (Str×NameKind),(∀y∈names,y.2≠ .cell)->(names.map λ(n,k)=>if(k==NameKind.free&&env.scope.kind== .function&&env.kindOf n==some .cell) then(n,NameKind.cell) else(n,k)).lookup x=some k->(x,NameKind.free)∈names:=λnames hc h=>by
  induction names with
  |nil=>cases h
  |cons y names ih=>
   obtain⟨n,kn⟩:=y
   rw [jz,kf] at h
   split at h
   ·rename_i e
    split at e
    ·rename_i q
     rw [eq_of_beq e,<-show kn= .free from eq_of_beq (Bool.and_eq_true_iff.mp (Bool.and_eq_true_iff.mp q).1).1]
     exact .head _
    ·rename_i q
     rw [if_neg q] at h
     cases h
     rw [eq_of_beq e]
     exact hk.elim (λe=>absurd e (hc (n,_) (.head _))) λe=>e▸ .head _
   ·exact .tail _ (ih (λz m=>hc z (.tail _ m)) h)
 exact this _ hcell h
variable{ρ':List (Str×AV)}{C:Nat}
noncomputable def pf:Tg->Bool:=λ_=>false
theorem hide_pf:uh pf σ=σ:=funext λτ=>if_neg jx
theorem merge_pf:merge pf σ σ'=σ':=funext λτ=>if_neg jx
theorem wf_pf:Wf pf σ:=⟨(λ_ _ q=>(by nomatch q)),λτ o _=>AObj.keeps_mono (λ_ _=>rfl) o.keepsT⟩
theorem ST.cell_lt(S:ST F c G h){y:Str}{d:Nat}(q:F.env.cells.lookup y=some d): @LT.lt Nat _ d h.objs.size:=(S.fr.alive.2 y d q).elim λ_ e=>Heap.lt_size e
theorem ST.inner{scope:Scope}{L:Nat}{m:Str->Option Value}(S:ST F c G h)(sc:ScOK F scope)(hs:∀y v,ρ'.lookup y=some v->c.ρ.lookup y=some v)(hL0:h.objs.size<=L)(hk:∀b o,h.get? b=some o->h'.get? b=some o)(hn:h'.Ns L m)(hloc:∀x v,ρ'.lookup x=some v->(cfm F scope L).env.kindOf x≠some .local):
  ST (cfm F scope L) ⟨ρ',c.σ⟩ (G.enter pf h F.fa) h':=by
 have R:SR F.W c.σ (G.enter pf h F.fa) h:=by have:=S.enter (p:=pf);rwa [hide_pf] at this
 have lt:∀{x:Str} {c:Nat},(Ar scope F.env).lookup x=some c-> @LT.lt Nat _ c L:=λq=>kg (S.cell_lt (cq q)) hL0
 have ck:∀{x:Str} {k:NameKind},k= .cell\/k= .free->(cfm F scope L).env.kindOf x=some k->(x,NameKind.free)∈scope.names/\F.env.kindOf x=some .cell:=λhk q=>⟨pd hk sc.cell q,sc.free _ (pd hk sc.cell q) rfl⟩
 refine⟨R.keeps hk,⟨sc.kind,S.fr.st.glob,S.fr.st.blt,S.fr.st.hnd,S.fr.st.depth,S.fr.st.units,λx y c h1 h2=>S.fr.st.inj x y c (cq h1) (cq h2),λx c q=>qw (lt q),.head _,λa ha=> .inl (jg.mp ha),(λq=>(by nomatch q)),λx q=> ?_⟩,⟨m,hn,λx v q k=>absurd k (hloc x v q)⟩,λx v q k=> ?_,λx c q=> ?_,λa ha=> ?_,λx c q=> ?_⟩
 ·obtain⟨hf,kc⟩:=ck (.inl rfl) q
  exact(S.fr.st.ccell x kc).imp λc hc=>Hg hc hf
 ·obtain⟨hf,kc⟩:=k.elim (ck (.inl rfl)) (ck (.inr rfl))
  exact(S.fr.cell x v (hs _ _ q) (.inl kc)).imp λc z=>z.imp λy z=>⟨Hg z.1 hf,z.2.1.imp λo z=>⟨hk _ _ z.1,z.2⟩,z.2.2.mono S.gr_enter v.keepsT⟩
 ·exact(S.fr.live x c (cq q)).imp λv z=>z.imp λo z=>⟨hk _ _ z.1,z.2⟩
 ·rw [jg.mp ha];exact R.fresh hL0
 ·obtain⟨o1,o2⟩:=S.fr.cown x c (cq q)
  refine⟨?_,.inr (o2.elim (λm=>(S.mine_live (p:=pf) (.inl m)).elim λo z=>by rw [z.2];rfl) λz=> ?_)⟩
  ·show(if(G.own c).any pf=true then none else G.own c)=none
   rw [o1];exact ite_self _
  ·exact(wn.mp z).elim λo z=>by rw [(S.gr_enter (p:=pf)).k c o z|>.1];rfl
inductive CEnd(F:Fm)(U:Tg->Prop)(c:Cx)(G:Gh)(s:Shared)(ws:List AV)(acc:Value)(C:Nat)(s':Shared):Prop
 |mk (G':Gh) (g:Gr U G G') (S:ST F c G' s'.heap) (q:SS s s') (D:Nat) (items:Array Value) (n:Nat) (v:acc= .ref D) (d:s'.heap.get? D=some (listOf items n)) (M:New F G' s'.heap D) (N:New F G' s'.heap C) (st:cStatics<D) (ne:D≠C) (r:All2 (AVR G') ws items.toList) (m:Str->Option Value) (hn:s'.heap.Ns C m)
theorem New.of{x:Nat}(S:ST F c G h)(hx:h.objs.size<=x)(n:¬G'.has x):New F G' h' x:=⟨n,(S.new hx).fa,(S.new hx).fc⟩
theorem Lo{elt iter:Expr}{ifs:List Expr}{scope:Scope}{p:Pos}{I:Nat}{pr:List (Nat×Obj)}{St:Nat->Heap->Prop}(it:Itn F.W G I vs pr St)(S:ST F c G s.heap)(st:St 0 s.heap)(N:New F G s.heap I)(hp:∀p∈pr,G.P p.1=some p.2\/∃τ,G.Z p.1=some (τ,p.2))
  (sc:ScOK F scope) (hs:∀z v,ρ'.lookup z=some v->c.ρ.lookup z=some v/\z≠y/\(relabel scope F.env).names.lookup z≠some .local) (hy:scope.names.lookup y=some .local) (hlen:vs.length<=1000000) (L:∀L,Cp (cfm F scope L) U y elt ifs ρ' σ' vs c.σ ws) (hv:∀v∈vs,v.keeps U) (hρ:∀x v,c.ρ.lookup x=some v->v.keeps U)
  {RR:Value->Addr->Result->Shared->Prop} (hRR:∀acc C s',CEnd F U ⟨c.ρ,σ'⟩ G s ws acc C s'->RR acc C (.ok .next) s'):
  wpAny (Mk F.W) F.A (newList []) (λacc s₃=>wpAny (Mk F.W) F.A (newFunctionEnv scope F.env.globals (Ar scope F.env) [] F.env.qual none .none (some F.env)) (λcenv s₄=>
   codeAny (Mk F.W) F.A (.compStart (.ListComp elt [⟨.Name y p,iter,ifs,0⟩] scope pos) 0 (.ref I) acc {cenv with scope:=relabel scope F.env}) (RR acc cenv.locals) s₄) no s₃) no s:=by
 refine wpAny_newObj_type (wpAny_newFunctionEnv sc.cell (λy hy=>(by nomatch hy)) (λh4 hns hsb=> ?_) sc.kind)
 dsimp only at hns hsb⊢
 generalize hH2:s.heap.push {cls:= .type "list",dict:=none,data:= .seq ([]:List Value).toArray}=H2 at hns hsb⊢
 have hC:H2.objs.size=s.heap.objs.size+1:=by rw [<-hH2,Heap.size_push]
 have hle:s.heap.objs.size<=H2.objs.size:=hC▸ko _
 have hDC:s.heap.objs.size≠H2.objs.size:=by rw [hC];exact qw (wq _)
 have old:∀b o,s.heap.get? b=some o->h4.get? b=some o:=λb o e=>
  hsb.extBut b o (λz=>qr.mpr hle (z▸Heap.lt_size e)) (Heap.get?_push_of_some _ (hH2▸Heap.get?_push_of_some _ e))
 have hacc:h4.PlainList s.heap.objs.size #[]:=⟨_,hsb.extBut _ _ hDC (Heap.get?_push_of_some _ (hH2▸Heap.get?_push_size _ rfl))⟩
 have keep:∀{b},(∃o,s.heap.get? b=some o)->h4.get? b=s.heap.get? b:=λe=>gw old e
 obtain⟨oi,_,_,hI,_⟩:=it.live _ _ st
 have ltI: @LT.lt Nat _ I s.heap.objs.size:=Heap.lt_size hI
 have Si:=S.inner (L:=H2.objs.size) (ρ':=ρ') sc (λz v e=>(hs z v e).1) hle old hns λx v e=>(hs x v e).2.2
 have ge:Gr U G (G.enter pf s.heap F.fa):=S.gr_enter.weak λ_ _=>trivial
 have nh:∀{b:Nat},b∉F.fa->¬G.has b->¬(G.enter pf s.heap F.fa).has b:=λhf q=>by
  have q:=G.not_has q
  refine Gh.has_not ⟨?_,q.2.1,(if_neg λz=>z.elim hf λz=> ?_).trans q.2.2.1,q.2.2.2⟩
  ·show(if _ then none else G.own _)=none
   rw [q.1];exact ite_self _
  ·rw [q.1] at z;cases z
 have nf:∀{b:Nat},New F G s.heap b->b≠H2.objs.size->New (cfm F scope H2.objs.size) (G.enter pf s.heap F.fa) h4 b:=λN n=>⟨nh N.fa N.has,λz=>n (jg.mp z),λy d e=>N.fc y d (cq e)⟩
 have it':Itn (cfm F scope H2.objs.size).W (G.enter pf s.heap F.fa) I vs pr St:=⟨it.live,it.frame,it.self,λi x A s Q a b c d k=>it.item i x A s Q a b c d λv h' tk r=>k v h' tk (r.mono S.gr_enter x.keepsT),it.done⟩
 have st':St 0 h4:=it.frame _ _ _ st (keep ⟨_,hI⟩)
 have M:=S.new (jc s.heap.objs.size)
 have core:=Lm (F:=cfm F scope H2.objs.size) (p:=p) (iter:=iter) (scope:=scope) (pos:=pos) (s:={s with heap:=h4,toks:=s.toks+([]:List (Str×Value)).length}) it' (L _) hv (by rw [show(cfm F scope H2.objs.size).env.kindOf y=some .local from lookup_relabel_local hy];rfl) (.inr (lookup_relabel_local hy)) (qp.mpr λv e=>(hs y v e).2.1 rfl) hlen Si
  (nf N (qw (kg ltI hle))) (nf M hDC) st' (λq m=>(hp q m).imp (ge.p _ _) λz=>z.imp λτ z=>(ge.z _ _ z).1) (qw ltI) hacc
 have start:codeAny (Mk F.W) F.A (.compLoop (.ListComp elt [⟨.Name y p,iter,ifs,0⟩] scope pos) 0 (.ref I) (.ref s.heap.objs.size) (cfm F scope H2.objs.size).env) (RR (.ref s.heap.objs.size) H2.objs.size) {s with heap:=h4,toks:=s.toks+([]:List (Str×Value)).length}:=codeAny_mono core λr s' z=>by
  obtain⟨G',items,rfl,g,S',q,M',⟨n,d⟩,r'⟩:=z
  obtain⟨g1,S1,k⟩:=S.back (p:=pf) g S'.sr wf_pf wf_pf (λ_ _ _=>rfl) λz v e=>AV.keeps_mono (λ_=> .inl) (hρ z v e)
  rw [merge_pf] at S1
  have bh:∀{b:Nat},s.heap.objs.size<=b->¬G'.has b->¬(G.back pf G').has b:=λhb q=>by
   have q:=G'.not_has q
   have w:=G.not_has (S.sr.fresh hb)
   refine Gh.has_not ⟨?_,q.2.1,w.2.2.1,q.2.2.2⟩
   show(if _ then G.own _ else G'.own _)=none
   rw [q.1,w.1];exact ite_self _
  obtain⟨m,hn,_⟩:=S'.fr.ns
  exact hRR _ _ _ ⟨_,g1.weak λ_=> .inl,S1,(SS.heap h4 _).trans q,_,items,n,rfl,d,.of S (jc _) (bh (jc _) M'.has),.of S hle (bh hle (S'.fr.fa0 _ (.head _))),S.sr.statics,hDC,r'.mono λa _ v r=>k a (AV.keeps_mono (λ_ _=>rfl) a.keepsT) v r,m,hn⟩
 exact codeAny_compStart_list start (it.self 0 _ _ _ _ st' start)
theorem ScOK.clos{scope:Scope}(S:ST F c G h)(sc:ScOK F scope):closureFor scope F.env=pure (Ar scope F.env):=
 Au λx hx hf=>S.fr.st.ccell x.1 (sc.free x hx hf)
structure Comp(F:Fm)(U:Tg->Prop)(c:Cx)(elt:Expr)(y:Str)(iter:Expr)(ifs:List Expr)(scope:Scope)(ws:List AV)(c1:Cx)(σ':Tg->Option AObj):Prop where
 ex:∃vs ρ',EvIt F U c iter vs c1/\(∀z v,ρ'.lookup z=some v->c1.ρ.lookup z=some v/\z≠y/\(relabel scope F.env).names.lookup z≠some .local)/\vs.length<=1000000/\(∀L,Cp (cfm F scope L) U y elt ifs ρ' σ' vs c1.σ ws)/\(∀v∈vs,v.keeps U)/\∀x v,c1.ρ.lookup x=some v->v.keeps U
 sc:ScOK F scope
 hy:scope.names.lookup y=some .local
 hs:∀x,foldedSetIterable iter F.env x=pure x
theorem Comp.go{elt iter:Expr}{ifs:List Expr}{scope:Scope}{p pos2:Pos}{use:Option (Value->Sem Unit)}{Q:Value->Shared->Prop}(E:Comp F U c elt y iter ifs scope ws c1 σ')(S:ST F c G s.heap){first:Sem Value}(hf:first=eval iter F.env)
  (k:∀acc C s',CEnd F U ⟨c1.ρ,σ'⟩ G s ws acc C s'->compPost (Mk F.W) F.A no use Q acc C (.ok .next) s'):wpAny (Mk F.W) F.A (comprehension (.ListComp elt [⟨.Name y p,iter,ifs,0⟩] scope pos) scope F.env pos2 (newList []) false first use) Q no s:=by
 obtain⟨vs,ρ',E1,hs,hl,L,hv,hρ⟩:=E.ex
 refine wpAny_comprehension_free rfl E.hs (E.sc.clos S) E.sc.kind E.sc.names ?_
 rw [hf]
 refine wM (E1 G s S) (λv s1 z=>wM z (λit s2 z=>z.casesOn λG1 s1 g1 q1 z=>z.casesOn λG2 g2 S2 q2 I pr St e N itn st hp=> ?_) λ_ _ x=>x) λ_ _ x=>x
 rw [e]
 exact Lo (RR:=compPost (Mk F.W) F.A no use Q) itn S2 st N hp E.sc hs E.hy hl L hv hρ λacc C s' z=>k acc C s' (z.casesOn λG' g S q D items n v d M N st ne r m hn=>⟨G',(g1.trans (g2.weak λ_ _=>trivial)).trans g,S,(q1.trans q2).trans q,D,items,n,v,d,M,N,st,ne,r,m,hn⟩)
theorem f_comp{elt iter:Expr}{ifs:List Expr}{scope:Scope}{y:Str}{p:Pos}(E:Comp F U c elt y iter ifs scope ws c1 σ'):EvF F U c (.ListComp elt [⟨.Name y p,iter,ifs,0⟩] scope pos) ws ⟨c1.ρ,σ'⟩:=λG s S=>by
 rw [eval_ListComp]
 exact E.go (use:=none) (Q:=RFl F U ⟨c1.ρ,σ'⟩ G s ws) S rfl λacc C s' z=>z.casesOn λG' g S q D items n v d M N st ne r m hn=>
  ⟨m,hn,λh'' hs=>⟨G',g,S.same N hs,q.trans (SS.heap h'' s'.toks),D,items,n,v,(hs.2 D ne).trans d,M.has,M.fa,M.fc,st,r⟩⟩
theorem Ew{x:Str}{p:Pos}{elt iter:Expr}{ifs:List Expr}{scope:Scope}{y:Str}{py spos:Pos}(E:Comp F U c elt y iter ifs scope (ds.map .dat) c1 σ')(hk:cj (F.env.kindOf x)=true)(hf:F.env.func.isSome=true\/F.env.kindOf x=some .local)
  (hsw:swapsWith (.ListComp elt [⟨.Name y py,iter,ifs,0⟩] scope spos) (some (.Name x p)) pos.line F.env=pure true):X1 F U c (.Assign [.Name x p] (.ListComp elt [⟨.Name y py,iter,ifs,0⟩] scope spos) pos) .next ⟨aq c1.ρ x (.dat (.list ds)),σ'⟩:=λG s S=>by
 rw [exec_Assign_Name_used _ _ _ _ hsw]
 refine wB (wpAny_standAt (wB ?_))
 rw [arm_evalThenUse_ListComp]
 refine wB (E.go (use:=some (assign (.Name x p) F.env)) S rfl λacc C s' z=>z.casesOn λG' g S q D items n v d M N st ne r m hn=> ?_)
 have S2:=S.protect M.has M.fa d
 have N2:New F (G'.prot D (listOf items n)) s'.heap C:=⟨λz=>N.has (z.imp id λz=>z.imp (λz=>z.imp λo z=>z.imp (λz=>((bg z).resolve_left λw=>ne w.1.symm).2) id) id),N.fa,N.fc⟩
 have gp:Gr U G' (G'.prot D (listOf items n)):= .prot M.has
 have hn':=hn
 obtain⟨o,_,_,ho,_⟩:=hn'
 have r2:AVR ((G'.prot D (listOf items n)).hold C o) (.dat (.list ds)) acc:=⟨D,items,n,v,if_pos rfl,r.dats.mono gp.p⟩
 refine PyProof.Rows.assign_Name (dt hk hf (S2.hold N2 ho) r2 λs5 S5 q5=> ?_)
 have Q:=ST.unh (U:=U) N2 .refl S5
 exact⟨m,tf hn (Q.at_.trans ho.symm),λh'' hs=>wP (wP ⟨_,(g.trans gp).trans Q.g,Q.S.same Q.n hs,rfl,(q.trans q5).trans (SS.heap h'' s5.toks)⟩)⟩
variable{j:Int}
theorem All2.of_index{β γ:Type}{R:β->γ->Prop}{xs:List β}{ys:List γ}(hl:ys.length=xs.length)(h:∀(j:Nat) y,ys[j]? =some y->∃x,xs[j]? =some x/\R x y):All2 R xs ys:=by
 induction xs generalizing ys with
 |nil=>cases ys with
  |nil=>exact .nil
  |cons y ys=>cases hl
 |cons x xs ih=>cases ys with
  |nil=>cases hl
  |cons y ys=>
   obtain⟨x',e,r⟩:=h 0 y rfl
   exact .cons (sJx e▸r) (ih (Nat.succ.inj hl) λj v hv=>h (j+1) v hv)
noncomputable def zs(ns:List Int):List PyData:=ns.map .int
theorem Bd{P:Nat->Option Obj}{vs:List Value}{ns:List Int}(r:DRs P (zs ns) vs):IntsAre vs ns:=by
 induction ns generalizing vs with
 |nil=>rw [show vs=[] from r];exact .nil
 |cons n ns ih=>obtain⟨y,ys,e,r,q⟩:=r;obtain⟨t,e2⟩:=r;rw [e,e2];exact .cons _ _ (ih q)
theorem Bw{P:Nat->Option Obj}{vs:List Value}{ns:List Int}(h:IntsAre vs ns):DRs P (zs ns) vs:=by
 induction h with
 |nil=>exact rfl
 |cons n t _ ih=>exact⟨_,_,rfl,⟨_,rfl⟩,ih⟩
theorem bv{R:AV->Value->Prop}{xs:List Value}(r:All2 R [a] xs):∃x,xs=[x]/\R a x:=by
 obtain⟨x,ys,e,r1,r⟩:=r.cons_inv
 exact⟨x,by rw [e,r.nil_inv],r1⟩
theorem np{R:AV->Value->Prop}{xs:List Value}(r:All2 R [a,b] xs):∃x y,xs=[x,y]/\R a x/\R b y:=by
 obtain⟨x,ys,e,r1,r⟩:=r.cons_inv
 obtain⟨y,rfl,r2⟩:=bv r
 exact⟨x,y,e,r1,r2⟩
theorem RA.list{tk n:Nat}{items:Array Value}(S:ST F c G s.heap)(r:DRs G.P ds items.toList)(hk:∀b o,s.heap.get? b=some o->h'.get? b=some o){x:Nat}(hx:s.heap.objs.size<=x)(g:h'.get? x=some (listOf items n)):RA F U c G s (λG=>AVR G (.dat (.list ds))) (.ref x) {s with heap:=h',toks:=tk}:=
 (RFl.push (ws:=ds.map .dat) S r.dats hk hx g).dat
theorem o_sorted{ns:List Int}(hl:Ls c.σ a ((zs ns).map .dat))(hz:ns.length<64):OpL F U c (λxs=>call (.builtin "sorted") xs []) [a] (.dat (.list (zs (sortI ns)))) c:=λG s xs S r=>by
 obtain⟨x,rfl,r1⟩:=bv r
 obtain⟨y,items,n,rfl,g,q⟩:=dz S.sr hl r1
 have hI:=Bd q.dats
 refine sorted_ints (vs:=items.toList) (by rw [Array.toArray_toList];exact bw g) hI (by rw [hI.length];exact hz) λout ns' h1 h2 h3=> ?_
 obtain⟨m,hm⟩:=sortedAll_at s.heap items.toList out
 exact .list (tk:=s.toks) S (eq_sortI h2 h3▸Bw h1) (λ_ _ z=>sortedAll_old z) (ko _) hm
theorem RA.ite{p:Prop}[Decidable p]{t1 t2 tk:Nat}(S:ST F c G h')(hk:SS s {s with heap:=h',toks:=tk}):RA F U c G s (λG=>AVR G (.dat (.int (if p then i else j)))) (if p then .int i t1 else .int j t2) {s with heap:=h',toks:=tk}:=by
 refine .here (s':={s with heap:=h',toks:=tk}) S ?_ hk
 split
 ·exact⟨_,rfl⟩
 ·exact⟨_,rfl⟩
theorem o_min:OpL F U c (λxs=>call (.builtin "min") xs []) [.dat (.int i),.dat (.int j)] (.dat (.int (if j<i then j else i))) c:=λG s xs S r=>by
 obtain⟨x,y,rfl,⟨t1,rfl⟩,⟨t2,rfl⟩⟩:=np r
 exact min_two_ints S.fr.st.hnd λh' tk hk=> .ite (S.keeps hk) (SS.heap h' tk)
theorem o_max:OpL F U c (λxs=>call (.builtin "max") xs []) [.dat (.int i),.dat (.int j)] (.dat (.int (if i<j then j else i))) c:=λG s xs S r=>by
 obtain⟨x,y,rfl,⟨t1,rfl⟩,⟨t2,rfl⟩⟩:=np r
 exact max_two_ints S.fr.st.hnd λh' tk hk=> .ite (S.keeps hk) (SS.heap h' tk)
theorem o_range:OpL F U c (λxs=>call (.type "range") xs []) [.dat (.int i)] (.range i) c:=λG s xs S r=>by
 obtain⟨x,rfl,⟨t1,rfl⟩⟩:=bv r
 refine call_range_1 ?_
 obtain⟨g3,S3,p3⟩:=S.data (U:=U) (ob:={cls:= .type "range",dict:=none,data:= .fields #[.int 0 s.toks,.int i t1,.int 1 (s.toks+1)],slots:=#[]}) rfl
 exact⟨_,g3,S3,⟨_,_,_,_,rfl,p3⟩,SS.heap _ _⟩
theorem o_list(hl:Ls c.σ a (ds.map .dat))(hz:ds.length<=1000000):OpL F U c (λxs=>call (.type "list") xs []) [a] (.dat (.list ds)) c:=λG s xs S r=>by
 obtain⟨x,rfl,r1⟩:=bv r
 obtain⟨y,items,n,rfl,g,q⟩:=dz S.sr hl r1
 exact call_list_seq y (.inl rfl) g rfl rfl (λh' c' hk hD=> .list (tk:=s.toks) S q.dats hk (jc _) hD) (b6 (ja (pj q (by rw [jb];exact hz)) (by decide)))
theorem Dq{l:List (Int×AV)}(e:c.σ τ=some (.dictL true l))(hz:l.length<=1000000):OpL F U c (λxs=>call (.type "list") xs []) [.obj τ] (.dat (.list (zs (l.map (·.1))))) c:=λG s xs S r=>by
 obtain⟨x,rfl,r1⟩:=bv r
 obtain rfl:x= .ref (G.μ τ):=r1
 obtain⟨kvs,hm,hr⟩:=S.sr.obj τ _ e
 obtain⟨ep,hat⟩:=hm.dictAt
 refine kdl_call (kdl_dict (knd:=intKind F.W.prog F.W.w) (kvs:=kvs) (ep:=ep) (S.sr.nmod e (.inl rfl) rfl)) S.fr.st.hnd hat (b6 (ja (hr.length▸hz) (by decide))) λh' tk acc c' hk hD hacc=> .list (tk:=tk) S (All2.dats (All2.of_index ?_ λj v hv=> ?_)) hk (jc _) hD
 ·rw [ju,hacc.1,jb,zs,jb,jb];exact hr.length.symm
 ·obtain⟨k,x,h3,h4⟩:=hacc.2 j v (by rw [<-wp];exact hv)
  obtain⟨tk,rfl⟩:=Value.isInt_shape h4
  refine⟨.dat (.int k),?_,_,rfl⟩
  rw [zs,Bk hr,jw,jw,jw,h3]
  rfl
theorem Bu(h0:0<=i)(h1:i<=1000000):OpL F U c (λxs=>call (.type "list") xs []) [.range i] (.dat (.list (zs ((List.range i.toNat).map λ(n:Nat)=>(n:Int))))) c:=λG s xs S r=>by
 obtain⟨x,rfl,r1⟩:=bv r
 obtain⟨y,t1,t2,t3,rfl,p⟩:=r1
 have hr:IsRange s.heap y 0 i 1 t1 t2 t3:=S.sr.prot _ _ (.inl p)
 have hsz:Builtin.Range.rangeSize 0 i 1=(i.toNat:Int):=by rw [rangeSize_one,Int.toNat_of_nonneg h0];split;exact Int.sub_zero i;exact Int.le_antisymm h0 (Int.not_lt.mp ‹_›)
 refine call_list_range S.fr.st.hnd hr (small_one (by decide) (by decide) (Int.le_trans (by decide) h0) (xr h1 (by decide))) hsz (Int.toNat_le.mpr (Int.le_trans h1 (by decide))) λh' tk acc c' hk hD hacc=> .list (tk:=tk) S (All2.dats (All2.of_index ?_ λj v hv=> ?_)) hk (jc _) hD
 ·rw [ju,hacc.1,jb,zs,jb,jb,qx]
 ·obtain⟨tk,rfl⟩:=hacc.2 j v (by rw [<-wp];exact hv)
  have hj:j<i.toNat:=hacc.1▸(ju▸(xh.mp hv).1)
  refine⟨.dat (.int (j:Int)),?_,tk,?_⟩
  ·rw [zs,jw,jw,jw,List.getElem?_range hj];rfl
  ·rw [Int.mul_one,Int.zero_add]
theorem o_tuple(hl:Ls c.σ a (ds.map .dat))(hz:ds.length<=1000000):OpL F U c (λxs=>call (.type "tuple") xs []) [a] (.dat (.tuple ds)) c:=λG s xs S r=>by
 obtain⟨x,rfl,r1⟩:=bv r
 obtain⟨y,items,n,rfl,g,q⟩:=dz S.sr hl r1
 refine call_tuple_list (bw g) (λh' hk=> ?_) (b6 (ja (pj q (by rw [jb];exact hz)) (by decide)))
 obtain⟨g3,S3,p⟩:=(S.keeps hk).data (U:=U) (ob:=dc items 0) rfl
 exact⟨_,g3,S3,⟨_,_,_,rfl,p,q.dats.mono g3.p⟩,⟨rfl,rfl,rfl⟩⟩
theorem vx:OpL F U c (λxs=>call (.type "tuple") xs []) [.dat (.tuple ds)] (.dat (.tuple ds)) c:=λG s xs S r=>by
 obtain⟨x,rfl,r1⟩:=bv r
 have r2:=r1
 obtain⟨y,items,n,rfl,p,q⟩:=r1
 exact call_tuple_tup ⟨_,S.sr.prot _ _ (.inl p),rfl,_,rfl⟩ (.here S r2 .refl)
theorem o_int:OpL F U c (λxs=>call (.type "int") xs []) [.dat (.int i)] (.dat (.int i)) c:=λG s xs S r=>by
 obtain⟨x,rfl,t,rfl⟩:=bv r
 exact call_int_int (.here S ⟨_,rfl⟩ .refl)
theorem o_isList(hl:Ls c.σ a vs):OpL F U c (λxs=>call (.builtin "isinstance") xs []) [a,.typ "list"] (.dat (.bool true)) c:=λG s xs S r=>by
 obtain⟨x,y,rfl,r1,rfl⟩:=np r
 obtain⟨y,items,n,rfl,g,q⟩:=dz S.sr hl r1
 exact IsiPair.list_list g rfl (.here S rfl .refl)
theorem dict0{K:Type}[DecidableEq K]{knd:KeyKind W.prog W.w K}(e:h.get? x=some {cls:= .type "dict",data:= .dict #[]}):h.DictOf knd x []:=⟨_,#[],0,e,⟨rfl,rfl,rfl⟩,rfl,(λ_ q=>by cases q;rename_i q;cases q),.nil,.nil⟩
theorem Ax(R:∀G h x,h.get? x=some {cls:= .type "dict",data:= .dict #[]}->OR F.W G h x o)(w:o.wr=true)(ad:∀a b,o.ad a b↔b=a):EvO F U c (.Dict [] [] pos) o c:=λG s S=>
 wpAny_Dict_empty ⟨G,.refl,S.push _,SS.heap (s:=s) _ _,s.heap.objs.size,rfl,R _ _ _ (Heap.get?_push_size _ rfl),w,ad,S.sr.fresh (jc _),S.fr.fresh (jc _),(S.new (jc _)).fc,S.sr.statics⟩
theorem d_emptyI:EvO F U c (.Dict [] [] pos) (.dictI true λ_=>none) c:=Ax (λG h x e=>⟨[],dict0 e,λ_=>trivial,(λ_ q=>(by nomatch q))⟩) rfl λ_ _=> .rfl
theorem d_emptyL:EvO F U c (.Dict [] [] pos) (.dictL true []) c:=Ax (λG h x e=>⟨[],dict0 e,.nil⟩) rfl λ_ _=> .rfl
theorem d_emptyT:EvO F U c (.Dict [] [] pos) (.dictT λ_=>none) c:=Ax (λG h x e=>⟨(λ_ q=>(by nomatch q)),[],⟨#[],0,e,rfl⟩,(λ_ q=>(by nomatch q)),.nil,λ_=>trivial⟩) rfl λ_ _=> .rfl
def EvP(F:Fm)(U:Tg->Prop)(c:Cx)(keys:List (Option Expr))(vals:List Expr)(pos:Pos)(ps:List (AV×AV))(c':Cx):Prop:=Do F U c (evalPairs (pairTrees keys vals F.env pos)) (λG=>All2 (λp q=>AVR G p.1 q.1/\AVR G p.2 q.2) ps) c'
theorem p_nil:EvP F U c [] [] pos [] c:=λG s S=>evalPairs_nil (.here S .nil .refl)
theorem p_cons{k v:Expr}{ks:List (Option Expr)}{es:List Expr}{ps:List (AV×AV)}(E1:Ev F U c k a c1)(E2:Ev F U c1 v b c2)(E3:EvP F U c2 ks es pos ps c3)(ha:a.keeps U)(hb:b.keeps U):EvP F U c (some k::ks) (v::es) pos ((a,b)::ps) c3:=λG s S=>
 pairTrees_cons_walk (E1.bind S λG1 u s1 S1 r1 g1 q1=>E2.bind S1 λG2 w s2 S2 r2 g2 q2=>wM (E3 G2 s2 S2) (λvs s3 z=>z.casesOn λG3 g3 S3 r3 q3=>⟨G3,(g1.trans g2).trans g3,S3,.cons ⟨r1.mono (g2.trans g3) ha,r2.mono g3 hb⟩ r3,(q1.trans q2).trans q3⟩) λ_ _ x=>x)
noncomputable def bt{K:Type}[DecidableEq K](f:K->Option AV)(l:List (K×AV)):K->Option AV:=l.foldl (λf p=>a6 f p.1 p.2) f
theorem Du{K:Type}[DecidableEq K]{R:AV->Value->Prop}{l:List (K×AV)}{kvs acc:List (K×Value)}{f:K->Option AV}(h0:∀k,Opt2 R (f k) (valueAt acc k))(r:All2 (λp q=>p.1=q.1/\R p.2 q.2) l kvs)(k:K):Opt2 R (bt f l k) (valueAt (merged acc kvs) k):=by
 induction r generalizing f acc with
 |nil=>exact h0 k
 | @cons p q _ _ r _ ih=>
  refine ih (f:=a6 f p.1 p.2) (acc:=stored acc q.1 q.2) λk=> ?_
  rw [<-r.1];exact pc h0 r.2 k
theorem Fc{K:Type}[DecidableEq K]{knd:KeyKind W.prog W.w K}{kof:K->AV}(hkof:∀k v,AVR G (kof k) v->knd.is k v=true){l:List (K×AV)}{vs:List (Value×Value)}(r:All2 (λp q=>AVR G p.1 q.1/\AVR G p.2 q.2) (l.map λp=>(kof p.1,p.2)) vs):∃kvs,Carries knd vs kvs/\All2 (λp q=>p.1=q.1/\AVR G p.2 q.2) l kvs:=by
 induction l generalizing vs with
 |nil=>rw [r.nil_inv];exact⟨[],trivial,.nil⟩
 |cons p l ih=>
  obtain⟨x,xs,rfl,r1,r⟩:=r.cons_inv
  obtain⟨kvs,c1,c2⟩:=ih r
  exact⟨(p.1,x.2)::kvs,⟨hkof _ _ r1.1,rfl,c1⟩,.cons ⟨rfl,r1.2⟩ c2⟩
theorem d_walk{K:Type}[DecidableEq K]{keys:List (Option Expr)}{vals:List Expr}{l:List (K×AV)}(knd:KeyKind F.W.prog F.W.w K)(kof:K->AV)(hR:∀G h x,(∃kvs,h.DictOf knd x kvs/\∀k,Opt2 (AVR G) (bt (λ_=>none) l k) (valueAt kvs k))->OR F.W G h x o)(hkof:∀G k v,AVR G (kof k) v->knd.is k v=true)(w:o.wr=true)(ad:∀a b,o.ad a b↔b=a)
  (E:EvP F U c keys vals pos (l.map λp=>(kof p.1,p.2)) c1) (hall:keys.all (·.isSome)=true) (hl:keys.length=vals.length) (h0:keys≠[]) (hlen:keys.length<=15):EvO F U c (.Dict keys vals pos) o c1:=λG s S=>by
 refine wpAny_Dict_walk (knd:=knd) hall hl h0 hlen ?_
 have D1:(s.heap.push {cls:= .type "dict",data:= .dict #[]}).get? s.heap.objs.size=some {cls:= .type "dict",data:= .dict #[]}:=Heap.get?_push_size _ rfl
 have N:=S.new (jc s.heap.objs.size)
 refine wM (E _ {s with heap:=s.heap.push {cls:= .type "dict",data:= .dict #[]}} ((S.push _).hold N.move D1)) (λvs s2 z=>z.casesOn λG2 g2 S2 r2 q2=> ?_) λ_ _ x=>x
 have Q:=ST.unh N g2 S2
 obtain⟨kvs,c1,c2⟩:=Fc (G:=G2) (λk v=>hkof G2 k v) r2
 exact⟨kvs,c1,dict0 Q.at_,λh' hd' hs'=>⟨_,Q.g,Q.S.same Q.n hs',(SS.heap (s:=s) _ s.toks).trans (q2.trans (SS.heap h' _)),_,rfl,hR _ _ _ ⟨_,hd',Du (λ_=>trivial) (c2.mono λp _ q r=>⟨r.1,Q.v _ _ r.2⟩)⟩,w,ad,Q.n.has,Q.n.fa,Q.n.fc,S.sr.statics⟩⟩
theorem d_int{keys:List (Option Expr)}{vals:List Expr}{l:List (Int×AV)}(E:EvP F U c keys vals pos (l.map λp=>(.dat (.int p.1),p.2)) c1)(hr:∀k,(bt (λ_=>none) l k).isSome=true->rng k=true)(hall:keys.all (·.isSome)=true)(hl:keys.length=vals.length)(h0:keys≠[])(hlen:keys.length<=15):EvO F U c (.Dict keys vals pos) (.dictI true (bt (λ_=>none) l)) c1:=
 d_walk (intKind F.W.prog F.W.w) (λk=> .dat (.int k)) (λG h x z=>z.imp λ_ z=>⟨z.1,z.2,hr⟩) (λG k v r=>by obtain⟨t,e⟩:=r;rw [e];exact beq_self_eq_true k) rfl (λ_ _=> .rfl) E hall hl h0 hlen
theorem d_str{keys:List (Option Expr)}{vals:List Expr}{l:List (Str×AV)}(E:EvP F U c keys vals pos (l.map λp=>(.dat (.str p.1),p.2)) c1)(hr:∀k,(bt (λ_=>none) l k).isSome=true->k∈SK)(hall:keys.all (·.isSome)=true)(hl:keys.length=vals.length)(h0:keys≠[])(hlen:keys.length<=15):EvO F U c (.Dict keys vals pos) (.dictS (bt (λ_=>none) l)) c1:=
 d_walk (strKind F.W.prog F.W.w) (λk=> .dat (.str k)) (λG h x z=>z.imp λ_ z=>⟨z.1,z.2,hr⟩) (λG k v r=>by obtain⟨_,t,e⟩:=r;rw [e];exact beq_self_eq_true k) rfl (λ_ _=> .rfl) E hall hl h0 hlen
theorem Gr.all(g:Gr ek G G'):Gr U G G':=g.weak λ_ _=>trivial
theorem l_more{U1 U2:Tg->Prop}(E:Ev F U1 c e a c1)(k:Ce F U2 c1 es as c2)(h1:∀τ,U τ->U1 τ)(h2:∀τ,U τ->U2 τ)(ha:a.keeps U2)(he:∀env,starEach (e::es) env=(false,eval e env)::starEach es env):Ce F U c (e::es) (a::as) c2:=λpos G s S=>
 spliced_more (E.bind S λG1 v s1 S1 r1 g1 q1=>(k pos).bind S1 λG2 vs s2 S2 r2 g2 q2=>⟨G2,(g1.weak h1).trans (g2.weak h2),S2,.cons (r1.mono g2 ha) r2,q1.trans q2⟩) (he _)
theorem p_more{U1 U2 U3:Tg->Prop}{k v:Expr}{ks:List (Option Expr)}{es:List Expr}{ps:List (AV×AV)}(E1:Ev F U1 c k a c1)(E2:Ev F U2 c1 v b c2)(E3:EvP F U3 c2 ks es pos ps c3)(h1:∀τ,U τ->U1 τ)(h2:∀τ,U τ->U2 τ)(h3:∀τ,U τ->U3 τ)(ha:a.keeps λτ=>U2 τ/\U3 τ)(hb:b.keeps U3):EvP F U c (some k::ks) (v::es) pos ((a,b)::ps) c3:=λG s S=>
 pairTrees_cons_walk (E1.bind S λG1 u s1 S1 r1 g1 q1=>E2.bind S1 λG2 w s2 S2 r2 g2 q2=>wM (E3 G2 s2 S2) (λvs s3 z=>z.casesOn λG3 g3 S3 r3 q3=>⟨G3,((g1.weak h1).trans (g2.weak h2)).trans (g3.weak h3),S3,.cons ⟨r1.mono ((g2.weak λ_=>And.left).trans (g3.weak λ_=>And.right)) ha,r2.mono g3 hb⟩ r3,(q1.trans q2).trans q3⟩) λ_ _ x=>x)
def AsN(F:Fm)(c:Cx)(ns:List Str)(as:List AV)(c':Cx):Prop:=∀G s xs,ST F c G s.heap->All2 (AVR G) as xs->wpAny (Mk F.W) F.A (assignInOrder (ns.map λn=>bindName F.env n) xs) (RA F ek c' G s λ_ _=>True) no s
theorem asn_nil:AsN F c [] [] c:=λG s xs S r=>by rw [r.nil_inv];exact assignInOrder_nil (.here S trivial .refl)
theorem asn_cons{x:Str}{ns:List Str}(hk:cj (F.env.kindOf x)=true)(hf:F.env.func.isSome=true\/F.env.kindOf x=some .local)(E:AsN F ⟨aq c.ρ x a,c.σ⟩ ns as c1):AsN F c (x::ns) (a::as) c1:=λG s xs S r=>by
 obtain⟨y,ys,rfl,r1,r⟩:=r.cons_inv
 exact assignInOrder_cons (wpAny_bindName (dt hk hf S r1 λs1 S1 q1=>fh .refl q1 (E G s1 ys S1 r)))
theorem El{vs:List Value}(S:ST F c G s.heap):IsTup (s.heap.push (dc vs.toArray 0)) s.heap.objs.size vs.toArray:=⟨_,Heap.get?_push_size _ rfl,rfl,_,rfl⟩
theorem x_tuples{ts:List Expr}{k k2:Nat}{tp p2:Pos}(E:Ce F U c es as c1)(T:AsL F c1 ts as c2)(hz:as.length<=1000)(hn:∀env,(assignEach ts env).length=as.length)(hst:∀env,(assignEach ts env).findIdx? (·.1)=none)
  (hs:swapsWithSole [.Tuple ts k tp] (.Tuple es k2 p2) pos.line F.env=pure false) (hw:swappedStores [.Tuple ts k tp] (.Tuple es k2 p2) F.env=pure none):X1 F U c (.Assign [.Tuple ts k tp] (.Tuple es k2 p2) pos) .next c2:=λG s S=>
 Assign_Tuple (Tuple_ ((E p2).bind S λG1 vs s1 S1 r1 g1 q1=>wpAny_newTuple (assign_Tuple_tuple S1.fr.st.hnd (El S1) ((hn _).trans (r1.length.trans xu.symm)) (hst _) λh' kk=>wM (T G1 _ _ ((S1.push _).keeps (rc kk)) r1) (λ_ s2 z=>z.casesOn λG2 g2 S2 _ q2=>⟨G2,g1.trans g2.all,S2,rfl,q1.trans ((SS.heap h' s1.toks).trans q2)⟩) λ_ _ x=>x) (b6 (pj r1 (ja hz (by decide)))))) hs hw
theorem N6{ts:List Expr}{k k2:Nat}{tp p2:Pos}{ns:List Str}(E:Ce F U c es as c1)(T:AsN F c1 ns.reverse as.reverse c2)(hz:as.length<=1000)(hn:ns.length=as.length)
  (hs:swapsWithSole [.Tuple ts k tp] (.Tuple es k2 p2) pos.line F.env=pure false) (hw:swappedStores [.Tuple ts k tp] (.Tuple es k2 p2) F.env=pure (some ns)):X1 F U c (.Assign [.Tuple ts k tp] (.Tuple es k2 p2) pos) .next c2:=λG s S=>
 Assign_Tuple_swapped (Tuple_ ((E p2).bind S λG1 vs s1 S1 r1 g1 q1=>wpAny_newTuple (by
  rw [hn.trans (r1.length.trans xu.symm)]
  exact unpackItems_tuple S1.fr.st.hnd (El S1) λh' kk=>wM (T G1 _ _ ((S1.push _).keeps (rc kk)) r1.reverse) (λ_ s2 z=>z.casesOn λG2 g2 S2 _ q2=>⟨G2,g1.trans g2.all,S2,rfl,q1.trans ((SS.heap h' s1.toks).trans q2)⟩) λ_ _ x=>x) (b6 (pj r1 (ja hz (by decide)))))) hs hw
theorem it_keys{l:List (Int×AV)}(e:c.σ τ=some (.dictL false l)):It0 F c (.obj τ) (l.map λp=> .dat (.int p.1)):=λG s v S r=>by
 obtain rfl:v= .ref (G.μ τ):=r
 obtain⟨kvs,hm,hr⟩:=S.sr.obj τ _ e
 obtain⟨ob,z⟩:=S.sr.frz τ _ _ e rfl rfl
 obtain⟨ep,hm⟩:=hm.dictAt
 refine wpAny_pyIter_dict (S.sr.nmod e (.inr (S.sr.zst _ _ _ z)) rfl) hm ?_
 obtain⟨od,es,hod,hrest⟩:=id hm
 have zo:od=ob:=sJx (hod.symm.trans (S.sr.zrot _ _ _ z))
 have ln:l.length=kvs.length:=hr.length
 refine⟨G,.refl,S.push _,SS.heap (s:=s) _ _,s.heap.objs.size,[(G.μ τ,od)],λi h=>h.IsKeyIter s.heap.objs.size (G.μ τ) i kvs.length ep,rfl,⟨S.sr.fresh (jc _),S.fr.fresh (jc _),(S.new (jc _)).fc⟩,⟨?_,?_,?_,?_,?_⟩,⟨_,Heap.get?_push_size _ rfl,rfl,rfl⟩,λp m=>jg.mp m▸ .inr ⟨τ,zo▸z⟩⟩
 ·exactλi h ⟨o,ho,hc,hd⟩=>⟨o,_,_,ho,hc,hd,by decide⟩
 ·exactλi h h' ⟨o,ho,r⟩ q=>⟨o,q.trans ho,r⟩
 ·exactλi A s Q E st q=>wpAny_pyIter_keyiter st q
 ·intro i x A s1 Q hx hh hp st hQ
  have hi:i<l.length:=by have:=(xh.mp hx).1;rwa [jb] at this
  have hk:kvs[i]? =some kvs[i]:=qo (ln▸hi)
  have key:l[i]?.map (·.1)=some kvs[i].1:=by rw [<-jw,Bk hr,jw,hk];rfl
  obtain⟨p,hp1,hp2⟩:=Option.map_eq_some_iff.mp key
  rw [jw,hp1] at hx
  refine wpAny_pyNext_dict_item st ⟨od,es,hp _ (.head _),hrest⟩ hk λkey h' hkey st' hs=> ?_
  obtain⟨tk,rfl⟩:=Value.isInt_shape hkey
  exact hQ _ h' s1.toks (sJx hx▸⟨tk,by rw [hp2];rfl⟩) st' hs
 ·intro A s1 Q hh hp st hQ
  rw [jb,ln] at st
  exact wpAny_pyNext_dict_end hh st ⟨od,es,hp _ (.head _),hrest⟩ (List.getElem?_eq_none (jc _)) λh' hs=>hQ h' s1.toks hs
theorem fn_make{C fI n:Nat}{σ1:Tg->Option AObj}(hm:makesIn W.K C=true)(hi:findIn W.K (.ref C) "__init__"=some (some (.ref fI)))(hf:isFn W.K (.ref fI)=true)(hU:¬U τ)(hσ:∀τ' o,τ'≠τ->σ τ'=some o->o.keeps (·≠τ))(ha:∀a∈as,a.keeps (·≠τ))
  (E:Fn W (λt=>U t\/t=τ) n (.ref fI) (.obj τ::as) (up σ τ (.inst C [])) (.dat .none) σ1):Fn W U (n+1) (.ref C) as σ (.obj τ) σ1:=λA G s xs hh hd hu S r=>by
 have X:W.K.In s.heap:=W.kin.keeps λb o e=>S.prot b o (.inl (S.base b o e))
 obtain⟨hp,g,d,tk,os⟩:=s
 have kk:∀b ob,hp.get? b=some ob->((hp.push emptyDict).push (instObj C hp.objs.size)).get? b=some ob:=λb o e=>Heap.get?_push_of_some _ (Heap.get?_push_of_some _ e)
 have hx:((hp.push emptyDict).push (instObj C hp.objs.size)).get? (hp.objs.size+1)=some (instObj C hp.objs.size):=by heap_get
 have hx2:((hp.push emptyDict).push (instObj C hp.objs.size)).get? hp.objs.size=some emptyDict:=Heap.get?_push_of_some _ (Heap.get?_push_size _ rfl)
 have big:∀b∈[hp.objs.size+1,hp.objs.size],hp.objs.size<=b:=λb m=>(jh.mp m).elim (λe=>e▸ko _) λm=>jg.mp m▸jc _
 have g2:Gr (·≠τ) G (G.putL τ (hp.objs.size+1) [hp.objs.size+1,hp.objs.size]):= .put λz=>z rfl
 have S2:SR W (up σ τ (.inst C [])) (G.putL τ (hp.objs.size+1) [hp.objs.size+1,hp.objs.size]) ((hp.push emptyDict).push (instObj C hp.objs.size)):=
  SR.put (h:=hp) (o:= .inst C []) S (λb m=>S.fresh (big b m)) (λb m=>kg S.statics (big b m)) rfl (λb=>⟨λz=>z.elim (λz=>z▸ .head _) λz=>z▸ .tail _ (.head _),λm=>(jh.mp m).imp id λm=>jg.mp m⟩) ⟨qy _,hx,[],0,hx2,.nil,qt⟩ ba
   (λτ' n=>⟨.inl ⟨bc n,λb q=>gw kk (S.live (.inl ⟨_,q⟩)),λo=>hσ τ' o n⟩⟩) λb q=>gw kk (S.live (q.elim (λq=> .inr (.inl q)) λq=> .inr (.inr q)))
 refine make_core (makes_of X hm) (looks_findIn X hi) (λself=>bind_fn X self (beq_iff_eq.mp hf)) (.inl rfl) ?_
 refine codeAny_mono (E _ _ ⟨(hp.push emptyDict).push (instObj C hp.objs.size),g,d,tk,os⟩ _ hh ?_ ?_ S2 (.cons (show AVR _ (.obj τ) _ from cGx Value.ref put_at.symm) (r.mono λa m v r=>r.mono g2 (ha a m)))) λr s' h'=>h'.casesOn λG' v z e R rv q=> ?_
 ·show A.depth+1+2*n<900;rw [wo];exact Nat.lt_of_succ_lt hd
 ·show A.units+1+20*n<9000;rw [wo];exact jq (jv (by decide:1<=20) _) hu
 ·rw [z,show v= .none from rv]
  refine⟨rfl,_,_,rfl,(Gr.put hU).trans (e.weak λ_=> .inl),R,?_,(SS.heap _ _).trans q⟩
  exact cGx Value.ref ((e.m τ (.inr rfl)).trans put_at).symm
theorem Cy{G:Gh}{x:Option AV}{y:Option Value}{v:Value}(q:Opt2 (AVR G) x y)(r:AVR G a v):AVR G (x.getD a) (y.getD v):=by
 cases x with
 |none=>cases y with
  |none=>exact r
  |some _=>exact q.elim
 |some _=>cases y with
  |none=>exact q.elim
  |some _=>exact q
theorem vf{R:AV->Value->Prop}{d:AV}{xs:List Value}(r:All2 R [a,b,d] xs):∃x y z,xs=[x,y,z]/\R a x/\R b y/\R d z:=by
 obtain⟨x,ys,e,r1,r⟩:=r.cons_inv
 obtain⟨y,z,rfl,r2,r3⟩:=np r
 exact⟨x,y,z,e,r1,r2,r3⟩
theorem o_iget(e:c.σ τ=some o)(hf:ug o=some f)(hw:o.wr=true)(hi:∀a b,o.ad a b↔b=a):OpL F U c (λxs=>call (.builtin "dict.get") xs []) [.obj τ,.dat (.int k),a] ((f k).getD a) c:=λG s xs S r=>by
 obtain⟨x,y,z,rfl,r1,⟨tk,rfl⟩,r3⟩:=vf r
 obtain rfl:x= .ref (G.μ τ):=r1
 obtain⟨kvs,hd,hr⟩:=Hl S.sr e hf
 refine call_meetsIn PySem.F.slot_dict_get hd.mapOf.typeIs PySem.F.entry_dict_get (PySem.F.args_dict_get_3 _ _ _) (meets_dict_get_default (intKind F.W.prog F.W.w) (k:=k) _ (ii (W:=F.W) k tk) (S.sr.nmod e (.inl hw) ((hi _ _).mpr rfl)) _) ⟨_,hd.mapOf,?_⟩
 exact .here (s':={s with toks:=s.toks+1}) S (Cy (hr k) r3) (SS.heap s.heap _)
theorem o_tget2{f:List KI->Option AV}{ks:List KI}(e:c.σ τ=some (.dictT f)):OpL F U c (λxs=>call (.builtin "dict.get") xs []) [.obj τ,.dat (.tuple (ks.map KI.dat)),a] ((f ks).getD a) c:=λG s xs S r=>by
 obtain⟨x,y,z,rfl,r1,r2,r3⟩:=vf r
 obtain rfl:x= .ref (G.μ τ):=r1
 obtain⟨xs,hd,_,hr⟩:=Cq S.sr e
 obtain⟨a,rfl,_,hka⟩:=Bi S.sr r2
 refine call_meetsIn PySem.F.slot_dict_get hd.typeIs PySem.F.entry_dict_get (PySem.F.args_dict_get_3 _ _ _) (meetsH_dict_get_default (iu F.W.prog F.W.w) _ a (S.sr.nmod e (.inl rfl) rfl) _) ⟨S.room (n:=1+8) (by decide),ks,xs,hka,hd,?_⟩
 refine .here (s':={s with toks:=_}) S ?_ (SS.heap s.heap _)
 rw [ez]
 exact Cy (hr ks) r3
def IntSet(W:Wd)(m:Nat)(o:Obj):Prop:=∃S:Int->Bool,o.SetObjOf (intKind W.prog W.w) S m
theorem o_set{ns:List Int}(hl:Ls c.σ a ((zs ns).map .dat))(hz:ns.length<1000):OpL F U c (λxs=>call (.type "set") xs []) [a] (.raw (IntSet F.W (firstMet (λi=>ns.getD i 0) ns.length).length)) c:=λG s xs S r=>by
 obtain⟨x,rfl,r1⟩:=bv r
 obtain⟨y,items,n,rfl,g,q⟩:=dz S.sr hl r1
 have hI:=Bd q.dats
 have hlen:items.size=ns.length:=by rw [<-ju];exact hI.length
 refine call_set_list (ns:=ns) S.fr.st.hnd (bw g) hI (hlen▸kg (xi hz) (by decide)) λh' tk hS hk=> ?_
 rw [hlen] at hS
 obtain⟨o,ho,hso⟩:=hS.objOf
 have k:∀b ob,s.heap.get? b=some ob->h'.get? b=some ob:=λb ob z=>hk b ob (Heap.lt_size z) z
 have gp:Gr U G (G.prot s.heap.objs.size o):= .prot (S.sr.fresh (jc _))
 exact⟨_,gp,(S.keeps k).protect (S.sr.fresh (jc _)) (S.fr.fresh (jc _)) ho,⟨_,o,rfl,if_pos rfl,_,hso⟩,SS.heap h' tk⟩
theorem Mm{m:Nat}(hm:m<1000000):OpL F U c (λxs=>call (.builtin "len") xs []) [.raw (IntSet F.W m)] (.dat (.int m)) c:=λG s xs S r=>by
 obtain⟨x,rfl,y,o,rfl,p,_,hso⟩:=bv r
 obtain⟨hex,es,ep,tb,hd,_,_,hn,hf⟩:=hso
 subst hn
 exact call_len_set (S.sr.prot _ _ (.inl p)) hex hd hf (big (qk hm)) (.int S)
variable{τh:Tg}
theorem H0{x:Str}{p:Pos}{elt iter:Expr}{ifs:List Expr}{scope:Scope}{y:Str}{py spos:Pos}(E:Comp F U c elt y iter ifs scope ws c1 σ')(hU:¬U τ)(L:Lone ⟨c1.ρ,σ'⟩ (.list true ws) τ)(hk:cj (F.env.kindOf x)=true)(hf:F.env.func.isSome=true\/F.env.kindOf x=some .local)
  (hsw:swapsWith (.ListComp elt [⟨.Name y py,iter,ifs,0⟩] scope spos) (some (.Name x p)) pos.line F.env=pure true):X1 F U c (.Assign [.Name x p] (.ListComp elt [⟨.Name y py,iter,ifs,0⟩] scope spos) pos) .next ⟨aq c1.ρ x (.obj τ),up σ' τ (.list true ws)⟩:=λG s S=>by
 rw [exec_Assign_Name_used _ _ _ _ hsw]
 refine wB (wpAny_standAt (wB ?_))
 rw [arm_evalThenUse_ListComp]
 refine wB (E.go (use:=some (assign (.Name x p) F.env)) S rfl λacc C s' z=>z.casesOn λG' g S q D items n v d M N st ne r m hn=> ?_)
 have S2:=S.own (x:=D) (τ:=τ) (o:= .list true ws) ⟨items,n,d,r⟩ rfl (λb=> .rfl) M.has M.fa st L.w L.s L.r
 have N2:New F (G'.put τ D) s'.heap C:=⟨Il (λz=>ne (jg.mp z).symm) N.has,N.fa,N.fc⟩
 have gp:Gr U G' (G'.put τ D):= .put hU
 have hn':=hn
 obtain⟨o,_,_,ho,_⟩:=hn'
 have r2:AVR ((G'.put τ D).hold C o) (.obj τ) acc:=v.trans (cGx Value.ref (put_at (L:=[D])).symm)
 refine PyProof.Rows.assign_Name (dt hk hf (S2.hold N2 ho) r2 λs5 S5 q5=> ?_)
 have Q:=ST.unh (U:=U) N2 .refl S5
 exact⟨m,tf hn (Q.at_.trans ho.symm),λh'' hs=>wP (wP ⟨_,(g.trans gp).trans Q.g,Q.S.same Q.n hs,rfl,(q.trans q5).trans (SS.heap h'' s5.toks)⟩)⟩
noncomputable def Gh.give(G:Gh)(τ:Tg)(ob:Obj):Gh:={G with P:=λb=>if b=G.μ τ then some ob else G.P b,own:=λb=>if b=G.μ τ then none else G.own b}
theorem Cz{b:Nat}(q:(G.give τ ob).own b=some τh):b≠G.μ τ/\G.own b=some τh:=(bg q).resolve_left λq=>(by nomatch q.2)
theorem ST.give{y:Str}(S:ST F ⟨ρ,σ⟩ G h)(e:σ τ=some (.list true (ds.map .dat)))(hσ:∀t,t≠τ->σ' t=σ t)(h0:σ' τ=none)(hy:ρ.lookup y=some (.obj τ)):∃G',Gr U G G'/\ST F ⟨aq ρ y (.dat (.list ds)),σ'⟩ G' h:=by
 obtain⟨items,n,g,r⟩:=S.sr.obj τ _ e
 have ow:=S.sr.own τ _ _ e rfl rfl
 obtain⟨⟨p0,k0,z0,_⟩,_⟩:=S.sr.at_ _ τ ow
 have gr:∀{V:Tg->Prop},Gr V G (G.give τ (listOf items n)):=λ{V}=>
  ⟨λb x q=>(if_neg λz=>aj (z▸q) p0).trans q,λb x q=>⟨q,if_neg λz=>aj (z▸q) k0⟩,λb x q=>⟨q,if_neg λz=>aj (z▸q) z0⟩,λ_ _=>rfl⟩
 have ne:∀{t o},σ' t=some o->t≠τ/\σ t=some o:=λ{t o} q=>by
  by_cases z:t=τ
  ·rw [z,h0] at q;cases q
  ·exact⟨z,hσ t z▸q⟩
 have vv:∀x v,(aq ρ y (.dat (.list ds))).lookup x=some v->∀w,(∀u,ρ.lookup x=some u->AVR G u w)->AVR (G.give τ (listOf items n)) v w:=λx v q w hw=>by
  by_cases z:x=y
  ·rw [z,pe] at q
   exact sJx q▸⟨G.μ τ,items,n,(hw (.obj τ) (z▸hy):AVR G (.obj τ) w),if_pos rfl,r.dats.mono (gr (V:=ek)).p⟩
  ·rw [ew z] at q
   exact(hw v q).mono (gr (V:=ek)) v.keepsT
 have lk:∀x v,(aq ρ y (.dat (.list ds))).lookup x=some v->∃u,ρ.lookup x=some u:=λx v q=>by
  by_cases z:x=y
  ·exact⟨_,z▸hy⟩
  ·exact⟨v,ew z▸q⟩
 have pp:∀b x,(G.give τ (listOf items n)).P b=some x->h.get? b=some x:=λb x q=>(bg q).elim (λq=>q.1▸q.2▸g) λq=>S.sr.prot b x (.inl q.2)
 refine⟨_,gr,⟨λa x q=>(gr (V:=ek)).p a x (S.sr.base a x q),λa x q=>q.elim (pp a x) λq=>S.sr.prot a x (.inr q),S.sr.zrot,S.sr.zst,S.sr.kz,λt x q=>(S.sr.obj t x (ne q).2).mono (gr (V:=ek)) x.keepsT,λt x a q w ad=> ?_,λt x a q w ad=>S.sr.frz t x a (ne q).2 w ad,λa t q=> ?_⟩,S.fr.st,?_,λx v q k=> ?_,S.fr.live,λa m q=>S.fr.fa0 a m ?_,λx d q=>⟨?_,(S.fr.cown x d q).2⟩⟩
 ·have:=S.sr.own t x a (ne q).2 w ad
  exact(if_neg λ(z:a=G.μ τ)=>(ne q).1 (sJx (this.symm.trans (z▸ow)))).trans this
 ·obtain⟨na,q⟩:=Cz q
  obtain⟨z,x,e',w,ad⟩:=S.sr.at_ a t q
  have nt:t≠τ:=λy=>na (by
   have e2:σ τ=some x:=y▸e'
   rw [<-sJx (e.symm.trans e2),y] at ad
   exact ad)
  exact⟨⟨(if_neg na).trans z.1,z.2⟩,x,(hσ t nt).trans e',w,ad⟩
 ·exact S.fr.ns.imp λm q=>⟨q.1,λx v e1 e2=>(lk x v e1).elim λu eu=>(q.2 x u eu e2).imp λz w=>⟨w.1,vv x v e1 z λu' eu'=>sJx (eu.symm.trans eu')▸w.2⟩⟩
 ·exact(lk x v q).elim λu eu=>(S.fr.cell x u eu k).imp λd w=>w.imp λz w=>⟨w.1,w.2.1,vv x v q z λu' eu'=>sJx (eu.symm.trans eu')▸w.2.2⟩
 ·exact q.elim (λq=> .inl (q.imp λt q=>(Cz q).2)) λq=>q.elim (λq=>q.elim λx q=>q.elim (λq=>(bg q).elim (λq=> .inl ⟨τ,q.1▸ow⟩) λq=> .inr (.inl ⟨x,.inl q.2⟩)) λq=> .inr (.inl ⟨x,.inr q⟩)) λq=> .inr (.inr q)
 ·exact(if_neg λ(z:d=G.μ τ)=>aj (z▸ow) (S.fr.cown x d q).1).trans (S.fr.cown x d q).1
theorem Do.ghost{t:Sem α}(H:∀G h,ST F c G h->∃G',Gr U G G'/\ST F c1 G' h)(E:Do F U c1 t R c2):Do F U c t R c2:=λG s S=>(H G _ S).elim λG' q=>fh q.1 .refl (E G' s q.2)
theorem f_add{l r:Expr}(E1:Ev F U c l a c1)(E2:Ev F U' c1 r b c2)(hU:∀τ,U τ->U' τ)(ha:a.keeps U')(h1:Ls c2.σ a vs)(h2:Ls c2.σ b ws)(hz:(vs++ws).length<=1000000):EvF F U c (.BinOp l .Add r pos) (vs++ws) c2:=λG s S=>
 wpAny_BinOp (E1.bind S λG1 v s1 S1 r1 g1 q1=>E2.bind S1 λG2 w s2 S2 r2 g2 q2=>by
  obtain⟨z,items,n,rfl,g,q⟩:=dz S2.sr h1 (r1.mono g2 ha)
  obtain⟨z2,items2,n2,rfl,g',q'⟩:=dz S2.sr h2 r2
  have l1:vs.length=items.size:=q.length.trans ju
  have l2:ws.length=items2.size:=q'.length.trans ju
  have hz:items.size+items2.size<=1000000:=l1▸l2▸je▸hz
  exact P.add_list (n:=n) (n2:=n2) g g' (.glue (g1.trans (g2.weak hU)) (q1.trans q2) (.push (tk:=s2.toks) S2 (by rw [yh];exact q.append q') (λ_ _ e=>Heap.get?_push_of_some _ e) (jc _) (Heap.get?_push_size _ rfl))) (by rw [sizeLine_eq];lia))
theorem Ey{o' i:Expr}{p:Pos}{f:Str->Option AV}{k:Str}(E:EvO F U c e o c1)(Eo:EvQ F c1 o' (.obj τh))(Ei:EvQ F c1 i (.dat (.str k)))(hU:¬U τ)(L:Care c1 o τ τh)(eh:c1.σ τh=some (.dictS f))(hr:k∈SK)(hk:∀j v,j≠k->f j=some v->v.keeps (·≠τ))(hs:∀env,swapsWith e (some (.Subscript o' i p)) pos.line env=pure false):
  X1 F U c (.Assign [.Subscript o' i p] e pos) .next ⟨c1.ρ,up (up c1.σ τ o) τh (.dictS (a6 f k (.obj τ)))⟩:=λG s S=>
 wpAny_Assign_Subscript (wM (E G s S) (λv s1 z=>z.casesOn λG1 g1 S1 q1 x v gx w0 ad hx hfa hfc st=>Eo G1 s1 S1 _ λov tk r1=>Ei G1 {s1 with toks:=tk} S1 _ λiv tk2 r2=>by
  obtain rfl:ov= .ref (G1.μ τh):=r1
  obtain⟨hok,tk3,rfl⟩:=r2
  obtain⟨kvs,hd,hq,hf⟩:=S1.sr.obj τh _ eh
  refine wpAny_setItem_pairs (k:=k) (by show(k==k)=true;exact beq_self_eq_true k) hd (λh' hd' hs'=> ?_) (b6 (ja (dl (sk_few hf) (dj hd) hq) (by decide)))
  refine⟨G1.put τ x,g1.trans (.put hU),S1.care gx w0 ad hx hfa hfc st L eh rfl rfl (λ_=>Iff.rfl) (λb n=>hs'.2 b λz=>n (z▸S1.sr.own τh _ _ eh rfl rfl)) ⟨_,hd',λj=> ?_,gz hf hr⟩,rfl,q1.trans (SS.heap _ _)⟩
  rw [fu]
  unfold a6
  by_cases z:j=k
  ·rw [if_pos z,if_pos z,v];exact cGx Value.ref put_at.symm
  ·rw [if_neg z,if_neg z];exact(hq j).mono λw m _ q=>q.mono (U:=(·≠τ)) (.put λz=>z rfl) (hk j w z m)) λ_ _ z=>z) (hs _)
end
set_option genCtorIdx true
inductive O2 where
 |add|sub|mul|mod|fdiv
inductive C2 where
 |eq|ne|lt|le|gt|ge|isin|notin|isv|isnot
inductive BF where
 |len|sorted|list|tuple|range|min|max|int
inductive LM where
 |append|extend|pop|get
inductive Md where
 |all|st|s2|ini|top
set_option genCtorIdx false
inductive M where
 |var (i:Nat)|con (d:PyData)|glo (k:Nat)|att (m:M) (i:Nat)|sub (m n:M)|bin (op:O2) (m n:M)|cmp (op:C2) (m n:M)|neg (m:M)|andv (m n:M)|one (m:M)|ite (t m n:M)|tup (m:M)|lst (m:M)
 |nil|cons (m n:M)|pr (k v m:M)
 |blt (f:BF) (m:M)|isl (m:M)|lset (m:M)|srt (m:M)|srs (m:M)|zip (m n:M)|fn (id:Nat) (m:M)|met (o:M) (id:Nat) (m:M)|lm (o:M) (f:LM) (m:M)
 |own (τ:Tg) (m:M)|slu (m n:M)|slr (m n:M)|comp (elt:M) (y:Nat) (it ifs:M) (fv:List Nat)|dI|dL|dT|dS (m:M)|dN (m:M)|fz (m:M)
 |val (m:M)|not (m:M)|and (m n:M)|or (m n:M)
 |ex (m k:M)|set (i:Nat) (m k:M)|sett (is:List Nat) (m k:M)|sets (is:List Nat) (m k:M)|setm (is:List Nat) (m k:M)|setc (i:Nat) (m k:M)|setw (i:Nat) (τ:Tg) (m k:M)|seta (y i:Nat) (m k:M)|setq (y i:Nat) (τ:Tg) (m k:M)|seti (m n v k:M)|setl (y i j:Nat) (κ:LK) (m k:M)
 |del (m n k:M)|ifs (t m n k:M)|fori (z:Bool) (is:List Nat) (one:Bool) (it body:M) (keep:List Nat) (k:M)|forh (i:Nat) (it body:M) (keep:List Nat) (k:M)|whl (t body:M) (keep:List Nat) (k:M)|ret (m:M)|ret0|bad|rel (i:Nat) (k:M)|setd (y:Nat) (x:Str) (τ:Tg) (m k:M)|new (τ:Tg) (id:Nat) (m:M)
structure IC where
 ρ:List (Nat×AV)
 t:List (Nat×AObj)
 b:Tg->Option AObj
noncomputable def Tg.ti(τ:Tg):Option Nat:=match τ.isTmp with
 |true=>some τ.code.2.toNat
 |false=>none
noncomputable def g7(t:List (Nat×AObj))(b:Tg->Option AObj)(τ:Tg):Option AObj:=match τ.ti with
 |some k=>t.lookup k
 |none=>b τ
noncomputable def IC.σ(c:IC):Tg->Option AObj:=g7 c.t c.b
noncomputable def vn(vs:List Str)(i:Nat):Str:=(vs[i]?).getD ⟨#[1114112+i]⟩
noncomputable def te(vs:List Str)(ρ:List (Nat×AV)):List (Str×AV):=ρ.map λp=>(vn vs p.1,p.2)
noncomputable def IC.cx(vs:List Str)(c:IC):Cx:=⟨te vs c.ρ,c.σ⟩
noncomputable def Tg.stable:Tg->Bool
 | .queue| .marks| .trail| .ls _ _| .tmp _| .byr _| .levels| .lvl _=>false
 |_=>true
noncomputable def Tg.isByr(τ:Tg):Bool:=Nat.beq τ.code.1 18
noncomputable def gv(τ:Tg):Bool:=Nat.beq τ.code.1 11
noncomputable def ui:Tg->Option Tg
 | .ls k _=>some (.dct k)
 | .bk _=>some .bank
 | .levels| .known=>some .state
 | .lvl _=>some .levels
 | .house| .tmp _| .byr _| .feed| .state=>none
 |_=>some .house
noncomputable def Md.u:Md->Tg->Bool
 | .all,τ=> !τ.isTmp
 | .st,τ=>τ.stable||τ.isByr
 | .s2,τ=>τ.stable
 | .ini,τ=>Nat.ble τ.code.1 1||Nat.beq τ.code.1 19
 | .top,_=>false
noncomputable def Md.le:Md->Md->Bool
 | .top,_=>true
 |_,.top=>false
 | .ini,_=>true
 |_,.ini=>false
 | .s2,_=>true
 | .st,.s2=>false
 | .st,_=>true
 | .all,.all=>true
 | .all,_=>false
abbrev Mo:=Md×List Tg
def um(u:Mo)(τ:Tg):Prop:=u.1.u τ=true\/τ∈u.2
noncomputable def hold(a:AV)(u:Mo):Mo:=match a with
 | .obj τ=>(u.1,τ::u.2)
 |_=>u
noncomputable def bq(ρ:List (Nat×AV))(u:Mo):Mo:=ρ.foldr (λp u=>hold p.2 u) u
noncomputable def onT(p:Tg->Bool):AV->Bool
 | .obj τ=>p τ
 |_=>true
noncomputable def kpU(md:Md):AV->Bool:=onT λτ=>md.u τ||τ.isTmp
noncomputable def kpn:AV->Bool:=onT λτ=> !τ.isTmp
noncomputable def leU(u:Mo)(md:Md):Bool:=u.1.le md&&u.2.all λτ=>md.u τ||τ.isTmp
noncomputable def nu(u:Mo)(τ:Tg):Bool:= !u.1.u τ&& !u.2.contains τ
noncomputable def nt(τ:Tg):AV->Bool:=onT λτ'=> !decide (τ'=τ)
noncomputable def hb(τ t:Tg):Bool:= !τ.isTmp&&(!t.isTmp&&(!decide (t=τ)&&decide (ui t=some τ)))
noncomputable def hk(τ:Tg):AV->Bool:=onT (hb τ)
def fw(τ:Tg)(o:AObj):Prop:=o.keeps λt=>hb τ t=true
noncomputable def AV.dat?:AV->Option PyData
 | .dat d=>some d
 |_=>none
noncomputable def AV.obj?:AV->Option Tg
 | .obj τ=>some τ
 |_=>none
noncomputable def AV.rng?:AV->Option Int
 | .range n=>some n
 |_=>none
noncomputable def Dy:PyData->Option Int
 | .int i=>some i
 |_=>none
noncomputable def pstr:PyData->Option Str
 | .str i=>some i
 |_=>none
noncomputable def pbool:PyData->Option Bool
 | .bool i=>some i
 |_=>none
noncomputable def ptup:PyData->Option (List PyData)
 | .tuple i=>some i
 |_=>none
noncomputable def plst:PyData->Option (List PyData)
 | .list i=>some i
 |_=>none
noncomputable abbrev AV.int?(a:AV):Option Int:=a.dat?.bind Dy
noncomputable abbrev AV.str?(a:AV):Option Str:=a.dat?.bind pstr
noncomputable abbrev AV.bool?(a:AV):Option Bool:=a.dat?.bind pbool
noncomputable abbrev AV.tup?(a:AV):Option (List PyData):=a.dat?.bind ptup
noncomputable abbrev AV.lst?(a:AV):Option (List PyData):=a.dat?.bind plst
noncomputable def AObj.ls?:AObj->Option (Bool×List AV)
 | .list w vs=>some (w,vs)
 |_=>none
noncomputable def AObj.dI?:AObj->Option (Bool×(Int->Option AV))
 | .dictI w vs=>some (w,vs)
 |_=>none
noncomputable def AObj.dL?:AObj->Option (Bool×List (Int×AV))
 | .dictL w vs=>some (w,vs)
 |_=>none
noncomputable def AObj.dT?:AObj->Option (List KI->Option AV)
 | .dictT f=>some f
 |_=>none
noncomputable def AObj.dS?:AObj->Option (Str->Option AV)
 | .dictS f=>some f
 |_=>none
noncomputable def AObj.in?:AObj->Option (Nat×List (Nat×AV))
 | .inst w vs=>some (w,vs)
 |_=>none
def br(b:Bool)(P Q:Prop):Prop:=match b with
 |true=>P
 |false=>Q
def ck(b:Bool)(P:Prop):Prop:=match b with
 |true=>P
 |false=>False
def rd{α:Type}(x:Option α)(P:α->Prop):Prop:=match x with
 |some a=>P a
 |none=>False
def i9{α:Type}(x:Option α)(P:α->Prop)(Q:Prop):Prop:=match x with
 |some a=>P a
 |none=>Q
def put(c:IC)(τ:Tg)(o:AObj)(K:IC->Prop):Prop:=match τ.ti with
 |some k=>K ⟨c.ρ,aq c.t k o,c.b⟩
 |none=>∃b',up c.b τ o=b'/\K ⟨c.ρ,c.t,b'⟩
def two(a b:AV)(P:Int->Int->Prop):Prop:=rd a.int? λi=>rd b.int? λj=>P i j
noncomputable def Cn:List AV->(List PyData->Prop)->Prop
 |[],P=>P []
 |a::as,P=>rd a.dat? λd=>Cn as λds=>P (d::ds)
def ob(c:IC)(τ:Tg)(P:AObj->Prop):Prop:=rd (c.σ τ) P
def lsv(c:IC)(a:AV)(P:List AV->Prop):Prop:=i9 a.obj? (λτ=>rd (c.σ τ) λo=>rd o.ls? λp=>P p.2) (rd a.lst? λds=>P (ds.map .dat))
def lsd(c:IC)(a:AV)(P:List PyData->Prop):Prop:=i9 a.obj? (λτ=>rd (c.σ τ) λo=>rd o.ls? λp=>∃ds,p.2=ds.map .dat/\P ds) (rd a.lst? P)
def lsi(c:IC)(a:AV)(P:List Int->Prop):Prop:=lsd c a λds=>∃ns,ds=zs ns/\P ns
noncomputable def rngL(n:Int):List AV:=(List.range n.toNat).map λ(i:Nat)=> .dat (.int (i:Int))
def itv(c:IC)(u:Mo)(a:AV)(P:List AV->Prop):Prop:=i9 a.obj?
 (λτ=>rd (c.σ τ) λo=>i9 o.ls? (λp=>ck (!p.1) ((∀v∈p.2,v.keeps (um u))/\P p.2)) (rd o.dL? λp=>ck (!p.1) (P (p.2.map λp=> .dat (.int p.1)))))
 (i9 a.rng? (λn=>(0<=n/\n<=1000000)/\P (rngL n)) (i9 a.lst? (λds=>P (ds.map .dat)) (rd a.tup? λds=>P (ds.map .dat))))
def Cf(ns:List Int)(o:Obj):Prop:=o.cls= .type "list"/\∃items n,o.data= .seq items n/\IntsAre items.toList ns
noncomputable def AV.raw?:AV->Option (Obj->Prop)
 | .raw p=>some p
 |_=>none
def lsx(c:IC)(a:AV)(P:List PyData->Prop):Prop:=i9 a.raw? (λp=>∃ns,p=Cf ns/\P (zs ns)) (lsd c a P)
def fld(c:IC)(a:AV)(i:Nat)(P:AV->Prop):Prop:=rd a.obj? λτ=>rd (c.σ τ) λo=>rd o.in? λp=>rd (p.2.lookup i) P
def subs(c:IC)(a b:AV)(P:AV->Prop):Prop:=i9 b.int?
 (λk=>i9 a.obj? (λτ=>rd (c.σ τ) λo=>i9 o.ls? (λp=>rd (ao k p.2) λv=>p.2.length<=1000000/\P v) (i9 o.dI? (λp=>rd (p.2 k) P) (rd o.dL? λp=>rd (lk p.2 k) P)))
  (i9 a.lst? (λds=>rd (ao k ds) λd=>ds.length<=1000000/\P (.dat d)) (rd a.tup? λds=>ck (decide (0<=k)&&decide (k<=1000)) (rd ds[k.toNat]? λd=>P (.dat d)))))
 (rd b.str? λs=>rd a.obj? λτ=>rd (c.σ τ) λo=>rd o.dS? λf=>rd (f s) P)
def badd(c:IC)(a b:AV)(P:PyData->Prop):Prop:=i9 a.int? (λi=>rd b.int? λj=>P (.int (i+j)))
 (i9 a.tup? (λds=>rd b.tup? λes=>(ds≠[]/\es≠[])/\(ds++es).length<=1000/\P (.tuple (ds++es))) (lsd c a λds=>lsd c b λes=>(ds++es).length<=1000000/\P (.list (ds++es))))
def bop(op:O2)(c:IC)(a b:AV)(P:PyData->Prop):Prop:=match op with
 | .add=>badd c a b P
 | .sub=>two a b λi j=>P (.int (i-j))
 | .mul=>two a b λi j=>IntMulOk i j/\P (.int (i*j))
 | .mod=>two a b λi j=>0<j/\P (.int (i%j))
 | .fdiv=>two a b λi j=>(0<j/\Builtin.divisionGoesByPylong i j=false)/\P (.int (i/j))
noncomputable def Cc(d e:PyData):Bool:=((Dy d).bind λi=>(Dy e).map λj=>decide (i=j)).getD (PyData.eqv d e)
noncomputable def F8(ds:List PyData)(e:PyData):Bool:=ds.any λy=>PyData.eqv y e
def inb(c:IC)(a b:AV)(P:Bool->Prop):Prop:=i9 b.obj?
 (λτ=>rd (c.σ τ) λo=>i9 o.ls? (λp=>rd a.dat? λe=>∃ds,p.2=ds.map .dat/\ck (lay (.list ds)&&lay e) (P (F8 ds e)))
  (i9 o.dI? (λp=>rd a.int? λk=>P (p.2 k).isSome) (rd o.dL? λp=>rd a.int? λk=>P (lk p.2 k).isSome)))
 (rd a.dat? λe=>i9 b.lst? (λds=>ck (lay (.list ds)&&lay e) (P (F8 ds e))) (rd b.tup? λds=>ck (lay (.tuple ds)&&lay e) (P (F8 ds e))))
def isb(a b:AV)(P:Bool->Prop):Prop:=rd b.dat? λe=>ck (isNone e) (rd a.dat? λd=>P (isNone d))
def dv(c:IC)(a:AV)(P:PyData->Prop):Prop:=i9 a.dat? P (lsd c a λds=>P (.list ds))
def eqs(c:IC)(a b:AV)(P:Bool->Prop):Prop:=dv c a λd=>dv c b λe=>ck (lay d&&lay e) (P (Cc d e))
def cop(op:C2)(c:IC)(a b:AV)(P:Bool->Prop):Prop:=match op with
 | .eq=>eqs c a b P
 | .ne=>eqs c a b λt=>P (!t)
 | .lt=>two a b λi j=>P (decide (i<j))
 | .le=>two a b λi j=>P (decide (i<=j))
 | .gt=>two a b λi j=>P (decide (j<i))
 | .ge=>two a b λi j=>P (decide (j<=i))
 | .isin=>inb c a b P
 | .notin=>inb c a b λt=>P (!t)
 | .isv=>isb a b P
 | .isnot=>isb a b λt=>P (!t)
def a1(vs:List AV)(P:AV->Prop):Prop:=match vs with
 |[a]=>P a
 |_=>False
def a2(vs:List AV)(P:AV->AV->Prop):Prop:=match vs with
 |[a,b]=>P a b
 |_=>False
def a12(vs:List AV)(P:AV->Prop)(Q:AV->AV->Prop):Prop:=match vs with
 |[a]=>P a
 |[a,b]=>Q a b
 |_=>False
def blen(c:IC)(a:AV)(P:AV->Prop):Prop:=i9 a.lst? (λds=>ds.length<=1000000/\P (.dat (.int ds.length))) (lsv c a λvs=>vs.length<=1000000/\P (.dat (.int vs.length)))
def blist(c:IC)(a:AV)(P:AV->Prop):Prop:=i9 a.rng? (λn=>(0<=n/\n<=1000000)/\P (.dat (.list (zs ((List.range n.toNat).map λ(i:Nat)=>(i:Int))))))
 (i9 a.obj? (λτ=>rd (c.σ τ) λo=>i9 o.dL? (λp=>ck p.1 (p.2.length<=1000000/\P (.dat (.list (zs (p.2.map (·.1))))))) (rd o.ls? λp=>∃ds,p.2=ds.map .dat/\ds.length<=1000000/\P (.dat (.list ds)))) (rd a.lst? λds=>ds.length<=1000000/\P (.dat (.list ds))))
def btup(c:IC)(a:AV)(P:AV->Prop):Prop:=i9 a.tup? (λds=>P (.dat (.tuple ds))) (lsd c a λds=>ds.length<=1000000/\P (.dat (.tuple ds)))
def bsem(f:BF)(c:IC)(vs:List AV)(P:AV->Prop):Prop:=match f with
 | .len=>a1 vs λa=>blen c a P
 | .sorted=>a1 vs λa=>lsi c a λns=>ns.length<64/\P (.dat (.list (zs (sortI ns))))
 | .list=>a1 vs λa=>blist c a P
 | .tuple=>a1 vs λa=>btup c a P
 | .range=>a1 vs λa=>rd a.int? λi=>P (.range i)
 | .min=>a2 vs λa b=>two a b λi j=>P (.dat (.int (if j<i then j else i)))
 | .max=>a2 vs λa b=>two a b λi j=>P (.dat (.int (if i<j then j else i)))
 | .int=>a1 vs λa=>rd a.int? λi=>P (.dat (.int i))
def kiOf(d:PyData)(P:KI->Prop):Prop:=i9 (Dy d) (λi=>P (.int i)) (i9 (pstr d) (λs=>P (.str s)) (rd (ptup d) λds=>∃l,ds=zs l/\P (.tup l)))
noncomputable def kiL:List PyData->(List KI->Prop)->Prop
 |[],P=>P []
 |d::ds,P=>kiOf d λk=>kiL ds λks=>P (k::ks)
def key(a:AV)(P:List KI->Prop):Prop:=rd a.tup? λds=>kiL ds P
def oba(c:IC)(a:AV)(P:Tg->AObj->Prop):Prop:=rd a.obj? λτ=>rd (c.σ τ) (P τ)
def sit(c:IC)(b r a:AV)(K:IC->Prop):Prop:=oba c b λτ o=>ck (hk τ a&& !gv τ)
 (i9 o.dI? (λp=>rd r.int? λk=>ck p.1 (rng k=true/\put c τ (.dictI true (a6 p.2 k a)) K))
 (i9 o.dL? (λp=>rd r.int? λk=>ck p.1 (p.2.length<=1000000/\put c τ (.dictL true (lset p.2 k a)) K))
 (i9 o.dS? (λf=>rd r.str? λk=>ck (decide (k∈SK)) (put c τ (.dictS (a6 f k a)) K))
 (rd o.dT? λf=>key r λk=>k∈TK/\put c τ (.dictT (a6 f k a)) K))))
def sdl(c:IC)(b r:AV)(K:IC->Prop):Prop:=oba c b λτ o=>
 i9 o.dI? (λp=>rd r.int? λk=>ck p.1 ((p.2 k).isSome=true/\put c τ (.dictI true (av p.2 k)) K))
 (rd o.dT? λf=>key r λk=>(f k).isSome=true/\put c τ (.dictT (av f k)) K)
def isLs(c:IC)(a:AV)(P:Tg->Bool->List AV->Prop):Prop:=oba c a λτ o=>rd o.ls? λp=>P τ p.1 p.2
def I4(c1 c:IC)(a:AV)(P:Tg->List AV->Prop):Prop:=isLs c1 a λ_ _ _=>isLs c a λτ w l=>ck w (P τ l)
def lms(f:LM)(c1 c:IC)(a:AV)(vs:List AV)(K:AV->IC->Prop):Prop:=match f with
 | .append=>a1 vs λv=>I4 c1 c a λτ l=>ck (hk τ v) (l.length<=1000000/\put c τ (.list true (l++[v])) (K (.dat .none)))
 | .extend=>a1 vs λv=>I4 c1 c a λτ l=>lsd c v λds=>l.length+ds.length<=1000000/\put c τ (.list true (l++ds.map .dat)) (K (.dat .none))
 | .pop=>ck vs.isEmpty (I4 c1 c a λτ l=>∃l0 v,l=l0++[v]/\l0.length<=1000000/\put c τ (.list true l0) (K v))
 | .get=>oba c1 a λ_ o1=>oba c a λτ o=>i9 o1.dT?
  (λ_=>rd o.dT? λf=>a12 vs (λr=>key r λk=>i9 (f k) (λv=>K v c) (K (.dat .none) c)) λr d=>key r λk=>i9 (f k) (λv=>K v c) (K d c))
  (rd o1.dL? λ_=>rd o.dL? λp=>ck p.1 (a2 vs λr d=>rd r.int? λk=>i9 (lk p.2 k) (λv=>K v c) (K d c)))
noncomputable def IC.set(c:IC)(i:Nat)(a:AV):IC:=⟨aq c.ρ i a,c.t,c.b⟩
noncomputable def Mx:List Nat->List AV->IC->(IC->Prop)->Prop
 |[],[],c,P=>P c
 |i::is,v::vs,c,P=>Mx is vs (c.set i v) P
 |_,_,_,_=>False
def mj(one:Bool)(is:List Nat)(v:AV)(c:IC)(P:IC->Prop):Prop:=match one with
 |true=>Mx is [v] c P
 |false=>rd v.tup? λds=>Mx is (ds.map .dat) c P
noncomputable def gy(is:List Nat)(ρ:List (Nat×AV)):List (Nat×AV):=is.filterMap λi=>(ρ.lookup i).map (Prod.mk i)
noncomputable def IC.keep(is:List Nat)(c:IC):IC:=⟨gy is c.ρ,c.t,c.b⟩
abbrev KE:=AV->IC->Prop
abbrev KL:=List AV->IC->Prop
abbrev KT:=Bool->IC->Prop
abbrev KO:=AObj->IC->Prop
abbrev KP:=List (AV×AV)->IC->Prop
abbrev KB:=Fl->IC->Prop
noncomputable def th(k:IC->Prop)(K:KB):KB:=λfl c=>match fl with
 | .next=>k c
 | .ret a=>K (.ret a) c
noncomputable def lp(B:IC->KB->Prop)(A:AV->IC->(IC->Prop)->Prop)(kp:IC->IC)(K:KB):List AV->IC->Prop
 |[],c=>K .next (kp c)
 |v::vs,c=>A v (kp c) λc1=>B c1 (th (lp B A kp K vs) K)
noncomputable def wh(T:IC->KT->Prop)(B:IC->KB->Prop)(kp:IC->IC)(K:KB):Nat->IC->Prop
 |0,_=>False
 |n+1,c=>T (kp c) λb c1=>br b (B c1 (th (wh T B kp K n) K)) (K .next c1)
noncomputable def Fe(T:IC->KT->Prop)(E:IC->KE->Prop)(ρ:List (Nat×AV))(y:Nat):List AV->IC->KL->Prop
 |[],c,K=>K [] c
 |v::vs,c,K=>T ⟨aq ρ y v,c.t,c.b⟩ λb c1=>br b (E c1 λa c2=>rd a.dat? λd=>Fe T E ρ y vs c2 λws=>K (.dat d::ws)) (Fe T E ρ y vs c1 K)
noncomputable def Gd:List (AV×AV)->(List (Str×AV)->Prop)->Prop
 |[],P=>P []
 |p::ps,P=>rd p.1.str? λk=>Gd ps λl=>P ((k,p.2)::l)
noncomputable def Gc:List (AV×AV)->(List (Int×AV)->Prop)->Prop
 |[],P=>P []
 |p::ps,P=>rd p.1.int? λk=>Gc ps λl=>P ((k,p.2)::l)
structure Pg where
 nm:Nat->Str
 gd:Nat->Str×PyData
 ps:Nat->List Str
 sc:Nat->Scope
 body:Nat->List Stmt
noncomputable def sDef:Stmt->Str×Arguments×List Stmt×Scope
 | .FunctionDef n a b _ _ _ s _ _ _=>(n,a,b,s)
 | .ClassDef n _ _ b _ _ s _ _ _ _=>(n,default,b,s)
 |_=>default
noncomputable def sName(s:Stmt):Str:=(sDef s).1
noncomputable def sBody(s:Stmt):List Stmt:=(sDef s).2.2.1
noncomputable def sArgs(s:Stmt):Arguments:=(sDef s).2.1
noncomputable def sScope(s:Stmt):Scope:=(sDef s).2.2.2
noncomputable def nth(l:List Stmt)(n:Nat):Stmt:=l.getD n default
noncomputable def top(n:Nat):Stmt:=nth pw_nz0156_02.main.body n
noncomputable def stm(i:Nat):Stmt:=if i<43 then nth (sBody (top 6)) i else if i<72 then nth (sBody (top 10)) (i-43) else top (i-72+13)
@[irreducible] noncomputable def apsD:PyData:= .tuple [.tuple [.int 0,.int 6],.tuple [.int 1,.int 7],.tuple [.int 3,.int 8],.tuple [.int 4,.int 9],.tuple [.int 6,.int 10]]
noncomputable def pg:Pg:=⟨λi=>sName (stm i),λk=>match k with
 |0=>(S "VALUE_OPS",.tuple [.str (S "num"),.str (S "bvnum"),.str (S "true"),.str (S "false")])
 |1=>(S "BY_ARGUMENTS",.str (S "arguments"))
 |2=>(S "BOOL",.int 0)
 |3=>(S "INT",.int 1)
 |_=>(S "_law_apps",apsD),λi=>(sArgs (stm i)).args.map (·.arg),λi=>sScope (stm i),λi=>sBody (stm i)⟩
section
structure Prg where
 W:Wd
 C:Nat
 B:Nat
 fv:Nat->Nat
 cls:∀D,D=C\/D=B->ClsOK W D/\∀i,i<30->findIn W.K (.ref D) (an i)=some none
 fc:∀i,i<43->findIn W.K (.ref C) (pg.nm i)=some (some (.ref (fv i)))
 fb:∀i,43<=i->i<72->findIn W.K (.ref B) (pg.nm i)=some (some (.ref (fv i)))
 fn:∀i,i<72->isFn W.K (.ref (fv i))=true/\∀j,j<30->an j≠pg.nm i
 mks:∀D,D=C\/D=B->makesIn W.K D=true/\keepIn W.K (.ref D)=true
 ini:pg.nm 0=S "__init__"/\pg.nm 43=S "__init__"/\nsIn W.K mainGlobals (S "Congruence")=some (some (.ref C))/\nsIn W.K mainGlobals (S "Bank")=some (some (.ref B))
 df:∀i,i<84->∃fd,DefOK W (fv i) fd (pg.body i) (pg.ps i)/\fd.scope=pg.sc i
 kp:∀i,i<84->keepIn W.K (.ref (fv i))=true
 gl:∀i,72<=i->i<84->nsIn W.K mainGlobals (pg.nm i)=some (some (.ref (fv i)))
 no:∀x∈[S "len",S "sorted",S "list",S "tuple",S "zip",S "min",S "max",S "set",S "range",S "int",S "isinstance"],nsIn W.K mainGlobals x=some none
 gd:∀k,k<5->∃v,nsIn W.K mainGlobals (pg.gd k).1=some (some v)/\∀G:Gh,(∀a o,W.K.lookup a=some o->G.P a=some o)->AVR G (.dat (pg.gd k).2) v
section
variable(P:Prg)
structure Fit(τ:Tg)(o:AObj):Prop where
 hold:fw τ o
 cls:∀D as,o= .inst D as->(D=P.C/\τ= .house)\/(D=P.B/\τ= .bank)
 dct:∀κ f,τ= .dct κ->o= .dictI true f->∀j v,f j=some v->v= .obj (.ls κ j)
def Inv(σ:Tg->Option AObj):Prop:=∀τ o,σ τ=some o->Fit P τ o
def FnI(n:Nat)(md:Md)(id:Nat)(as:List AV)(b:Tg->Option AObj)(a:AV)(b':Tg->Option AObj):Prop:=
 Inv P (g7 [] b)->Fn P.W (λτ=>md.u τ=true) n (.ref (P.fv id)) as (g7 [] b) a (g7 [] b')/\Inv P (g7 [] b')
inductive FnC(n id:Nat)(u:Mo)(as:List AV)(c:IC)(K:KE):Prop
 |mk (md:Md) (a:AV) (b':Tg->Option AObj) (h:FnI P n md id as c.b a b') (k:ck (leU u md&&(c.ρ.all λp=>kpU md p.2)&&kpn a) (K a ⟨c.ρ,c.t,b'⟩))
end
noncomputable def Prg.cl(P:Prg):Tg->Nat
 | .house=>P.C
 |_=>P.B
noncomputable def okN(τ:Tg)(id:Nat):Bool:=(decide (τ= .house)&&Nat.beq id 0)||(decide (τ= .bank)&&Nat.beq id 43)
inductive NewC(P:Prg)(n id:Nat)(τ:Tg)(u:Mo)(as:List AV)(c:IC)(K:KE):Prop
 |mk (n':Nat) (hn:n=n'+1) (md:Md) (b':Tg->Option AObj) (h:FnI P n' md id (.obj τ::as) (up c.b τ (.inst (P.cl τ) [])) (.dat .none) b') (hs:∀τ' o,τ'≠τ->c.b τ'=some o->o.keeps (·≠τ))
  (k:ck (okN τ id&&(nu u τ&&(leU u md&&(md.u τ&&((c.ρ.all λp=>kpU md p.2&&nt τ p.2)&&as.all (nt τ)))))) (K (.obj τ) ⟨c.ρ,c.t,b'⟩))
structure Sm where
 e:Mo->IC->KE->Prop
 l:Mo->IC->KL->Prop
 t:Mo->IC->KT->Prop
 o:Mo->IC->KO->Prop
 c:Mo->IC->KL->Prop
 p:Mo->IC->KP->Prop
 b:Mo->IC->KB->Prop
noncomputable def Sm.F:Sm:=⟨λ_ _ _=>False,λ_ _ _=>False,λ_ _ _=>False,λ_ _ _=>False,λ_ _ _=>False,λ_ _ _=>False,λ_ _ _=>False⟩
noncomputable def mokm(τ:Tg)(id:Nat):Bool:=(decide (τ= .house)&&decide (id<43))||(decide (τ= .bank)&&(decide (43<=id)&&decide (id<72)))
noncomputable def iq(o:AObj):Bool:=o.in?.isSome
def spk(c:IC)(τ:Tg)(K:IC->Prop)(o:AObj):Prop:=fw τ o/\ck (!iq o&& !gv τ) (i9 (ui τ) (λh=>(∀oh,c.σ h=some oh->oh.keeps (·≠τ))/\put c τ o K) (put c τ o K))
def sta(c:IC)(y i:Nat)(a:AV)(K:IC->Prop):Prop:=rd (c.ρ.lookup y) λh=>oba c h λτ o=>rd o.in? λp=>ck (hk τ a) (put c τ (.inst p.1 (aq p.2 i a)) K)
def HoldQ(τ:Tg)(o:AObj):Prop:=br (gv τ) (o= .dictI true λ_=>none) (fw τ o)
def stq(c:IC)(u:Mo)(y i:Nat)(τ:Tg)(o:AObj)(K:IC->Prop):Prop:=rd (c.ρ.lookup y) λh=>oba c h λτh oh=>rd oh.in? λp=>
 ck (nu u τ&&(c.ρ.all (λp=>nt τ p.2)&&(hb τh τ&&(!iq o&&p.2.all λp=>decide (p.1=i)||nt τ p.2)))) (HoldQ τ o/\∃b',up (up c.b τ o) τh (.inst p.1 (aq p.2 i (.obj τ)))=b'/\K ⟨c.ρ,c.t,b'⟩)
def stl(c:IC)(u:Mo)(y i j:Nat)(κ:LK)(o:AObj)(K:IC->Prop):Prop:=rd (c.ρ.lookup y) λh=>fld c h i λd=>rd (c.ρ.lookup j) λt=>rd t.int? λt=>oba c d λτ od=>rd od.dI? λp=>
 ck (decide (τ= .dct κ)&&(p.1&&(!iq o&&(nu u (.ls κ t)&&c.ρ.all λp=>nt (.ls κ t) p.2)))) (fw (.ls κ t) o/\rng t=true/\∃b',up (up c.b (.ls κ t) o) (.dct κ) (.dictI true (a6 p.2 t (.obj (.ls κ t))))=b'/\K ⟨c.ρ,c.t,b'⟩)
def std(c:IC)(u:Mo)(y:Nat)(x:Str)(τ:Tg)(o:AObj)(K:IC->Prop):Prop:=rd (c.ρ.lookup y) λh=>oba c h λτh oh=>rd oh.dS? λf=>
 ck (nu u τ&&(c.ρ.all (λp=>nt τ p.2)&&(hb τh τ&&(!iq o&&(!gv τ&&decide (x∈SK)))))) (fw τ o/\(∀j v,j≠x->f j=some v->v.keeps (·≠τ))/\∃b',up (up c.b τ o) τh (.dictS (a6 f x (.obj τ)))=b'/\K ⟨c.ρ,c.t,b'⟩)
def zp(ds es:List PyData)(P:PyData->Prop):Prop:=match ds,es with
 |[x],[y]=>P (.list [.tuple [x,y]])
 |_,_=>False
noncomputable def O2.isAdd:O2->Bool
 | .add=>true
 |_=>false
def F4(ns:List Int):Prop:=ns.Pairwise (·<·)/\∀x∈ns,x∈[-4,2,3,6]
noncomputable def ma(L:List (List Int)):List (List Int):=L.mergeSort λx y=>decide (x.headD 0<=y.headD 0)
def HdL(L:List (List Int)):Prop:=(∀l∈L,l≠[])/\(L.map (·.headD 0)).Nodup
noncomputable def vw(L:List (List Int)):List PyData:=L.map λl=> .list (zs l)
def srtL(c:IC)(a:AV)(P:PyData->Prop):Prop:=lsd c a λds=>∃L,ds=vw L/\L.length<64/\HdL L/\P (.list (vw (ma L)))
def rls(c:IC)(i:Nat)(K:IC->Prop):Prop:=rd (c.ρ.lookup i) λa=>isLs c a λτ w vs=>rd τ.ti λj=>∃ds,vs=ds.map .dat/\ck w (K ⟨aq c.ρ i (.dat (.list ds)),c.t.filter λp=> !decide (p.1=j),c.b⟩)
inductive frz(u:Mo)(c:IC)(K:Mo->IC->(IC->(IC->Prop)->Prop)->Prop):Prop
 |mk (τ:Tg) (o o':AObj) (e:c.σ τ=some o) (z:Fz o o') (h:put c τ o' λc1=>K (u.1,τ::u.2) c1 λc2 k=>c2.σ τ=some o'/\put c2 τ o k)
noncomputable def skS(l:List (Str×AV)):Bool:=l.all λp=>decide (p.1∈SK)
noncomputable def skN(l:List (Int×AV)):Bool:=l.all λp=>rng p.1
def forS(u:Mo)(is:List Nat)(one:Bool)(it body:Sm)(keep:List Nat)(c:IC)(K:KB):Prop:=it.e u c λa c1=>itv c1 u a λvs=>lp (body.b u) (mj one is) (IC.keep keep) K vs c1
noncomputable def af(P:Prg)(n:Nat):M->Sm
 | .var i=>{Sm.F with e:=λu c K=>rd (c.ρ.lookup i) λa=>K a c}
 | .con d=>{Sm.F with e:=λu c K=>K (.dat d) c}
 | .glo k=>{Sm.F with e:=λu c K=>K (.dat (pg.gd k).2) c}
 | .att m i=>{Sm.F with e:=λu c K=>(af P n m).e u c λa c1=>fld c1 a i λv=>K v c1}
 | .sub m v=>{Sm.F with e:=λu c K=>(af P n m).e u c λa c1=>(af P n v).e (hold a u) c1 λb c2=>subs c2 a b λr=>K r c2}
 | .bin op m v=>{Sm.F with
   e:=λu c K=>(af P n m).e u c λa c1=>(af P n v).e (hold a u) c1 λb c2=>bop op c2 a b λd=>K (.dat d) c2
   o:=λu c K=>(af P n m).e u c λa c1=>(af P n v).e (hold a u) c1 λb c2=>ck op.isAdd (lsv c2 a λvs=>lsv c2 b λws=>(vs++ws).length<=1000000/\K (.list true (vs++ws)) c2)}
 | .cmp op m v=>{Sm.F with
   e:=λu c K=>(af P n m).e u c λa c1=>(af P n v).e (hold a u) c1 λb c2=>cop op c2 a b λt=>K (.dat (.bool t)) c2
   t:=λu c K=>(af P n m).e u c λa c1=>(af P n v).e (hold a u) c1 λb c2=>cop op c2 a b λt=>K t c2}
 | .neg m=>{Sm.F with e:=λu c K=>(af P n m).e u c λa c1=>rd a.int? λi=>K (.dat (.int (-i))) c1}
 | .andv m v=>{Sm.F with e:=λu c K=>(af P n m).e u c λa c1=>rd a.bool? λb=>br b ((af P n v).e u c1 K) (K a c1)}
 | .one m=>{Sm.F with e:=(af P n m).e}
 | .ite t m v=>{Sm.F with e:=λu c K=>(af P n t).t u c λb c1=>br b ((af P n m).e u c1 K) ((af P n v).e u c1 K)}
 | .tup m=>{Sm.F with e:=λu c K=>(af P n m).l u c λvs c1=>ck (Nat.ble vs.length 100) (Cn vs λds=>K (.dat (.tuple ds)) c1)}
 | .lst m=>{Sm.F with
   e:=λu c K=>(af P n m).l u c λvs c1=>ck (Nat.ble vs.length 100) (Cn vs λds=>K (.dat (.list ds)) c1)
   o:=λu c K=>(af P n m).l u c λvs c1=>ck (Nat.ble vs.length 100) (K (.list true vs) c1)}
 | .nil=>{Sm.F with
   l:=λu c K=>K [] c
   t:=λu c K=>K true c
   p:=λu c K=>K [] c
   b:=λu c K=>K .next c}
 | .cons m v=>{Sm.F with l:=λu c K=>(af P n m).e u c λa c1=>(af P n v).l (hold a u) c1 λas c2=>K (a::as) c2}
 | .pr k m v=>{Sm.F with p:=λu c K=>(af P n k).e u c λa c1=>(af P n m).e (hold a u) c1 λb c2=>(af P n v).p (hold b (hold a u)) c2 λps c3=>K ((a,b)::ps) c3}
 | .blt f m=>{Sm.F with e:=λu c K=>(af P n m).l u c λvs c1=>bsem f c1 vs λa=>K a c1}
 | .isl m=>{Sm.F with e:=λu c K=>(af P n m).e u c λa c1=>lsv c1 a λ_=>K (.dat (.bool true)) c1}
 | .lset m=>{Sm.F with e:=λu c K=>(af P n m).e u c λa c1=>lsi c1 a λns=>ns.length<1000/\K (.dat (.int (firstMet (λi=>ns.getD i 0) ns.length).length)) c1}
 | .srt m=>{Sm.F with e:=λu c K=>(af P n m).e u c λa c1=>srtL c1 a λd=>K (.dat d) c1}
 | .srs m=>{Sm.F with e:=λu c K=>(af P n m).e u c λa c1=>lsi c1 a λns=>F4 ns/\K (.dat (.list (zs ns))) c1}
 | .zip m v=>{Sm.F with e:=λu c K=>(af P n m).e u c λa c1=>(af P n v).e (hold a u) c1 λb c2=>rd a.tup? λds=>rd b.tup? λes=>zp ds es λd=>K (.dat d) c2}
 | .new τ id m=>{Sm.F with e:=λu c K=>(af P n m).l u c λvs c1=>NewC P n id τ u vs c1 K}
 | .setd y x τ m k=>{Sm.F with b:=λu c K=>(af P n m).o u c λo c1=>std c1 u y x τ o λc2=>(af P n k).b u c2 K}
 | .fn id m=>{Sm.F with e:=λu c K=>(af P n m).l u c λvs c1=>FnC P n id u vs c1 K}
 | .met o id m=>{Sm.F with e:=λu c K=>(af P n o).e u c λa c1=>(af P n m).l (hold a u) c1 λvs c2=>oba c1 a λτ o=>ck (iq o&&mokm τ id) (FnC P n id u (a::vs) c2 K)}
 | .lm o f m=>{Sm.F with e:=λu c K=>(af P n o).e u c λa c1=>(af P n m).l (hold a u) c1 λvs c2=>lms f c1 c2 a vs K}
 | .own τ m=>{Sm.F with e:=λu c K=>(af P n m).o u c λo c1=>ck (nu u τ&&c1.ρ.all λp=>nt τ p.2) (spk c1 τ (K (.obj τ)) o)}
 | .slu m v=>{Sm.F with
   e:=λu c K=>(af P n m).e u c λa c1=>(af P n v).e (hold a u) c1 λb c2=>rd b.int? λk=>lsx c2 a λds=>rd (fq none (some k) none ds) λes=>ds.length<=1000000/\K (.dat (.list es)) c2
   o:=λu c K=>(af P n m).e u c λa c1=>(af P n v).e (hold a u) c1 λb c2=>rd b.int? λk=>lsv c2 a λvs=>rd (fq none (some k) none vs) λws=>vs.length<=1000000/\K (.list true ws) c2}
 | .slr m v=>{Sm.F with
   e:=λu c K=>(af P n m).e u c λa c1=>(af P n v).e (hold a u) c1 λb c2=>rd b.int? λk=>lsd c2 a λds=>rd (fq none none (some k) ds) λes=>ds.length<=1000000/\K (.dat (.list es)) c2}
 | .comp elt y it ifs fv=>{Sm.F with
   e:=λu c K=>(af P n it).e (bq c.ρ u) c λa c1=>itv c1 (bq c.ρ u) a λvs=>vs.length<=1000000/\Fe ((af P n ifs).t (bq c.ρ u)) ((af P n elt).e (bq c.ρ u)) (gy fv c.ρ) y vs c1 λws c2=>Cn ws λds=>K (.dat (.list ds)) ⟨c.ρ,c2.t,c2.b⟩
   o:=λu c K=>(af P n it).e (bq c.ρ u) c λa c1=>itv c1 (bq c.ρ u) a λvs=>vs.length<=1000000/\Fe ((af P n ifs).t (bq c.ρ u)) ((af P n elt).e (bq c.ρ u)) (gy fv c.ρ) y vs c1 λws c2=>K (.list true ws) ⟨c.ρ,c2.t,c2.b⟩
   c:=λu c K=>(af P n it).e (bq c.ρ u) c λa c1=>itv c1 (bq c.ρ u) a λvs=>vs.length<=1000000/\Fe ((af P n ifs).t (bq c.ρ u)) ((af P n elt).e (bq c.ρ u)) (gy fv c.ρ) y vs c1 λws c2=>K ws ⟨c.ρ,c2.t,c2.b⟩}
 | .dI=>{Sm.F with o:=λu c K=>K (.dictI true λ_=>none) c}
 | .dL=>{Sm.F with o:=λu c K=>K (.dictL true []) c}
 | .dT=>{Sm.F with o:=λu c K=>K (.dictT λ_=>none) c}
 | .dS m=>{Sm.F with o:=λu c K=>(af P n m).p u c λps c1=>Gd ps λl=>ck (Nat.ble l.length 15&&skS l) (K (.dictS (bt (λ_=>none) l)) c1)}
 | .dN m=>{Sm.F with o:=λu c K=>(af P n m).p u c λps c1=>Gc ps λl=>ck (Nat.ble l.length 15) (skN l=true/\K (.dictI true (bt (λ_=>none) l)) c1)}
 | .fz m=>{Sm.F with e:=λu c K=>frz u c λu1 c1 W=>(af P n m).e u1 c1 λa c2=>W c2 (K a)}
 | .val m=>{Sm.F with t:=λu c K=>(af P n m).e u c λa c1=>rd a.bool? λb=>K b c1}
 | .not m=>{Sm.F with t:=λu c K=>(af P n m).t u c λb c1=>K (!b) c1}
 | .and m v=>{Sm.F with t:=λu c K=>(af P n m).t u c λb c1=>br b ((af P n v).t u c1 K) (K false c1)}
 | .or m v=>{Sm.F with t:=λu c K=>(af P n m).t u c λb c1=>br b (K true c1) ((af P n v).t u c1 K)}
 | .ex m k=>{Sm.F with b:=λu c K=>(af P n m).e u c λ_ c1=>(af P n k).b u c1 K}
 | .set i m k=>{Sm.F with b:=λu c K=>(af P n m).e u c λa c1=>(af P n k).b u (c1.set i a) K}
 | .sett is m k=>{Sm.F with b:=λu c K=>(af P n m).e u c λa c1=>mj false is a c1 λc2=>(af P n k).b u c2 K}
 | .sets is m k=>{Sm.F with b:=λu c K=>(af P n m).l u c λvs c1=>Mx is.reverse vs.reverse c1 λc2=>(af P n k).b u c2 K}
 | .setm is m k=>{Sm.F with b:=λu c K=>(af P n m).l u c λvs c1=>ck (Nat.ble vs.length 100) (Mx is vs c1 λc2=>(af P n k).b u c2 K)}
 | .setc i m k=>{Sm.F with b:=λu c K=>(af P n m).c u c λws c1=>Cn ws λds=>(af P n k).b u (c1.set i (.dat (.list ds))) K}
 | .setw i τ m k=>{Sm.F with b:=λu c K=>(af P n m).c u c λws c1=>ck (nu (bq c.ρ u) τ&&c1.ρ.all λp=>nt τ p.2) (spk c1 τ (λc2=>(af P n k).b u (c2.set i (.obj τ)) K) (.list true ws))}
 | .seta y i m k=>{Sm.F with b:=λu c K=>(af P n m).e u c λa c1=>sta c1 y i a λc2=>(af P n k).b u c2 K}
 | .setq y i τ m k=>{Sm.F with b:=λu c K=>(af P n m).o u c λo c1=>stq c1 u y i τ o λc2=>(af P n k).b u c2 K}
 | .seti m v w k=>{Sm.F with b:=λu c K=>(af P n m).e u c λa c1=>(af P n v).e (hold a u) c1 λb c2=>(af P n w).e (hold b (hold a u)) c2 λr c3=>sit c3 b r a λc4=>(af P n k).b u c4 K}
 | .setl y i j κ m k=>{Sm.F with b:=λu c K=>(af P n m).o u c λo c1=>stl c1 u y i j κ o λc2=>(af P n k).b u c2 K}
 | .del m v k=>{Sm.F with b:=λu c K=>(af P n m).e u c λa c1=>(af P n v).e (hold a u) c1 λb c2=>sdl c2 a b λc3=>(af P n k).b u c3 K}
 | .ifs t m v k=>{Sm.F with b:=λu c K=>(af P n t).t u c λb c1=>br b ((af P n m).b u c1 (th (λc2=>(af P n k).b u c2 K) K)) ((af P n v).b u c1 (th (λc2=>(af P n k).b u c2 K) K))}
 | .fori false is one it body keep k=>{Sm.F with b:=λu c K=>forS u is one (af P n it) (af P n body) keep c (th (λc2=>(af P n k).b u c2 K) K)}
 | .fori true is one it body keep k=>{Sm.F with b:=λu c K=>frz u c λu1 c1 W=>forS u1 is one (af P n it) (af P n body) keep c1 λfl c2=>W c2 (th (λc2=>(af P n k).b u c2 K) K fl)}
 | .forh i it body keep k=>{Sm.F with b:=λu c K=>(af P n it).l u c λvs c1=>ck (Nat.ble vs.length 100) (lp ((af P n body).b (vs.foldr hold u)) (mj true [i]) (IC.keep keep) (th (λc2=>(af P n k).b u c2 K) K) vs c1)}
 | .whl t body keep k=>{Sm.F with b:=λu c K=>∃N,wh ((af P n t).t u) ((af P n body).b u) (IC.keep keep) (th (λc2=>(af P n k).b u c2 K) K) N c}
 | .ret m=>{Sm.F with b:=λu c K=>(af P n m).e u c λa c1=>K (.ret a) c1}
 | .ret0=>{Sm.F with b:=λu c K=>K (.ret (.dat .none)) c}
 | .bad=>Sm.F
 | .rel i k=>{Sm.F with b:=λu c K=>rls c i λc1=>(af P n k).b u c1 K}
end
noncomputable def fvl:List Nat:=[65,72,79,86,93,100,107,114,121,128,133,138,143,150,157,164,171,178,185,192,199,206,213,220,227,234,241,248,255,262,267,274,281,288,295,302,309,316,321,328,335,342,349,
 370,377,384,391,398,405,412,419,426,433,440,447,454,461,468,475,482,489,496,503,510,517,524,531,538,545,552,559,566,586,591,596,601,608,615,620,627,632,637,644,651]
noncomputable def N8(i:Nat):Nat:=fvl.getD i 0
noncomputable def fdO(o:Obj):FuncData:=match o.data with
 | .func fd=>fd
 |_=>default
noncomputable def oAt(K:Frag)(f:Nat):Obj:=(K.lookup f).getD default
noncomputable def mkFD(i:Nat)(x:FuncData):FuncData:={x with body:= .stmts (pg.body i),scope:=pg.sc i,globals:=mainGlobals,closure:=[],builtins:=builtinsNs}
noncomputable def mkO(o:Obj)(i:Nat):Obj:=⟨o.cls,o.dict,.func (mkFD i (fdO o)),o.slots⟩
noncomputable def chkD(K:Frag)(i:Nat)(x:FuncData):Bool:=codeIn K x.code x.qualname&&(((pg.ps i).all λp=>cj ((pg.sc i).names.lookup p))&&(decide (pg.ps i).Nodup&&(decide ((cellsFrom 0 (pg.sc i).names []).map (·.1)).Nodup&&(!(pg.sc i).isCoroutine&&(!(pg.sc i).isGenerator&&(decide ((pg.sc i).kind= .function)&&keepIn K (.ref (N8 i))))))))
noncomputable def chkF(K:Frag)(i:Nat):Bool:=isFn K (.ref (N8 i))&&(List.range 30).all λj=> !decide (an j=pg.nm i)
noncomputable def vals(v:Nat->Value)(n:Nat):List Value:=(List.range n).map v
noncomputable def kcF(K:Frag)(D:Nat):List (Option (Option Value)):=findIn K (.ref D) "__getattribute__"::findIn K (.ref D) "__getattr__"::findIn K (.ref D) "__setattr__"::(List.range 30).map λi=>findIn K (.ref D) (an i)
noncomputable def kcB(K:Frag)(D:Nat):Bool:=hasDictIn K D&&(plainOver K D&&(makesIn K D&&keepIn K (.ref D)))
noncomputable def kcV:List (Option (Option Value)):=some (some (.builtin "object.__getattribute__"))::some none::some (some (.builtin "object.__setattr__"))::List.replicate 30 (some none)
noncomputable def bns:List Str:=[S "len",S "sorted",S "list",S "tuple",S "zip",S "min",S "max",S "set",S "range",S "int",S "isinstance"]
noncomputable def glv:List Value:=[.ref 51,.str (S "arguments") 241,.int 0 698,.int 1 700,.ref 579]
noncomputable def tpl:List (Nat×Array Value):=[(51,#[.str (S "num") 236,.str (S "bvnum") 237,.str (S "true") 238,.str (S "false") 239]),(579,#[.ref 574,.ref 575,.ref 576,.ref 577,.ref 578]),(574,#[.int 0 981,.int 6 982]),(575,#[.int 1 983,.int 7 984]),(576,#[.int 3 985,.int 8 986]),(577,#[.int 4 987,.int 9 988]),(578,#[.int 6 989,.int 10 990])]
structure KF(K:Frag):Prop where
 a:(List.range 84).map (λi=>K.lookup (N8 i))=(List.range 84).map λi=>some (mkO (oAt K (N8 i)) i)
 b:(List.range 84).map (λi (v:Nat->Value)=>bindArgs (mkFD i (fdO (oAt K (N8 i)))) ⟨vals v (pg.ps i).length,[]⟩)=(List.range 84).map λi v=>pure ((pg.ps i).zip (vals v (pg.ps i).length))
 c:((List.range 84).all λi=>chkD K i (fdO (oAt K (N8 i))))=true
 f:((List.range 72).all (chkF K)&&(kcB K 352&&kcB K 569))=true
 d:kcF K 352++kcF K 569=kcV++kcV
 e:(List.range 72).map (λi=>findIn K (.ref (if i<43 then 352 else 569)) (pg.nm i))=(List.range 72).map λi=>some (some (.ref (N8 i)))
 g:(List.range 12).map (λi=>nsIn K mainGlobals (pg.nm (i+72)))=(List.range 12).map λi=>some (some (.ref (N8 (i+72))))
 h:(bns.map (nsIn K mainGlobals))=bns.map λ_=>some none
 i:(List.range 5).map (λk=>nsIn K mainGlobals (pg.gd k).1)=glv.map λv=>some (some v)
 j:[nsIn K mainGlobals (S "Congruence"),nsIn K mainGlobals (S "Bank")]=[some (some (.ref 352)),some (some (.ref 569))]
 t:tpl.map (λp=>K.lookup p.1)=tpl.map λp=>some (dc p.2 0)
noncomputable def starB(e:Expr):Bool:=swappedStores.match_5 (λx=>Bool) e (λvalue pos=>true) λx=>false
theorem ff{P:Prop}(h:false=true):P:=absurd h jx
local macro_rules |`(tactic|trivial)=>`(tactic|first|exactλ_ (h:false=true)=>ff h|exactλ_ _ (h:false=true)=>ff h|exactλ_ _ _ (h:false=true)=>ff h|exactλ_ _ _ _ (h:false=true)=>ff h|exactλ_ _ _ _ _ (h:false=true)=>ff h|exactλ_ _ _ _ _ _ (h:false=true)=>ff h|exactλ_ _ _ _ _ _ _ (h:false=true)=>ff h|exactλ_ _ _ _ _ _ _ _ (h:false=true)=>ff h|exactλ_ _ _ _ _ _ _ _ _ (h:false=true)=>ff h|exactλ_ _ _ _ _ _ _ _ _ _ (h:false=true)=>ff h|exactλ_ _ _ _ _ _ _ _ _ _ _ (h:false=true)=>ff h|exactλ_ _ _ _ _ _ _ _ _ _ _ _ (h:false=true)=>ff h)
noncomputable def pt(f:BoolOp->List Expr->Pos->Bool)(e:Expr):Bool:=by apply @Expr.casesOn (λ_=>Bool) e;(case BoolOp=>exact f);all_goals (intros;exact false)
@[elab_as_elim] theorem lc{f:BoolOp->List Expr->Pos->Bool}{e:Expr}{Q:Expr->Prop}(h:pt f e=true)(k:∀x0 x1 x2,f x0 x1 x2=true->Q (.BoolOp x0 x1 x2)):Q e:=by revert h;apply @Expr.casesOn (λe=>pt f e=true->Q e) e;(case BoolOp=>exact k);all_goals trivial
noncomputable def Gp(f:Expr->Operator->Expr->Pos->Bool)(e:Expr):Bool:=by apply @Expr.casesOn (λ_=>Bool) e;(case BinOp=>exact f);all_goals (intros;exact false)
@[elab_as_elim] theorem Mz{f:Expr->Operator->Expr->Pos->Bool}{e:Expr}{Q:Expr->Prop}(h:Gp f e=true)(k:∀x0 x1 x2 x3,f x0 x1 x2 x3=true->Q (.BinOp x0 x1 x2 x3)):Q e:=by revert h;apply @Expr.casesOn (λe=>Gp f e=true->Q e) e;(case BinOp=>exact k);all_goals trivial
noncomputable def pw(f:UnaryOp->Expr->Pos->Bool)(e:Expr):Bool:=by apply @Expr.casesOn (λ_=>Bool) e;(case UnaryOp=>exact f);all_goals (intros;exact false)
@[elab_as_elim] theorem sq{f:UnaryOp->Expr->Pos->Bool}{e:Expr}{Q:Expr->Prop}(h:pw f e=true)(k:∀x0 x1 x2,f x0 x1 x2=true->Q (.UnaryOp x0 x1 x2)):Q e:=by revert h;apply @Expr.casesOn (λe=>pw f e=true->Q e) e;(case UnaryOp=>exact k);all_goals trivial
noncomputable def Gq(f:Expr->Expr->Expr->Pos->Bool)(e:Expr):Bool:=by apply @Expr.casesOn (λ_=>Bool) e;(case IfExp=>exact f);all_goals (intros;exact false)
@[elab_as_elim] theorem Ak{f:Expr->Expr->Expr->Pos->Bool}{e:Expr}{Q:Expr->Prop}(h:Gq f e=true)(k:∀x0 x1 x2 x3,f x0 x1 x2 x3=true->Q (.IfExp x0 x1 x2 x3)):Q e:=by revert h;apply @Expr.casesOn (λe=>Gq f e=true->Q e) e;(case IfExp=>exact k);all_goals trivial
noncomputable def L8(f:List (Option Expr)->List Expr->Pos->Bool)(e:Expr):Bool:=by apply @Expr.casesOn (λ_=>Bool) e;(case Dict=>exact f);all_goals (intros;exact false)
@[elab_as_elim] theorem Er{f:List (Option Expr)->List Expr->Pos->Bool}{e:Expr}{Q:Expr->Prop}(h:L8 f e=true)(k:∀x0 x1 x2,f x0 x1 x2=true->Q (.Dict x0 x1 x2)):Q e:=by revert h;apply @Expr.casesOn (λe=>L8 f e=true->Q e) e;(case Dict=>exact k);all_goals trivial
noncomputable def o7(f:Expr->List Comprehension->Scope->Pos->Bool)(e:Expr):Bool:=by apply @Expr.casesOn (λ_=>Bool) e;(case ListComp=>exact f);all_goals (intros;exact false)
@[elab_as_elim] theorem lf{f:Expr->List Comprehension->Scope->Pos->Bool}{e:Expr}{Q:Expr->Prop}(h:o7 f e=true)(k:∀x0 x1 x2 x3,f x0 x1 x2 x3=true->Q (.ListComp x0 x1 x2 x3)):Q e:=by revert h;apply @Expr.casesOn (λe=>o7 f e=true->Q e) e;(case ListComp=>exact k);all_goals trivial
noncomputable def vh(f:Expr->List CmpOp->List Expr->Pos->Bool)(e:Expr):Bool:=by apply @Expr.casesOn (λ_=>Bool) e;(case Compare=>exact f);all_goals (intros;exact false)
@[elab_as_elim] theorem Ep{f:Expr->List CmpOp->List Expr->Pos->Bool}{e:Expr}{Q:Expr->Prop}(h:vh f e=true)(k:∀x0 x1 x2 x3,f x0 x1 x2 x3=true->Q (.Compare x0 x1 x2 x3)):Q e:=by revert h;apply @Expr.casesOn (λe=>vh f e=true->Q e) e;(case Compare=>exact k);all_goals trivial
noncomputable def Em(f:Expr->List Expr->List Keyword->Pos->Bool)(e:Expr):Bool:=by apply @Expr.casesOn (λ_=>Bool) e;(case Call=>exact f);all_goals (intros;exact false)
@[elab_as_elim] theorem En{f:Expr->List Expr->List Keyword->Pos->Bool}{e:Expr}{Q:Expr->Prop}(h:Em f e=true)(k:∀x0 x1 x2 x3,f x0 x1 x2 x3=true->Q (.Call x0 x1 x2 x3)):Q e:=by revert h;apply @Expr.casesOn (λe=>Em f e=true->Q e) e;(case Call=>exact k);all_goals trivial
noncomputable def i7(f:Const->Nat->Pos->Bool)(e:Expr):Bool:=by apply @Expr.casesOn (λ_=>Bool) e;(case Constant=>exact f);all_goals (intros;exact false)
@[elab_as_elim] theorem pu{f:Const->Nat->Pos->Bool}{e:Expr}{Q:Expr->Prop}(h:i7 f e=true)(k:∀x0 x1 x2,f x0 x1 x2=true->Q (.Constant x0 x1 x2)):Q e:=by revert h;apply @Expr.casesOn (λe=>i7 f e=true->Q e) e;(case Constant=>exact k);all_goals trivial
noncomputable def ft(f:Expr->Str->Pos->Bool)(e:Expr):Bool:=by apply @Expr.casesOn (λ_=>Bool) e;(case Attribute=>exact f);all_goals (intros;exact false)
@[elab_as_elim] theorem gj{f:Expr->Str->Pos->Bool}{e:Expr}{Q:Expr->Prop}(h:ft f e=true)(k:∀x0 x1 x2,f x0 x1 x2=true->Q (.Attribute x0 x1 x2)):Q e:=by revert h;apply @Expr.casesOn (λe=>ft f e=true->Q e) e;(case Attribute=>exact k);all_goals trivial
noncomputable def bb(f:Expr->Expr->Pos->Bool)(e:Expr):Bool:=by apply @Expr.casesOn (λ_=>Bool) e;(case Subscript=>exact f);all_goals (intros;exact false)
@[elab_as_elim] theorem bo{f:Expr->Expr->Pos->Bool}{e:Expr}{Q:Expr->Prop}(h:bb f e=true)(k:∀x0 x1 x2,f x0 x1 x2=true->Q (.Subscript x0 x1 x2)):Q e:=by revert h;apply @Expr.casesOn (λe=>bb f e=true->Q e) e;(case Subscript=>exact k);all_goals trivial
noncomputable def g9(f:Str->Pos->Bool)(e:Expr):Bool:=by apply @Expr.casesOn (λ_=>Bool) e;(case Name=>exact f);all_goals (intros;exact false)
@[elab_as_elim] theorem eg{f:Str->Pos->Bool}{e:Expr}{Q:Expr->Prop}(h:g9 f e=true)(k:∀x0 x1,f x0 x1=true->Q (.Name x0 x1)):Q e:=by revert h;apply @Expr.casesOn (λe=>g9 f e=true->Q e) e;(case Name=>exact k);all_goals trivial
noncomputable def L9(f:List Expr->Pos->Bool)(e:Expr):Bool:=by apply @Expr.casesOn (λ_=>Bool) e;(case List=>exact f);all_goals (intros;exact false)
@[elab_as_elim] theorem Es{f:List Expr->Pos->Bool}{e:Expr}{Q:Expr->Prop}(h:L9 f e=true)(k:∀x0 x1,f x0 x1=true->Q (.List x0 x1)):Q e:=by revert h;apply @Expr.casesOn (λe=>L9 f e=true->Q e) e;(case List=>exact k);all_goals trivial
noncomputable def gk(f:List Expr->Nat->Pos->Bool)(e:Expr):Bool:=by apply @Expr.casesOn (λ_=>Bool) e;(case Tuple=>exact f);all_goals (intros;exact false)
@[elab_as_elim] theorem f7{f:List Expr->Nat->Pos->Bool}{e:Expr}{Q:Expr->Prop}(h:gk f e=true)(k:∀x0 x1 x2,f x0 x1 x2=true->Q (.Tuple x0 x1 x2)):Q e:=by revert h;apply @Expr.casesOn (λe=>gk f e=true->Q e) e;(case Tuple=>exact k);all_goals trivial
noncomputable def Gs(f:Option Expr->Option Expr->Option Expr->Pos->Bool)(e:Expr):Bool:=by apply @Expr.casesOn (λ_=>Bool) e;(case Slice=>exact f);all_goals (intros;exact false)
@[elab_as_elim] theorem N0{f:Option Expr->Option Expr->Option Expr->Pos->Bool}{e:Expr}{Q:Expr->Prop}(h:Gs f e=true)(k:∀x0 x1 x2 x3,f x0 x1 x2 x3=true->Q (.Slice x0 x1 x2 x3)):Q e:=by revert h;apply @Expr.casesOn (λe=>Gs f e=true->Q e) e;(case Slice=>exact k);all_goals trivial
noncomputable def o8(f:Option Expr->Pos->Bool)(e:Stmt):Bool:=by apply @Stmt.casesOn (λ_=>Bool) e;(case Return=>exact f);all_goals (intros;exact false)
@[elab_as_elim] theorem vm{f:Option Expr->Pos->Bool}{e:Stmt}{Q:Stmt->Prop}(h:o8 f e=true)(k:∀x0 x1,f x0 x1=true->Q (.Return x0 x1)):Q e:=by revert h;apply @Stmt.casesOn (λe=>o8 f e=true->Q e) e;(case Return=>exact k);all_goals trivial
noncomputable def tq(f:List Expr->Pos->Bool)(e:Stmt):Bool:=by apply @Stmt.casesOn (λ_=>Bool) e;(case Delete=>exact f);all_goals (intros;exact false)
@[elab_as_elim] theorem Gw{f:List Expr->Pos->Bool}{e:Stmt}{Q:Stmt->Prop}(h:tq f e=true)(k:∀x0 x1,f x0 x1=true->Q (.Delete x0 x1)):Q e:=by revert h;apply @Stmt.casesOn (λe=>tq f e=true->Q e) e;(case Delete=>exact k);all_goals trivial
noncomputable def C7(f:List Expr->Expr->Pos->Bool)(e:Stmt):Bool:=by apply @Stmt.casesOn (λ_=>Bool) e;(case Assign=>exact f);all_goals (intros;exact false)
@[elab_as_elim] theorem Gv{f:List Expr->Expr->Pos->Bool}{e:Stmt}{Q:Stmt->Prop}(h:C7 f e=true)(k:∀x0 x1 x2,f x0 x1 x2=true->Q (.Assign x0 x1 x2)):Q e:=by revert h;apply @Stmt.casesOn (λe=>C7 f e=true->Q e) e;(case Assign=>exact k);all_goals trivial
noncomputable def wFor(f:Expr->Expr->List Stmt->List Stmt->Pos->Bool)(e:Stmt):Bool:=by apply @Stmt.casesOn (λ_=>Bool) e;(case For=>exact f);all_goals (intros;exact false)
@[elab_as_elim] theorem Le{f:Expr->Expr->List Stmt->List Stmt->Pos->Bool}{e:Stmt}{Q:Stmt->Prop}(h:wFor f e=true)(k:∀x0 x1 x2 x3 x4,f x0 x1 x2 x3 x4=true->Q (.For x0 x1 x2 x3 x4)):Q e:=by revert h;apply @Stmt.casesOn (λe=>wFor f e=true->Q e) e;(case For=>exact k);all_goals trivial
noncomputable def C9(f:Expr->List Stmt->List Stmt->Pos->Bool)(e:Stmt):Bool:=by apply @Stmt.casesOn (λ_=>Bool) e;(case While=>exact f);all_goals (intros;exact false)
@[elab_as_elim] theorem N3{f:Expr->List Stmt->List Stmt->Pos->Bool}{e:Stmt}{Q:Stmt->Prop}(h:C9 f e=true)(k:∀x0 x1 x2 x3,f x0 x1 x2 x3=true->Q (.While x0 x1 x2 x3)):Q e:=by revert h;apply @Stmt.casesOn (λe=>C9 f e=true->Q e) e;(case While=>exact k);all_goals trivial
noncomputable def wIf(f:Expr->List Stmt->List Stmt->Pos->Bool)(e:Stmt):Bool:=by apply @Stmt.casesOn (λ_=>Bool) e;(case If=>exact f);all_goals (intros;exact false)
@[elab_as_elim] theorem wIf_of{f:Expr->List Stmt->List Stmt->Pos->Bool}{e:Stmt}{Q:Stmt->Prop}(h:wIf f e=true)(k:∀x0 x1 x2 x3,f x0 x1 x2 x3=true->Q (.If x0 x1 x2 x3)):Q e:=by revert h;apply @Stmt.casesOn (λe=>wIf f e=true->Q e) e;(case If=>exact k);all_goals trivial
noncomputable def Ld(f:Expr->Pos->Bool)(e:Stmt):Bool:=by apply @Stmt.casesOn (λ_=>Bool) e;(case Expr=>exact f);all_goals (intros;exact false)
@[elab_as_elim] theorem wExpr_of{f:Expr->Pos->Bool}{e:Stmt}{Q:Stmt->Prop}(h:Ld f e=true)(k:∀x0 x1,f x0 x1=true->Q (.Expr x0 x1)):Q e:=by revert h;apply @Stmt.casesOn (λe=>Ld f e=true->Q e) e;(case Expr=>exact k);all_goals trivial
noncomputable def Ae(e:Expr):Bool:=Expr.casesOn (motive_1:=λ_=>Bool) e (λx0 x1 x2=>true) (λx0 x1 x2=>true) (λx0 x1 x2 x3=>true) (λx0 x1 x2=>true) (λx0 x1 x2 x3=>true) (λx0 x1 x2 x3=>true) (λx0 x1 x2=>true) (λx0 x1 x2=>true) (λx0 x1 x2 x3=>true) (λx0 x1 x2 x3=>true) (λx0 x1 x2 x3 x4=>true) (λx0 x1 x2 x3=>true) (λx0 x1=>true) (λx0 x1=>true) (λx0 x1=>true) (λx0 x1 x2 x3=>true) (λx0 x1 x2 x3=>true) (λx0 x1 x2 x3=>true) (λx0 x1=>true) (λx0 x1 x2=>true) (λx0 x1 x2=>true) (λx0 x1 x2=>true) (λx0 x1=>false) (λx0 x1=>true) (λx0 x1=>true) (λx0 x1 x2=>true) (λx0 x1 x2 x3=>true)
noncomputable def nsup(e:Expr):Bool:=Expr.casesOn (motive_1:=λ_=>Bool) e (λx0 x1 x2=>true) (λx0 x1 x2=>true) (λx0 x1 x2 x3=>true) (λx0 x1 x2=>true) (λx0 x1 x2 x3=>true) (λx0 x1 x2 x3=>true) (λx0 x1 x2=>true) (λx0 x1 x2=>true) (λx0 x1 x2 x3=>true) (λx0 x1 x2 x3=>true) (λx0 x1 x2 x3 x4=>true) (λx0 x1 x2 x3=>true) (λx0 x1=>true) (λx0 x1=>true) (λx0 x1=>true) (λx0 x1 x2 x3=>true) (λx0 x1 x2 x3=>false) (λx0 x1 x2 x3=>true) (λx0 x1=>true) (λx0 x1 x2=>true) (λx0 x1 x2=>true) (λx0 x1 x2=>true) (λx0 x1=>true) (λx0 x1=>true) (λx0 x1=>true) (λx0 x1 x2=>true) (λx0 x1 x2 x3=>true)
noncomputable def nsl(e:Expr):Bool:=Expr.casesOn (motive_1:=λ_=>Bool) e (λx0 x1 x2=>true) (λx0 x1 x2=>true) (λx0 x1 x2 x3=>true) (λx0 x1 x2=>true) (λx0 x1 x2 x3=>true) (λx0 x1 x2 x3=>true) (λx0 x1 x2=>true) (λx0 x1 x2=>true) (λx0 x1 x2 x3=>true) (λx0 x1 x2 x3=>true) (λx0 x1 x2 x3 x4=>true) (λx0 x1 x2 x3=>true) (λx0 x1=>true) (λx0 x1=>true) (λx0 x1=>true) (λx0 x1 x2 x3=>true) (λx0 x1 x2 x3=>true) (λx0 x1 x2 x3=>true) (λx0 x1=>true) (λx0 x1 x2=>true) (λx0 x1 x2=>true) (λx0 x1 x2=>true) (λx0 x1=>true) (λx0 x1=>true) (λx0 x1=>true) (λx0 x1 x2=>true) (λx0 x1 x2 x3=>false)
noncomputable def Dk(e:Expr):Bool:=Expr.casesOn (motive_1:=λ_=>Bool) e (λx0 x1 x2=>true) (λx0 x1 x2=>true) (λx0 x1 x2 x3=>true) (λx0 x1 x2=>true) (λx0 x1 x2 x3=>true) (λx0 x1 x2 x3=>true) (λx0 x1 x2=>true) (λx0 x1 x2=>false) (λx0 x1 x2 x3=>true) (λx0 x1 x2 x3=>true) (λx0 x1 x2 x3 x4=>true) (λx0 x1 x2 x3=>true) (λx0 x1=>true) (λx0 x1=>true) (λx0 x1=>true) (λx0 x1 x2 x3=>true) (λx0 x1 x2 x3=>true) (λx0 x1 x2 x3=>true) (λx0 x1=>true) (λx0 x1 x2=>true) (λx0 x1 x2=>true) (λx0 x1 x2=>true) (λx0 x1=>true) (λx0 x1=>true) (λx0 x1=>true) (λx0 x1 x2=>true) (λx0 x1 x2 x3=>true)
noncomputable def fj(e:Expr):Bool:=Expr.casesOn (motive_1:=λ_=>Bool) e (λx0 x1 x2=>true) (λx0 x1 x2=>true) (λx0 x1 x2 x3=>true) (λx0 x1 x2=>true) (λx0 x1 x2 x3=>true) (λx0 x1 x2 x3=>true) (λx0 x1 x2=>true) (λx0 x1 x2=>true) (λx0 x1 x2 x3=>false) (λx0 x1 x2 x3=>false) (λx0 x1 x2 x3 x4=>false) (λx0 x1 x2 x3=>true) (λx0 x1=>true) (λx0 x1=>true) (λx0 x1=>true) (λx0 x1 x2 x3=>true) (λx0 x1 x2 x3=>true) (λx0 x1 x2 x3=>true) (λx0 x1=>true) (λx0 x1 x2=>true) (λx0 x1 x2=>true) (λx0 x1 x2=>true) (λx0 x1=>true) (λx0 x1=>true) (λx0 x1=>true) (λx0 x1 x2=>true) (λx0 x1 x2 x3=>true)
noncomputable def ntup(e:Expr):Bool:=Expr.casesOn (motive_1:=λ_=>Bool) e (λx0 x1 x2=>true) (λx0 x1 x2=>true) (λx0 x1 x2 x3=>true) (λx0 x1 x2=>true) (λx0 x1 x2 x3=>true) (λx0 x1 x2 x3=>true) (λx0 x1 x2=>true) (λx0 x1 x2=>true) (λx0 x1 x2 x3=>true) (λx0 x1 x2 x3=>true) (λx0 x1 x2 x3 x4=>true) (λx0 x1 x2 x3=>true) (λx0 x1=>true) (λx0 x1=>true) (λx0 x1=>true) (λx0 x1 x2 x3=>true) (λx0 x1 x2 x3=>true) (λx0 x1 x2 x3=>true) (λx0 x1=>true) (λx0 x1 x2=>true) (λx0 x1 x2=>true) (λx0 x1 x2=>true) (λx0 x1=>true) (λx0 x1=>true) (λx0 x1=>true) (λx0 x1 x2=>false) (λx0 x1 x2 x3=>true)
theorem o5{o v:Value}{e:Expr}(h:nsl e=true):subscripted e false o v=operate [o,v] (getItem o v):=(Expr.casesOn (motive_1:=λe=>nsl e=true->subscripted e false o v=operate [o,v] (getItem o v)) e (λx0 x1 x2 (h:true=true)=>Eq.refl (operate [o,v] (getItem o v))) (λx0 x1 x2 (h:true=true)=>Eq.refl (operate [o,v] (getItem o v))) (λx0 x1 x2 x3 (h:true=true)=>Eq.refl (operate [o,v] (getItem o v))) (λx0 x1 x2 (h:true=true)=>Eq.refl (operate [o,v] (getItem o v))) (λx0 x1 x2 x3 (h:true=true)=>Eq.refl (operate [o,v] (getItem o v))) (λx0 x1 x2 x3 (h:true=true)=>Eq.refl (operate [o,v] (getItem o v))) (λx0 x1 x2 (h:true=true)=>Eq.refl (operate [o,v] (getItem o v))) (λx0 x1 x2 (h:true=true)=>Eq.refl (operate [o,v] (getItem o v))) (λx0 x1 x2 x3 (h:true=true)=>Eq.refl (operate [o,v] (getItem o v))) (λx0 x1 x2 x3 (h:true=true)=>Eq.refl (operate [o,v] (getItem o v))) (λx0 x1 x2 x3 x4 (h:true=true)=>Eq.refl (operate [o,v] (getItem o v))) (λx0 x1 x2 x3 (h:true=true)=>Eq.refl (operate [o,v] (getItem o v))) (λx0 x1 (h:true=true)=>Eq.refl (operate [o,v] (getItem o v))) (λx0 x1 (h:true=true)=>Eq.refl (operate [o,v] (getItem o v))) (λx0 x1 (h:true=true)=>Eq.refl (operate [o,v] (getItem o v))) (λx0 x1 x2 x3 (h:true=true)=>Eq.refl (operate [o,v] (getItem o v))) (λx0 x1 x2 x3 (h:true=true)=>Eq.refl (operate [o,v] (getItem o v))) (λx0 x1 x2 x3 (h:true=true)=>Eq.refl (operate [o,v] (getItem o v))) (λx0 x1 (h:true=true)=>Eq.refl (operate [o,v] (getItem o v))) (λx0 x1 x2 (h:true=true)=>Eq.refl (operate [o,v] (getItem o v))) (λx0 x1 x2 (h:true=true)=>Eq.refl (operate [o,v] (getItem o v))) (λx0 x1 x2 (h:true=true)=>Eq.refl (operate [o,v] (getItem o v))) (λx0 x1 (h:true=true)=>Eq.refl (operate [o,v] (getItem o v))) (λx0 x1 (h:true=true)=>Eq.refl (operate [o,v] (getItem o v))) (λx0 x1 (h:true=true)=>Eq.refl (operate [o,v] (getItem o v))) (λx0 x1 x2 (h:true=true)=>Eq.refl (operate [o,v] (getItem o v))) (λx0 x1 x2 x3 (h:false=true)=>ff h)) h
theorem cn{es:List Expr}{env:Env}{e:Expr}(h:Ae e=true):starEach (e::es) env=(false,eval e env)::starEach es env:=(Expr.casesOn (motive_1:=λe=>Ae e=true->starEach (e::es) env=(false,eval e env)::starEach es env) e (λx0 x1 x2 (h:true=true)=>Eq.refl ((false,eval (Expr.BoolOp x0 x1 x2) env)::starEach es env)) (λx0 x1 x2 (h:true=true)=>Eq.refl ((false,eval (Expr.NamedExpr x0 x1 x2) env)::starEach es env)) (λx0 x1 x2 x3 (h:true=true)=>Eq.refl ((false,eval (Expr.BinOp x0 x1 x2 x3) env)::starEach es env)) (λx0 x1 x2 (h:true=true)=>Eq.refl ((false,eval (Expr.UnaryOp x0 x1 x2) env)::starEach es env)) (λx0 x1 x2 x3 (h:true=true)=>Eq.refl ((false,eval (Expr.Lambda x0 x1 x2 x3) env)::starEach es env)) (λx0 x1 x2 x3 (h:true=true)=>Eq.refl ((false,eval (Expr.IfExp x0 x1 x2 x3) env)::starEach es env)) (λx0 x1 x2 (h:true=true)=>Eq.refl ((false,eval (Expr.Dict x0 x1 x2) env)::starEach es env)) (λx0 x1 x2 (h:true=true)=>Eq.refl ((false,eval (Expr.Set x0 x1 x2) env)::starEach es env)) (λx0 x1 x2 x3 (h:true=true)=>Eq.refl ((false,eval (Expr.ListComp x0 x1 x2 x3) env)::starEach es env)) (λx0 x1 x2 x3 (h:true=true)=>Eq.refl ((false,eval (Expr.SetComp x0 x1 x2 x3) env)::starEach es env)) (λx0 x1 x2 x3 x4 (h:true=true)=>Eq.refl ((false,eval (Expr.DictComp x0 x1 x2 x3 x4) env)::starEach es env)) (λx0 x1 x2 x3 (h:true=true)=>Eq.refl ((false,eval (Expr.GeneratorExp x0 x1 x2 x3) env)::starEach es env)) (λx0 x1 (h:true=true)=>Eq.refl ((false,eval (Expr.Await x0 x1) env)::starEach es env)) (λx0 x1 (h:true=true)=>Eq.refl ((false,eval (Expr.Yield x0 x1) env)::starEach es env)) (λx0 x1 (h:true=true)=>Eq.refl ((false,eval (Expr.YieldFrom x0 x1) env)::starEach es env)) (λx0 x1 x2 x3 (h:true=true)=>Eq.refl ((false,eval (Expr.Compare x0 x1 x2 x3) env)::starEach es env)) (λx0 x1 x2 x3 (h:true=true)=>Eq.refl ((false,eval (Expr.Call x0 x1 x2 x3) env)::starEach es env)) (λx0 x1 x2 x3 (h:true=true)=>Eq.refl ((false,eval (Expr.FormattedValue x0 x1 x2 x3) env)::starEach es env)) (λx0 x1 (h:true=true)=>Eq.refl ((false,eval (Expr.JoinedStr x0 x1) env)::starEach es env)) (λx0 x1 x2 (h:true=true)=>Eq.refl ((false,eval (Expr.Constant x0 x1 x2) env)::starEach es env)) (λx0 x1 x2 (h:true=true)=>Eq.refl ((false,eval (Expr.Attribute x0 x1 x2) env)::starEach es env)) (λx0 x1 x2 (h:true=true)=>Eq.refl ((false,eval (Expr.Subscript x0 x1 x2) env)::starEach es env)) (λx0 x1 (h:false=true)=>ff h) (λx0 x1 (h:true=true)=>Eq.refl ((false,eval (Expr.Name x0 x1) env)::starEach es env)) (λx0 x1 (h:true=true)=>Eq.refl ((false,eval (Expr.List x0 x1) env)::starEach es env)) (λx0 x1 x2 (h:true=true)=>Eq.refl ((false,eval (Expr.Tuple x0 x1 x2) env)::starEach es env)) (λx0 x1 x2 x3 (h:true=true)=>Eq.refl ((false,eval (Expr.Slice x0 x1 x2 x3) env)::starEach es env))) h
theorem i5{t:Option Expr}{l:Nat}{env:Env}{e:Expr}(h:fj e=true):swapsWith e t l env=pure false:=(Expr.casesOn (motive_1:=λe=>fj e=true->swapsWith e t l env=pure false) e (λx0 x1 x2 (h:true=true)=>Eq.refl (pure false:Sem Bool)) (λx0 x1 x2 (h:true=true)=>Eq.refl (pure false:Sem Bool)) (λx0 x1 x2 x3 (h:true=true)=>Eq.refl (pure false:Sem Bool)) (λx0 x1 x2 (h:true=true)=>Eq.refl (pure false:Sem Bool)) (λx0 x1 x2 x3 (h:true=true)=>Eq.refl (pure false:Sem Bool)) (λx0 x1 x2 x3 (h:true=true)=>Eq.refl (pure false:Sem Bool)) (λx0 x1 x2 (h:true=true)=>Eq.refl (pure false:Sem Bool)) (λx0 x1 x2 (h:true=true)=>Eq.refl (pure false:Sem Bool)) (λx0 x1 x2 x3 (h:false=true)=>ff h) (λx0 x1 x2 x3 (h:false=true)=>ff h) (λx0 x1 x2 x3 x4 (h:false=true)=>ff h) (λx0 x1 x2 x3 (h:true=true)=>Eq.refl (pure false:Sem Bool)) (λx0 x1 (h:true=true)=>Eq.refl (pure false:Sem Bool)) (λx0 x1 (h:true=true)=>Eq.refl (pure false:Sem Bool)) (λx0 x1 (h:true=true)=>Eq.refl (pure false:Sem Bool)) (λx0 x1 x2 x3 (h:true=true)=>Eq.refl (pure false:Sem Bool)) (λx0 x1 x2 x3 (h:true=true)=>Eq.refl (pure false:Sem Bool)) (λx0 x1 x2 x3 (h:true=true)=>Eq.refl (pure false:Sem Bool)) (λx0 x1 (h:true=true)=>Eq.refl (pure false:Sem Bool)) (λx0 x1 x2 (h:true=true)=>Eq.refl (pure false:Sem Bool)) (λx0 x1 x2 (h:true=true)=>Eq.refl (pure false:Sem Bool)) (λx0 x1 x2 (h:true=true)=>Eq.refl (pure false:Sem Bool)) (λx0 x1 (h:true=true)=>Eq.refl (pure false:Sem Bool)) (λx0 x1 (h:true=true)=>Eq.refl (pure false:Sem Bool)) (λx0 x1 (h:true=true)=>Eq.refl (pure false:Sem Bool)) (λx0 x1 x2 (h:true=true)=>Eq.refl (pure false:Sem Bool)) (λx0 x1 x2 x3 (h:true=true)=>Eq.refl (pure false:Sem Bool))) h
theorem Ga{op:CmpOp}{e:Expr}(h:Dk e=true):behindInMarks op e=false:=(Expr.casesOn (motive_1:=λe=>Dk e=true->behindInMarks op e=false) e (λx0 x1 x2 (h:true=true)=>Eq.refl false) (λx0 x1 x2 (h:true=true)=>Eq.refl false) (λx0 x1 x2 x3 (h:true=true)=>Eq.refl false) (λx0 x1 x2 (h:true=true)=>Eq.refl false) (λx0 x1 x2 x3 (h:true=true)=>Eq.refl false) (λx0 x1 x2 x3 (h:true=true)=>Eq.refl false) (λx0 x1 x2 (h:true=true)=>Eq.refl false) (λx0 x1 x2 (h:false=true)=>ff h) (λx0 x1 x2 x3 (h:true=true)=>Eq.refl false) (λx0 x1 x2 x3 (h:true=true)=>Eq.refl false) (λx0 x1 x2 x3 x4 (h:true=true)=>Eq.refl false) (λx0 x1 x2 x3 (h:true=true)=>Eq.refl false) (λx0 x1 (h:true=true)=>Eq.refl false) (λx0 x1 (h:true=true)=>Eq.refl false) (λx0 x1 (h:true=true)=>Eq.refl false) (λx0 x1 x2 x3 (h:true=true)=>Eq.refl false) (λx0 x1 x2 x3 (h:true=true)=>Eq.refl false) (λx0 x1 x2 x3 (h:true=true)=>Eq.refl false) (λx0 x1 (h:true=true)=>Eq.refl false) (λx0 x1 x2 (h:true=true)=>Eq.refl false) (λx0 x1 x2 (h:true=true)=>Eq.refl false) (λx0 x1 x2 (h:true=true)=>Eq.refl false) (λx0 x1 (h:true=true)=>Eq.refl false) (λx0 x1 (h:true=true)=>Eq.refl false) (λx0 x1 (h:true=true)=>Eq.refl false) (λx0 x1 x2 (h:true=true)=>Eq.refl false) (λx0 x1 x2 x3 (h:true=true)=>Eq.refl false)) h
theorem Ad{env:Env}{x:Value}{e:Expr}(h:Dk e=true):foldedSetIterable e env x=pure x:=(Expr.casesOn (motive_1:=λe=>Dk e=true->foldedSetIterable e env x=pure x) e (λx0 x1 x2 (h:true=true)=>Eq.refl (pure x:Sem Value)) (λx0 x1 x2 (h:true=true)=>Eq.refl (pure x:Sem Value)) (λx0 x1 x2 x3 (h:true=true)=>Eq.refl (pure x:Sem Value)) (λx0 x1 x2 (h:true=true)=>Eq.refl (pure x:Sem Value)) (λx0 x1 x2 x3 (h:true=true)=>Eq.refl (pure x:Sem Value)) (λx0 x1 x2 x3 (h:true=true)=>Eq.refl (pure x:Sem Value)) (λx0 x1 x2 (h:true=true)=>Eq.refl (pure x:Sem Value)) (λx0 x1 x2 (h:false=true)=>ff h) (λx0 x1 x2 x3 (h:true=true)=>Eq.refl (pure x:Sem Value)) (λx0 x1 x2 x3 (h:true=true)=>Eq.refl (pure x:Sem Value)) (λx0 x1 x2 x3 x4 (h:true=true)=>Eq.refl (pure x:Sem Value)) (λx0 x1 x2 x3 (h:true=true)=>Eq.refl (pure x:Sem Value)) (λx0 x1 (h:true=true)=>Eq.refl (pure x:Sem Value)) (λx0 x1 (h:true=true)=>Eq.refl (pure x:Sem Value)) (λx0 x1 (h:true=true)=>Eq.refl (pure x:Sem Value)) (λx0 x1 x2 x3 (h:true=true)=>Eq.refl (pure x:Sem Value)) (λx0 x1 x2 x3 (h:true=true)=>Eq.refl (pure x:Sem Value)) (λx0 x1 x2 x3 (h:true=true)=>Eq.refl (pure x:Sem Value)) (λx0 x1 (h:true=true)=>Eq.refl (pure x:Sem Value)) (λx0 x1 x2 (h:true=true)=>Eq.refl (pure x:Sem Value)) (λx0 x1 x2 (h:true=true)=>Eq.refl (pure x:Sem Value)) (λx0 x1 x2 (h:true=true)=>Eq.refl (pure x:Sem Value)) (λx0 x1 (h:true=true)=>Eq.refl (pure x:Sem Value)) (λx0 x1 (h:true=true)=>Eq.refl (pure x:Sem Value)) (λx0 x1 (h:true=true)=>Eq.refl (pure x:Sem Value)) (λx0 x1 x2 (h:true=true)=>Eq.refl (pure x:Sem Value)) (λx0 x1 x2 x3 (h:true=true)=>Eq.refl (pure x:Sem Value))) h
theorem ntup_sw{ts:List Expr}{k:Nat}{p:Pos}{env:Env}{e:Expr}(h:ntup e=true):swappedStores [.Tuple ts k p] e env=pure none:=(Expr.casesOn (motive_1:=λe=>ntup e=true->swappedStores [.Tuple ts k p] e env=pure none) e (λx0 x1 x2 (h:true=true)=>Eq.refl (pure none:Sem (Option (List Str)))) (λx0 x1 x2 (h:true=true)=>Eq.refl (pure none:Sem (Option (List Str)))) (λx0 x1 x2 x3 (h:true=true)=>Eq.refl (pure none:Sem (Option (List Str)))) (λx0 x1 x2 (h:true=true)=>Eq.refl (pure none:Sem (Option (List Str)))) (λx0 x1 x2 x3 (h:true=true)=>Eq.refl (pure none:Sem (Option (List Str)))) (λx0 x1 x2 x3 (h:true=true)=>Eq.refl (pure none:Sem (Option (List Str)))) (λx0 x1 x2 (h:true=true)=>Eq.refl (pure none:Sem (Option (List Str)))) (λx0 x1 x2 (h:true=true)=>Eq.refl (pure none:Sem (Option (List Str)))) (λx0 x1 x2 x3 (h:true=true)=>Eq.refl (pure none:Sem (Option (List Str)))) (λx0 x1 x2 x3 (h:true=true)=>Eq.refl (pure none:Sem (Option (List Str)))) (λx0 x1 x2 x3 x4 (h:true=true)=>Eq.refl (pure none:Sem (Option (List Str)))) (λx0 x1 x2 x3 (h:true=true)=>Eq.refl (pure none:Sem (Option (List Str)))) (λx0 x1 (h:true=true)=>Eq.refl (pure none:Sem (Option (List Str)))) (λx0 x1 (h:true=true)=>Eq.refl (pure none:Sem (Option (List Str)))) (λx0 x1 (h:true=true)=>Eq.refl (pure none:Sem (Option (List Str)))) (λx0 x1 x2 x3 (h:true=true)=>Eq.refl (pure none:Sem (Option (List Str)))) (λx0 x1 x2 x3 (h:true=true)=>Eq.refl (pure none:Sem (Option (List Str)))) (λx0 x1 x2 x3 (h:true=true)=>Eq.refl (pure none:Sem (Option (List Str)))) (λx0 x1 (h:true=true)=>Eq.refl (pure none:Sem (Option (List Str)))) (λx0 x1 x2 (h:true=true)=>Eq.refl (pure none:Sem (Option (List Str)))) (λx0 x1 x2 (h:true=true)=>Eq.refl (pure none:Sem (Option (List Str)))) (λx0 x1 x2 (h:true=true)=>Eq.refl (pure none:Sem (Option (List Str)))) (λx0 x1 (h:true=true)=>Eq.refl (pure none:Sem (Option (List Str)))) (λx0 x1 (h:true=true)=>Eq.refl (pure none:Sem (Option (List Str)))) (λx0 x1 (h:true=true)=>Eq.refl (pure none:Sem (Option (List Str)))) (λx0 x1 x2 (h:false=true)=>ff h) (λx0 x1 x2 x3 (h:true=true)=>Eq.refl (pure none:Sem (Option (List Str))))) h
theorem rh{x:Str}{env:Env}{w:Sem Value}{e:Expr}(h:nsup e=true):attributeBase e x env w=w:=(Expr.casesOn (motive_1:=λe=>nsup e=true->attributeBase e x env w=w) e (λx0 x1 x2 (h:true=true)=>Eq.refl w) (λx0 x1 x2 (h:true=true)=>Eq.refl w) (λx0 x1 x2 x3 (h:true=true)=>Eq.refl w) (λx0 x1 x2 (h:true=true)=>Eq.refl w) (λx0 x1 x2 x3 (h:true=true)=>Eq.refl w) (λx0 x1 x2 x3 (h:true=true)=>Eq.refl w) (λx0 x1 x2 (h:true=true)=>Eq.refl w) (λx0 x1 x2 (h:true=true)=>Eq.refl w) (λx0 x1 x2 x3 (h:true=true)=>Eq.refl w) (λx0 x1 x2 x3 (h:true=true)=>Eq.refl w) (λx0 x1 x2 x3 x4 (h:true=true)=>Eq.refl w) (λx0 x1 x2 x3 (h:true=true)=>Eq.refl w) (λx0 x1 (h:true=true)=>Eq.refl w) (λx0 x1 (h:true=true)=>Eq.refl w) (λx0 x1 (h:true=true)=>Eq.refl w) (λx0 x1 x2 x3 (h:true=true)=>Eq.refl w) (λx0 x1 x2 x3 (h:false=true)=>ff h) (λx0 x1 x2 x3 (h:true=true)=>Eq.refl w) (λx0 x1 (h:true=true)=>Eq.refl w) (λx0 x1 x2 (h:true=true)=>Eq.refl w) (λx0 x1 x2 (h:true=true)=>Eq.refl w) (λx0 x1 x2 (h:true=true)=>Eq.refl w) (λx0 x1 (h:true=true)=>Eq.refl w) (λx0 x1 (h:true=true)=>Eq.refl w) (λx0 x1 (h:true=true)=>Eq.refl w) (λx0 x1 x2 (h:true=true)=>Eq.refl w) (λx0 x1 x2 x3 (h:true=true)=>Eq.refl w)) h
theorem Id{e:Expr}(h:Ae e=true):starB e=false:=(Expr.casesOn (motive_1:=λe=>Ae e=true->starB e=false) e (λx0 x1 x2 (h:true=true)=>Eq.refl false) (λx0 x1 x2 (h:true=true)=>Eq.refl false) (λx0 x1 x2 x3 (h:true=true)=>Eq.refl false) (λx0 x1 x2 (h:true=true)=>Eq.refl false) (λx0 x1 x2 x3 (h:true=true)=>Eq.refl false) (λx0 x1 x2 x3 (h:true=true)=>Eq.refl false) (λx0 x1 x2 (h:true=true)=>Eq.refl false) (λx0 x1 x2 (h:true=true)=>Eq.refl false) (λx0 x1 x2 x3 (h:true=true)=>Eq.refl false) (λx0 x1 x2 x3 (h:true=true)=>Eq.refl false) (λx0 x1 x2 x3 x4 (h:true=true)=>Eq.refl false) (λx0 x1 x2 x3 (h:true=true)=>Eq.refl false) (λx0 x1 (h:true=true)=>Eq.refl false) (λx0 x1 (h:true=true)=>Eq.refl false) (λx0 x1 (h:true=true)=>Eq.refl false) (λx0 x1 x2 x3 (h:true=true)=>Eq.refl false) (λx0 x1 x2 x3 (h:true=true)=>Eq.refl false) (λx0 x1 x2 x3 (h:true=true)=>Eq.refl false) (λx0 x1 (h:true=true)=>Eq.refl false) (λx0 x1 x2 (h:true=true)=>Eq.refl false) (λx0 x1 x2 (h:true=true)=>Eq.refl false) (λx0 x1 x2 (h:true=true)=>Eq.refl false) (λx0 x1 (h:false=true)=>ff h) (λx0 x1 (h:true=true)=>Eq.refl false) (λx0 x1 (h:true=true)=>Eq.refl false) (λx0 x1 x2 (h:true=true)=>Eq.refl false) (λx0 x1 x2 x3 (h:true=true)=>Eq.refl false)) h
noncomputable def nmF(env:Env)(l:Nat)(e:Expr):Option Str:=swappedStores.match_8 (λx=>Option Str) e (λid pos=>if(env.kindOf id==some .local&&pos.line==l)=true then some id else none) λx=>none
@[elab_as_elim] theorem nmF_of{env:Env}{l:Nat}{e:Expr}{Q:Expr->Prop}(h:(nmF env l e).isSome=true)(k:∀id pos,(if(env.kindOf id==some .local&&pos.line==l)=true then some id else none).isSome=true->Q (.Name id pos)):Q e:=(Expr.casesOn (motive_1:=λe=>(nmF env l e).isSome=true->Q e) e (λx0 x1 x2 (h:false=true)=>ff h) (λx0 x1 x2 (h:false=true)=>ff h) (λx0 x1 x2 x3 (h:false=true)=>ff h) (λx0 x1 x2 (h:false=true)=>ff h) (λx0 x1 x2 x3 (h:false=true)=>ff h) (λx0 x1 x2 x3 (h:false=true)=>ff h) (λx0 x1 x2 (h:false=true)=>ff h) (λx0 x1 x2 (h:false=true)=>ff h) (λx0 x1 x2 x3 (h:false=true)=>ff h) (λx0 x1 x2 x3 (h:false=true)=>ff h) (λx0 x1 x2 x3 x4 (h:false=true)=>ff h) (λx0 x1 x2 x3 (h:false=true)=>ff h) (λx0 x1 (h:false=true)=>ff h) (λx0 x1 (h:false=true)=>ff h) (λx0 x1 (h:false=true)=>ff h) (λx0 x1 x2 x3 (h:false=true)=>ff h) (λx0 x1 x2 x3 (h:false=true)=>ff h) (λx0 x1 x2 x3 (h:false=true)=>ff h) (λx0 x1 (h:false=true)=>ff h) (λx0 x1 x2 (h:false=true)=>ff h) (λx0 x1 x2 (h:false=true)=>ff h) (λx0 x1 x2 (h:false=true)=>ff h) (λx0 x1 (h:false=true)=>ff h) (λx0 x1 h=>k x0 x1 h) (λx0 x1 (h:false=true)=>ff h) (λx0 x1 x2 (h:false=true)=>ff h) (λx0 x1 x2 x3 (h:false=true)=>ff h)) h
structure Ck where
 e:Scope->Expr->Bool
 l:Scope->List Expr->Bool
 t:Scope->Expr->Bool
 o:Scope->Expr->Bool
 c:Scope->Expr->Bool
 p:Scope->List (Option Expr)->List Expr->Bool
 b:Scope->List Stmt->Bool
 z:Bool
noncomputable def Ck.F:Ck:=⟨λs e=>false,λs e=>false,λs e=>false,λs e=>false,λs e=>false,λs k e=>false,λs e=>false,false⟩
noncomputable def Ck.E(f:Scope->Expr->Bool):Ck:={Ck.F with e:=f}
noncomputable def Ck.O(f:Scope->Expr->Bool):Ck:={Ck.F with o:=f}
noncomputable def Ck.T(f:Scope->Expr->Bool):Ck:={Ck.F with t:=f}
noncomputable def Ck.B(f:Scope->List Stmt->Bool):Ck:={Ck.F with b:=f}
noncomputable def O2.op:O2->Operator
 | .add=> .Add
 | .sub=> .Sub
 | .mul=> .Mult
 | .mod=> .Mod
 | .fdiv=> .FloorDiv
noncomputable def C2.op:C2->CmpOp
 | .eq=> .Eq
 | .ne=> .NotEq
 | .lt=> .Lt
 | .le=> .LtE
 | .gt=> .Gt
 | .ge=> .GtE
 | .isin=> .In
 | .notin=> .NotIn
 | .isv=> .Is
 | .isnot=> .IsNot
noncomputable def BF.nm:BF->Str
 | .len=>S "len"
 | .sorted=>S "sorted"
 | .list=>S "list"
 | .tuple=>S "tuple"
 | .range=>S "range"
 | .min=>S "min"
 | .max=>S "max"
 | .int=>S "int"
noncomputable def LM.nm:LM->Str
 | .append=>S "append"
 | .extend=>S "extend"
 | .pop=>S "pop"
 | .get=>S "get"
noncomputable def isGI(k:Option NameKind):Bool:=decide (k=some .globalImplicit)
noncomputable def eqc(c:Const)(d:PyData):Bool:=match d with
 | .none=>decide (c= .none)
 | .bool b=>decide (c= .bool b)
 | .int i=>decide (c= .int i)
 | .str s=>decide (c= .str s)&&PyData.strOk s
 |_=>false
noncomputable def Ms(outer inner:Scope):Scope:={inner with names:=inner.names.map λ(n,k)=>if(k== .free&&outer.kind== .function&&outer.names.lookup n==some .cell) then(n,.cell) else(n,k)}
noncomputable def scOK(outer inner:Scope):Bool:=decide (inner.kind= .function)&&inner.names.all λy=>decide (y.2≠ .cell)&&(decide (y.2≠ .local)||decide (inner.names.lookup y.1=some .local))&&(decide (y.2≠ .free)||decide (outer.names.lookup y.1=some .cell))
noncomputable def D2(m:Ck)(s:Scope):List Expr->Bool
 |[]=>m.z
 |[e]=> !m.z&&m.t s e
 |_=>false
noncomputable def nmE(s:Scope)(vs:List Str)(i:Nat)(e:Expr):Bool:=g9 (λx p=>decide (x=vn vs i)&&ul (s.names.lookup x)&&decide (x≠S "__debug__")&&decide (x≠S "__classdict__")) e
noncomputable def nmT(s:Scope)(vs:List Str)(i:Nat)(e:Expr):Bool:=g9 (λx p=>decide (x=vn vs i)&&cj (s.names.lookup x)) e
noncomputable def Gl(s:Scope)(vs:List Str)(is:List Nat)(ts:List Expr):Bool:=match is,ts with
 |[],[]=>true
 |i::is,t::ts=>nmT s vs i t&&Gl s vs is ts
 |_,_=>false
noncomputable def lcl(s:Scope)(n:Nat)(t:Expr):Bool:=g9 (λx p=>decide (s.names.lookup x=some .local)&&p.line==n) t
noncomputable def swp(s:Scope)(ts es:List Expr):Bool:=(ts.length==2||ts.length==3)&&es.length==ts.length&&es.all Ae&&(ts.all (lcl s ((ts.head?.map (·.pos.line)).getD 0)))&& !es.all (foldedForSure 8)&& !es.all (constantsAlone 8)
noncomputable def nswp(s:Scope)(ts es:List Expr):Bool:= !(ts.all (lcl s ((ts.head?.map (·.pos.line)).getD 0)))&&es.all Ae
noncomputable def gl(s:Scope)(x:Str)(f:Expr)(es:List Expr):Bool:=g9 (λy p=>decide (y=x)&&isGI (s.names.lookup x)&&decide (x≠S "__debug__")&&es.all Ae) f
noncomputable def mt(x:Str)(f:Expr)(es:List Expr)(pos:Pos)(k:Expr->Bool):Bool:=ft (λo y ap=>decide (y=x)&&nsup o&&es.all Ae&&ap.endLine==pos.line&&Nat.blt es.length 30&&k o) f
noncomputable def Hh(k:Expr->List Expr->Pos->Bool):Expr->Bool:=Em λx es ks pos=>ks.isEmpty&&k x es pos
noncomputable def st1(w:(List Stmt->Bool)->Stmt->Bool)(k:List Stmt->Bool)(ss:List Stmt):Bool:=match ss with
 |s::r=>w k s&&k r
 |[]=>false
noncomputable def hd(w:Stmt->Bool)(k:List Stmt->Bool)(ss:List Stmt):Bool:=match ss with
 |s::ss=>w s&&k ss
 |[]=>false
noncomputable def v8(k:Expr->Bool):List Expr->Bool
 |[t]=>k t
 |_=>false
noncomputable def tw(k:Expr->Expr->Pos->Bool):Stmt->Bool:=C7 λts e pos=>v8 (λt=>k t e pos) ts
noncomputable def tgE(s:Scope)(vs:List Str)(one:Bool)(is:List Nat)(t:Expr):Bool:=match one with
 |true=>(match is with
  |[i]=>nmT s vs i t
  |_=>false)
 |false=>gk (λts k p=>Gl s vs is ts) t
noncomputable def forC(vs:List Str)(is:List Nat)(one:Bool)(it body:Ck)(s:Scope):Stmt->Bool:=wFor λt iter bd oe p=>tgE s vs one is t&&Dk iter&&oe.isEmpty&&it.e s iter&&body.b s bd
noncomputable def v6(vs:List Str)(s:Scope)(y:Nat)(elt it ifs:Ck)(fv:List Nat):Expr->Bool:=o7 λel gs sc p=>match gs with
 |[⟨t,iter,fs,k⟩]=>decide (k=0)&&g9 (λx q=>decide (x=vn vs y)) t&&scOK s sc&&decide (sc.names.lookup (vn vs y)=some .local)&&Dk iter&&it.e s iter&&elt.e (Ms s sc) el&&D2 ifs (Ms s sc) fs&&fv.all λi=>decide (i≠y)&&decide ((Ms s sc).names.lookup (vn vs i)≠some .local)
 |_=>false
noncomputable def swc(s:Scope)(x:Str)(p:Pos):Expr->Bool:=o7 λel gs sc q=>(s.names.lookup x==some .local)&&p.line==q.line&& !(sc.names.any λ(n,k)=>n==x&&(k== .local||k== .cell))
noncomputable def cmpE(op:C2)(m v:Ck)(s:Scope):Expr->Bool:=vh λl os rs p=>match os,rs with
 |[o],[r]=>decide (o=op.op)&&Dk r&&m.e s l&&v.e s r
 |_,_=>false
noncomputable def slE(up:Bool)(m v:Ck)(s:Scope):Expr->Bool:=bb λo i p=>Gs (λa b c q=>match up with
 |true=>a.isNone&&c.isNone&&b.any (v.e s)&&m.e s o
 |false=>a.isNone&&b.isNone&&c.any (v.e s)&&m.e s o) i
noncomputable def boE(O:BoolOp)(m v:Ck)(s:Scope):Expr->Bool:=pt λo es p=>match es with
 |[a,b]=>decide (o=O)&&m.t s a&&v.t s b
 |_=>false
noncomputable def dcE(m:Ck)(s:Scope):Expr->Bool:=L8 λks es p=>ks.all (·.isSome)&&(ks.length==es.length)&&Nat.blt 0 ks.length&&Nat.ble ks.length 15&&m.p s ks es
noncomputable def d0:Scope->Expr->Bool:=λs=>L8 λks es p=>ks.isEmpty&&es.isEmpty
noncomputable def tupP(k:List Expr->List Expr->Bool)(t e:Expr):Bool:=gk (λts n p=>gk (λes m q=>k ts es) e) t
noncomputable def F9(vs:List Str)(s:Scope)(y i:Nat)(t:Expr):Bool:=ft (λo x p=>nmE s vs y o&&decide (x=an i)&&decide (i<30)) t
noncomputable def isCl(s:Scope)(x:Str):Bool:=decide (s.names.lookup x=some .cell)
noncomputable def binE(op:O2)(m v:Ck)(s:Scope):Expr->Bool:=Gp λl o r p=>decide (o=op.op)&&m.e s l&&v.e s r
noncomputable def cnm:Tg->Str
 | .house=>S "Congruence"
 |_=>S "Bank"
noncomputable def ak(vs:List Str):M->Ck
 | .var i=> .E λs=>nmE s vs i
 | .con d=> .E λs=>i7 λc k p=>eqc c d
 | .glo k=> .E λs=>g9 λx p=>decide (x=(pg.gd k).1)&&isGI (s.names.lookup x)&&decide (x≠S "__debug__")&&decide (k<5)
 | .att m i=> .E λs=>ft λo x p=>decide (x=an i)&&decide (i<30)&&nsup o&&(ak vs m).e s o
 | .sub m v=> .E λs=>bb λo i p=>nsl i&&(ak vs m).e s o&&(ak vs v).e s i
 | .bin op m v=>{Ck.F with e:=binE op (ak vs m) (ak vs v),o:=binE op (ak vs m) (ak vs v)}
 | .cmp op m v=>{Ck.F with e:=cmpE op (ak vs m) (ak vs v),t:=cmpE op (ak vs m) (ak vs v)}
 | .neg m=> .E λs=>pw λo x p=>decide (o= .USub)&&(ak vs m).e s x
 | .andv m v=> .E λs=>pt λo es p=>match es with
   |e1::e2::rest=>decide (o= .And)&&(ak vs m).e s e1&&(ak vs v).e s (.BoolOp .And (e2::rest) p)
   |_=>false
 | .one m=> .E λs=>pt λo es p=>v8 ((ak vs m).e s) es
 | .ite t m v=> .E λs=>Gq λx a b p=>(ak vs t).t s x&&(ak vs m).e s a&&(ak vs v).e s b
 | .tup m=> .E λs=>gk λes k p=>(ak vs m).l s es
 | .lst m=>{Ck.F with
   e:=λs=>L9 λes p=>(ak vs m).l s es
   o:=λs=>L9 λes p=>(ak vs m).l s es}
 | .nil=>{Ck.F with
   l:=λs es=>es.isEmpty
   p:=λs ks es=>ks.isEmpty&&es.isEmpty
   b:=λs ss=>ss.isEmpty
   z:=true}
 | .cons m v=>{Ck.F with l:=λs es=>match es with
   |e::es=>Ae e&&(ak vs m).e s e&&(ak vs v).l s es
   |_=>false}
 | .pr k m v=>{Ck.F with p:=λs ks es=>match ks,es with
   |some x::ks,e::es=>(ak vs k).e s x&&(ak vs m).e s e&&(ak vs v).p s ks es
   |_,_=>false}
 | .blt f m=> .E λs=>Hh λx es p=>gl s f.nm x es&&(ak vs m).l s es
 | .isl m=> .E λs=>Hh λx es p=>match es with
   |[a,y]=>gl s (S "isinstance") x [a,y]&&gl s (S "list") y []&&(ak vs m).e s a
   |_=>false
 | .lset m=> .E λs=>Hh λx es p=>v8 (λy=>gl s (S "len") x [y]&&Hh (λx es p=>v8 (λa=>gl s (S "set") x [a]&&(ak vs m).e s a) es) y) es
 | .srt m=> .E λs=>Hh λx es p=>v8 (λa=>gl s (S "sorted") x [a]&&(ak vs m).e s a) es
 | .srs m=> .E λs=>Hh λx es p=>v8 (λy=>gl s (S "sorted") x [y]&&Hh (λx es p=>v8 (λa=>gl s (S "set") x [a]&&(ak vs m).e s a) es) y) es
 | .zip m v=> .E λs=>Hh λx es p=>v8 (λy=>gl s (S "list") x [y]&&Hh (λx es p=>match es with
   |[a,b]=>gl s (S "zip") x [a,b]&&((ak vs m).e s a&&(ak vs v).e s b)
   |_=>false) y) es
 | .new τ id m=> .E λs=>Hh λx es p=>gl s (cnm τ) x es&&(ak vs m).l s es
 | .setd y x τ m k=> .B λs=>hd (tw λt e p=>bb (λo i q=>nmE s vs y o&&i7 (λc k p=>eqc c (.str x)) i) t&&(ak vs m).o s e) ((ak vs k).b s)
 | .fn id m=> .E λs=>Hh λx es p=>decide (72<=id)&&decide (id<84)&&gl s (pg.nm id) x es&&(ak vs m).l s es
 | .met o id m=> .E λs=>Hh λx es pos=>mt (pg.nm id) x es pos λe=>(ak vs o).e s e&&(ak vs m).l s es
 | .lm o f m=> .E λs=>Hh λx es pos=>mt f.nm x es pos λe=>(ak vs o).e s e&&(ak vs m).l s es
 | .own τ m=> .E (ak vs m).o
 | .slu m v=>{Ck.F with e:=slE true (ak vs m) (ak vs v),o:=slE true (ak vs m) (ak vs v)}
 | .slr m v=> .E (slE false (ak vs m) (ak vs v))
 | .comp elt y it ifs fv=>{Ck.F with
   e:=λs=>v6 vs s y (ak vs elt) (ak vs it) (ak vs ifs) fv
   o:=λs=>v6 vs s y (ak vs elt) (ak vs it) (ak vs ifs) fv
   c:=λs=>v6 vs s y (ak vs elt) (ak vs it) (ak vs ifs) fv}
 | .dI=> .O d0
 | .dL=> .O d0
 | .dT=> .O d0
 | .dS m=> .O (dcE (ak vs m))
 | .dN m=> .O (dcE (ak vs m))
 | .fz m=> .E (ak vs m).e
 | .val m=> .T λs e=>(g9 (λx p=>true) e||Em (λx y z p=>true) e)&&(ak vs m).e s e
 | .not m=> .T λs=>pw λo x p=>decide (o= .Not)&&(ak vs m).t s x
 | .and m v=> .T (boE .And (ak vs m) (ak vs v))
 | .or m v=> .T (boE .Or (ak vs m) (ak vs v))
 | .ex m k=> .B λs=>hd (Ld λe p=>fj e&&(ak vs m).e s e) ((ak vs k).b s)
 | .set i m k=> .B λs=>hd (tw λt e p=>nmT s vs i t&&(fj e||isCl s (vn vs i))&&(ak vs m).e s e) ((ak vs k).b s)
 | .sett is m k=> .B λs=>hd (tw λt e p=>fj e&&ntup e&&tgE s vs false is t&&(ak vs m).e s e) ((ak vs k).b s)
 | .sets is m k=> .B λs=>hd (tw λt e p=>tupP (λts es=>Gl s vs is ts&&swp s ts es&&(is.map (vn vs)).eraseDups.length==is.length&&(ak vs m).l s es) t e) ((ak vs k).b s)
 | .setm is m k=> .B λs=>hd (tw λt e p=>tupP (λts es=>Gl s vs is ts&&nswp s ts es&&(ak vs m).l s es) t e) ((ak vs k).b s)
 | .setc i m k=> .B λs=>hd (tw λt e p=>g9 (λx q=>decide (x=vn vs i)&&swc s x q e) t&&(ak vs m).c s e) ((ak vs k).b s)
 | .setw i τ m k=> .B λs=>hd (tw λt e p=>g9 (λx q=>decide (x=vn vs i)&&swc s x q e) t&&(ak vs m).c s e) ((ak vs k).b s)
 | .seta y i m k=> .B λs=>hd (tw λt e p=>F9 vs s y i t&&(ak vs m).e s e) ((ak vs k).b s)
 | .setq y i τ m k=> .B λs=>hd (tw λt e p=>F9 vs s y i t&&fj e&&(ak vs m).o s e) ((ak vs k).b s)
 | .seti m v w k=> .B λs=>hd (tw λt e p=>bb (λo i q=>(ak vs v).e s o&&(ak vs w).e s i) t&&fj e&&(ak vs m).e s e) ((ak vs k).b s)
 | .setl y i j κ m k=> .B λs=>hd (tw λt e p=>bb (λo x q=>F9 vs s y i o&&nmE s vs j x) t&&fj e&&(ak vs m).o s e) ((ak vs k).b s)
 | .del m v k=> .B λs=>hd (tq λts p=>v8 (bb λo i q=>(ak vs m).e s o&&(ak vs v).e s i) ts) ((ak vs k).b s)
 | .ifs t m v k=> .B λs=>hd (wIf λx a b p=>(ak vs t).t s x&&(ak vs m).b s a&&(ak vs v).b s b) ((ak vs k).b s)
 | .fori z is one it body keep k=> .B λs=>hd (forC vs is one (ak vs it) (ak vs body) s) ((ak vs k).b s)
 | .forh i it body keep k=> .B λs=>hd (wFor λt iter bd oe p=>oe.isEmpty&&nmT s vs i t&&gk (λes k p=>(ak vs it).l s es) iter&&(ak vs body).b s bd) ((ak vs k).b s)
 | .whl t body keep k=> .B λs=>hd (C9 λx bd oe p=>oe.isEmpty&&(ak vs t).t s x&&(ak vs body).b s bd) ((ak vs k).b s)
 | .ret m=> .B λs=>hd (o8 λe p=>e.any ((ak vs m).e s)) λss=>true
 | .ret0=> .B λs=>hd (o8 λe p=>e.isNone) λss=>true
 | .bad=> .B λs ss=>true
 | .rel i k=> .B (ak vs k).b
section
variable{P:Prg}{vs:List Str}{c c':IC}{u:Mo}{τ τ':Tg}{o o':AObj}{a b r v:AV}{i j k:Nat}{ρ:List (Nat×AV)}{σ:Tg->Option AObj}
theorem a9{a b:Bool}(h:(a&&b)=true):a=true/\b=true:=(jp a b).mp h
theorem ae{α:Type}{x:Option α}{Q:α->Prop}(h:rd x Q):∃a,x=some a/\Q a:=by
 cases x with
 |none=>exact h.elim
 |some a=>exact⟨a,rfl,h⟩
theorem am{b:Bool}{Q:Prop}(h:ck b Q):b=true/\Q:=by
 cases b with
 |false=>exact h.elim
 |true=>exact⟨rfl,h⟩
theorem ty{b:Bool}{Q R:Prop}(h:br b Q R):(b=true/\Q)\/(b=false/\R):=by
 cases b with
 |false=>exact .inr ⟨rfl,h⟩
 |true=>exact .inl ⟨rfl,h⟩
theorem ay{α:Type}{x:Option α}{Q:α->Prop}{R:Prop}(h:i9 x Q R):(∃a,x=some a/\Q a)\/(x=none/\R):=by
 cases x with
 |none=>exact .inr ⟨rfl,h⟩
 |some a=>exact .inl ⟨a,rfl,h⟩
theorem bp{α:Type}{x:α}{Q:Prop}(h:none=some x):Q:=(by nomatch h)
theorem ij{a:AV}{i:PyData}(h:AV.dat? a=some i):a= .dat i:=(AV.casesOn (motive:=λz=>AV.dat? z=some i->z= .dat i) a (λx0 h=>cGx AV.dat (sJx h)) (λx0 h=>bp h) (λx0 h=>bp h) (λx0 x1 x2 h=>bp h) (λx0 h=>bp h) (λx0 h=>bp h)) h
theorem fp{a:AV}{i:Tg}(h:AV.obj? a=some i):a= .obj i:=(AV.casesOn (motive:=λz=>AV.obj? z=some i->z= .obj i) a (λx0 h=>bp h) (λx0 h=>cGx AV.obj (sJx h)) (λx0 h=>bp h) (λx0 x1 x2 h=>bp h) (λx0 h=>bp h) (λx0 h=>bp h)) h
theorem rng_eq{a:AV}{i:Int}(h:AV.rng? a=some i):a= .range i:=(AV.casesOn (motive:=λz=>AV.rng? z=some i->z= .range i) a (λx0 h=>bp h) (λx0 h=>bp h) (λx0 h=>cGx AV.range (sJx h)) (λx0 x1 x2 h=>bp h) (λx0 h=>bp h) (λx0 h=>bp h)) h
theorem tm{d:PyData}{i:Int}(h:Dy d=some i):d= .int i:=(PyData.casesOn (motive_1:=λz=>Dy z=some i->z= .int i) d (λh=>bp h) (λx0 h=>bp h) (λx0 h=>cGx PyData.int (sJx h)) (λx0 h=>bp h) (λx0 h=>bp h) (λx0 h=>bp h) (λx0 h=>bp h)) h
theorem Ij{d:PyData}{i:Str}(h:pstr d=some i):d= .str i:=(PyData.casesOn (motive_1:=λz=>pstr z=some i->z= .str i) d (λh=>bp h) (λx0 h=>bp h) (λx0 h=>bp h) (λx0 h=>cGx PyData.str (sJx h)) (λx0 h=>bp h) (λx0 h=>bp h) (λx0 h=>bp h)) h
theorem pbool_eq{d:PyData}{i:Bool}(h:pbool d=some i):d= .bool i:=(PyData.casesOn (motive_1:=λz=>pbool z=some i->z= .bool i) d (λh=>bp h) (λx0 h=>cGx PyData.bool (sJx h)) (λx0 h=>bp h) (λx0 h=>bp h) (λx0 h=>bp h) (λx0 h=>bp h) (λx0 h=>bp h)) h
theorem Ik{d:PyData}{i:List PyData}(h:ptup d=some i):d= .tuple i:=(PyData.casesOn (motive_1:=λz=>ptup z=some i->z= .tuple i) d (λh=>bp h) (λx0 h=>bp h) (λx0 h=>bp h) (λx0 h=>bp h) (λx0 h=>bp h) (λx0 h=>cGx PyData.tuple (sJx h)) (λx0 h=>bp h)) h
theorem plst_eq{d:PyData}{i:List PyData}(h:plst d=some i):d= .list i:=(PyData.casesOn (motive_1:=λz=>plst z=some i->z= .list i) d (λh=>bp h) (λx0 h=>bp h) (λx0 h=>bp h) (λx0 h=>bp h) (λx0 h=>cGx PyData.list (sJx h)) (λx0 h=>bp h) (λx0 h=>bp h)) h
theorem uw{o:AObj}{i:Bool×List AV}(h:AObj.ls? o=some i):o= .list i.1 i.2:=(AObj.casesOn (motive:=λz=>AObj.ls? z=some i->z= .list i.1 i.2) o (λx0 x1 h=>cGx (λp=>AObj.list p.1 p.2) (sJx h)) (λx0 x1 h=>bp h) (λx0 x1 h=>bp h) (λx0 h=>bp h) (λx0 h=>bp h) (λx0 x1 h=>bp h)) h
theorem sd{o:AObj}{i:Bool×(Int->Option AV)}(h:AObj.dI? o=some i):o= .dictI i.1 i.2:=(AObj.casesOn (motive:=λz=>AObj.dI? z=some i->z= .dictI i.1 i.2) o (λx0 x1 h=>bp h) (λx0 x1 h=>cGx (λp=>AObj.dictI p.1 p.2) (sJx h)) (λx0 x1 h=>bp h) (λx0 h=>bp h) (λx0 h=>bp h) (λx0 x1 h=>bp h)) h
theorem oa{o:AObj}{i:Bool×List (Int×AV)}(h:AObj.dL? o=some i):o= .dictL i.1 i.2:=(AObj.casesOn (motive:=λz=>AObj.dL? z=some i->z= .dictL i.1 i.2) o (λx0 x1 h=>bp h) (λx0 x1 h=>bp h) (λx0 x1 h=>cGx (λp=>AObj.dictL p.1 p.2) (sJx h)) (λx0 h=>bp h) (λx0 h=>bp h) (λx0 x1 h=>bp h)) h
theorem Hi{o:AObj}{i:List KI->Option AV}(h:AObj.dT? o=some i):o= .dictT i:=(AObj.casesOn (motive:=λz=>AObj.dT? z=some i->z= .dictT i) o (λx0 x1 h=>bp h) (λx0 x1 h=>bp h) (λx0 x1 h=>bp h) (λx0 h=>cGx AObj.dictT (sJx h)) (λx0 h=>bp h) (λx0 x1 h=>bp h)) h
theorem dS_eq{o:AObj}{i:Str->Option AV}(h:AObj.dS? o=some i):o= .dictS i:=(AObj.casesOn (motive:=λz=>AObj.dS? z=some i->z= .dictS i) o (λx0 x1 h=>bp h) (λx0 x1 h=>bp h) (λx0 x1 h=>bp h) (λx0 h=>bp h) (λx0 h=>cGx AObj.dictS (sJx h)) (λx0 x1 h=>bp h)) h
theorem I3{o:AObj}{i:Nat×List (Nat×AV)}(h:AObj.in? o=some i):o= .inst i.1 i.2:=(AObj.casesOn (motive:=λz=>AObj.in? z=some i->z= .inst i.1 i.2) o (λx0 x1 h=>bp h) (λx0 x1 h=>bp h) (λx0 x1 h=>bp h) (λx0 h=>bp h) (λx0 h=>bp h) (λx0 x1 h=>cGx (λp=>AObj.inst p.1 p.2) (sJx h))) h
section
variable{d:PyData}
theorem none_eq(h:isNone d=true):d= .none:=by
 cases d with
 |none=>rfl
 |_=>cases h
end
theorem Ch{α:Type}{f:PyData->Option α}{g:α->PyData}(hf:∀d x,f d=some x->d=g x){x:α}(h:a.dat?.bind f=some x):a= .dat (g x):=
 (Option.bind_eq_some_iff.mp h).elim λd z=>(ij z.1).trans (cGx AV.dat (hf d x z.2))
theorem bj{i:Int}(h:a.int?=some i):a= .dat (.int i):=Ch (λ_ _=>tm) h
theorem Gk{i:Str}(h:a.str?=some i):a= .dat (.str i):=Ch (λ_ _=>Ij) h
theorem t5{i:Bool}(h:a.bool?=some i):a= .dat (.bool i):=Ch (λ_ _=>pbool_eq) h
theorem gi{i:List PyData}(h:a.tup?=some i):a= .dat (.tuple i):=Ch (λ_ _=>Ik) h
theorem oy{i:List PyData}(h:a.lst?=some i):a= .dat (.list i):=Ch (λ_ _=>plst_eq) h
theorem vg{Q:Int->Int->Prop}(h:two a b Q):∃i j,a= .dat (.int i)/\b= .dat (.int j)/\Q i j:=
 (ae h).elim λi h=>(ae h.2).elim λj q=>⟨i,j,bj h.1,bj q.1,q.2⟩
theorem t6{as:List AV}{Q:List PyData->Prop}(h:Cn as Q):∃ds,as=ds.map .dat/\Q ds:=by
 induction as generalizing Q with
 |nil=>exact⟨[],rfl,h⟩
 |cons a as ih=>exact(ae h).elim λd h=>(ih h.2).elim λds q=>⟨d::ds,yc.mpr ⟨ij h.1,q.1⟩,q.2⟩
structure VOK(vs:List Str):Prop where
 nd:vs.Nodup
 sm:∀s∈vs,∀k,s≠⟨#[1114112+k]⟩
theorem Gu(V:VOK vs)(e:vn vs i=vn vs j):i=j:=by
 unfold vn at e
 cases hi:vs[i]? with
 |none=>cases hj:vs[j]? with
  |none=>
   rw [hi,hj] at e
   have e:=cGx (λs:Str=>s.cps[0]?) e
   exact yi (sJx e)
  |some s=>rw [hi,hj] at e;exact absurd e.symm (V.sm s (xp hj) i)
 |some s=>cases hj:vs[j]? with
  |none=>rw [hi,hj] at e;exact absurd e (V.sm s (xp hi) j)
  |some t=>
   rw [hi,hj] at e
   obtain⟨li,hi⟩:=xh.mp hi
   obtain⟨lj,hj⟩:=xh.mp hj
   exact(List.getElem_inj V.nd).mp (hi.trans (Eq.trans e hj.symm))
theorem so(V:VOK vs):(te vs ρ).lookup (vn vs i)=ρ.lookup i:=by
 unfold te
 induction ρ with
 |nil=>rfl
 |cons p r ih=>
  rw [jz,kf,kf,ih]
  by_cases q:i=p.1
  ·rw [q,beq_self_eq_true,beq_self_eq_true]
  ·rw [beq_false_of_ne q,beq_false_of_ne λe=>q (Gu V e)]
theorem v5(V:VOK vs):aq (te vs ρ) (vn vs i) a=te vs (aq ρ i a):=by
 unfold te
 induction ρ with
 |nil=>rfl
 |cons p r ih=>
  rw [jz]
  unfold aq
  by_cases q:p.1=i
  ·rw [if_pos q,if_pos (cGx (vn vs) q)];rfl
  ·rw [if_neg q,if_neg λe=>q (Gu V e),ih];rfl
theorem Ia{x:Str}(h:(te vs ρ).lookup x=some v):∃p∈ρ,x=vn vs p.1/\p.2=v:=by
 unfold te at h
 induction ρ with
 |nil=>cases h
 |cons p r ih=>
  rw [jz,kf] at h
  split at h
  ·rename_i e;exact⟨p,.head _,eq_of_beq e,sJx h⟩
  ·exact(ih h).imp λq z=>⟨.tail _ z.1,z.2⟩
theorem v4{p:AV->Bool}{U:Tg->Prop}(h:(ρ.all λq=>p q.2)=true)(hp:∀v,p v=true->v.keeps U){x:Str}(e:(te vs ρ).lookup x=some v):v.keeps U:=
 (Ia e).elim λq z=>z.2.2▸hp _ (qf.mp h q z.1)
theorem keep_at{is:List Nat}{p:Nat×AV}(h:p∈gy is ρ):p.1∈is/\ρ.lookup p.1=some p.2:=by
 obtain⟨i,m,e⟩:=List.mem_filterMap.mp h
 obtain⟨a,e,q⟩:=Option.map_eq_some_iff.mp e
 exact q▸⟨m,e⟩
theorem uq(V:VOK vs){is:List Nat}{x:Str}(h:(te vs (gy is ρ)).lookup x=some v):(te vs ρ).lookup x=some v/\∃i∈is,x=vn vs i:=by
 obtain⟨p,m,e,q⟩:=Ia h
 obtain⟨z,y⟩:=keep_at m
 exact⟨by rw [e,so V,y,q],p.1,z,e⟩
theorem Gn(h:τ.ti=none):τ.isTmp=false:=by
 unfold Tg.ti at h
 cases q:τ.isTmp with
 |false=>rfl
 |true=>rw [q] at h;cases h
theorem Ai{k:Nat}(h:τ.ti=some k):τ= .tmp k:=by
 unfold Tg.ti at h
 cases q:τ.isTmp with
 |false=>rw [q] at h;cases h
 |true=>rw [q] at h;exact(Tg.tmp_eq q).trans (cGx Tg.tmp (sJx h))
variable{t:List (Nat×AObj)}{B B':Tg->Option AObj}
theorem d3(h:τ.ti=none):g7 t B τ=B τ:=by unfold g7;rw [h]
theorem ly(h:τ.ti=some k):g7 t B τ=t.lookup k:=by unfold g7;rw [h]
theorem bz(h:τ.ti=none):g7 t (up B τ o)=up (g7 t B) τ o:=funext λτ'=>by
 by_cases e:τ'=τ
 ·rw [e,ba,d3 h,ba]
 ·rw [bc e]
  cases q:τ'.ti with
  |none=>rw [d3 q,d3 q,bc e]
  |some k=>rw [ly q,ly q]
theorem mix_rset:g7 (aq t k o) B=up (g7 t B) (.tmp k) o:=funext λτ'=>by
 by_cases e:τ'= .tmp k
 ·rw [e,ba];exact pe
 ·rw [bc e]
  cases q:τ'.ti with
  |none=>rw [d3 q,d3 q]
  |some j=>rw [ly q,ly q];exact ew λz=>e (z▸Ai q)
theorem uz:uh Tg.isTmp (g7 t B)=g7 [] B:=funext λτ=>by
 cases q:τ.ti with
 |none=>rw [d3 q,Bb (Gn q),d3 q]
 |some k=>rw [Ai q];rfl
theorem Ac:merge Tg.isTmp (g7 t B) (g7 [] B')=g7 t B':=funext λτ=>by
 cases q:τ.ti with
 |none=>rw [p9 (Gn q),d3 q,d3 q]
 |some k=>rw [Ai q];rfl
theorem put_of{K:IC->Prop}(h:put c τ o K):∃c':IC,c'.σ=up c.σ τ o/\c'.ρ=c.ρ/\K c':=by
 unfold put at h
 cases q:τ.ti with
 |none=>rw [q] at h;exact h.elim λb h=>⟨⟨c.ρ,c.t,b⟩,(cGx (g7 c.t) h.1.symm).trans (bz q),rfl,h.2⟩
 |some k=>rw [q] at h;exact⟨⟨c.ρ,aq c.t k o,c.b⟩,Ai q▸mix_rset,rfl,h⟩
theorem o6{p:Tg->Bool}{U:Tg->Prop}(hp:∀t,p t=true->U t)(h:onT p a=true):a.keeps U:=by
 cases a with
 |obj t=>exact hp t h
 |_=>trivial
theorem mi{b:Bool}(h:(!b)=true):b=false:=(yj b).mp h
theorem lx{t:Tg}(h:hb τ t=true):τ.isTmp=false/\t.isTmp=false/\t≠τ/\ui t=some τ:=
 have h1:=a9 h
 have h2:=a9 h1.2
 have h3:=a9 h2.2
 ⟨mi h1.1,mi h2.1,of_decide_eq_false (mi h3.1),oDx h3.2⟩
theorem gu{τ:Tg}(h:hk τ a=true):a.keeps λt=>hb τ t=true:=o6 (λ_ h=>h) h
theorem ed{τ:Tg}(h:nt τ a=true):a.keeps (·≠τ):=o6 (λ_ h=>of_decide_eq_false (mi h)) h
theorem Ma(h:kpn a=true):a.keeps λτ=>τ.isTmp=false:=o6 (λ_ h=>mi h) h
theorem kpU_of{md:Md}(h:kpU md a=true):a.keeps λt=>md.u t=true\/t.isTmp=true:=o6 (λ_ h=>(qi _ _).mp h) h
theorem Az{β:Type}{l:List β}{f:β->PyData}{U:Tg->Prop}:∀y∈l.map λx=>AV.dat (f x),y.keeps U:=λy m=>(jf.mp m).elim λd e=>e.2▸(trivial:(AV.dat (f d)).keeps U)
theorem Ay{ds:List PyData}{U:Tg->Prop}:∀y∈ds.map AV.dat,y.keeps U:=Az
theorem uf(h:fw τ o)(hi:iq o=false)(hd:gv τ=false):Fit P τ o:=
 ⟨h,λD as e=>(by rw [e] at hi;cases hi),λκ f e=>(by rw [e] at hd;cases hd)⟩
theorem Inv.up{σ:Tg->Option AObj}(h:Inv P σ)(f:Fit P τ o):Inv P (up σ τ o):=λτ' o' e=>(i6 e).elim (λz=>z.1▸z.2▸f) λz=>h τ' o' z.2
theorem Inv.wf(h:Inv P σ):Wf Tg.isTmp σ where
 tmp:=λτ o q e=>AObj.keeps_mono (λt y=>absurd ((lx y).1.symm.trans q) jx) (h τ o e).hold
 old:=λτ o e=>AObj.keeps_mono (λt y=>(lx y).2.1) (h τ o e).hold
theorem si(e:g7 [] B τ=some o):τ.isTmp=false:=by
 cases q:τ.ti with
 |none=>exact Gn q
 |some k=>rw [ly q] at e;cases e
theorem Be(h:Inv P (g7 t B)):Inv P (g7 [] B):=λτ o e=>h τ o (by
 cases q:τ.ti with
 |none=>rw [d3 q] at e⊢;exact e
 |some k=>rw [ly q] at e;cases e)
theorem Aa(h:Inv P (g7 t B))(h':Inv P (g7 [] B')):Inv P (g7 t B'):=λτ o e=>by
 cases q:τ.ti with
 |none=>rw [d3 q] at e;exact h' τ o (by rw [d3 q];exact e)
 |some k=>rw [ly q] at e;exact h τ o (by rw [ly q];exact e)
theorem aw{t:Tg}(h:um u t):um (hold a u) t:=by
 cases a with
 |obj τ=>exact h.imp id (.tail _)
 |_=>exact h
theorem al:a.keeps (um (hold a u)):=by
 cases a with
 |obj τ=>exact .inr (.head _)
 |_=>trivial
theorem po{t:Tg}(h:um u t):um (bq ρ u) t:=by
 unfold bq
 induction ρ with
 |nil=>exact h
 |cons p r ih=>exact aw ih
theorem D7:∀p∈ρ,p.2.keeps (um (bq ρ u)):=by
 unfold bq
 induction ρ with
 |nil=>exactλp m=>(by nomatch m)
 |cons p r ih=>exactλq m=>(jh.mp m).elim (λe=>e▸al) λm=>AV.keeps_mono (λ_=>aw) (ih q m)
theorem keeps_foldr{as:List AV}:(∀t,um u t->um (as.foldr hold u) t)/\∀a∈as,a.keeps (um (as.foldr hold u)):=by
 induction as with
 |nil=>exact⟨λ_ h=>h,λa m=>(by nomatch m)⟩
 |cons a as ih=>exact⟨λt h=>aw (ih.1 t h),λq m=>(jh.mp m).elim (λe=>e▸al) λm=>AV.keeps_mono (λ_=>aw) (ih.2 q m)⟩
theorem Af(h:nu u τ=true):¬um u τ:=λq=>by
 unfold nu at h
 obtain⟨h1,h2⟩:=a9 h
 exact q.elim (λq=>by rw [q] at h1;cases h1) λq=>by rw [List.contains_iff_mem.mpr q] at h2;cases h2
theorem Fq{t:Tg}(h:Md.ini.u t=true):t.stable=true:=by
 cases t with
 |ls k _=>cases k<;>cases h
 |_=>first|rfl|cases h
theorem Bs{t:Tg}:Md.all.u t=true\/t.isTmp=true:=by
 cases h:t.isTmp with
 |true=>exact .inr rfl
 |false=>exact .inl (cGx (!·) h)
theorem leU_of{md:Md}(h:leU u md=true){t:Tg}(q:um u t):md.u t=true\/t.isTmp=true:=by
 obtain⟨h1,h2⟩:=a9 h
 refine q.elim (λq=> ?_) λq=>(qi _ _).mp (qf.mp h2 t q)
 obtain⟨m,l⟩:=u
 have h1:m.le md=true:=h1
 have q:m.u t=true:=q
 cases m with
 |all=>cases md with
  |all=>exact Bs
  |_=>cases h1
 |st=>cases md with
  |all=>exact Bs
  |st=>exact .inl q
  |_=>cases h1
 |s2=>cases md with
  |all=>exact Bs
  |st=>exact .inl (by show(t.stable||t.isByr)=true;rw [show t.stable=true from q];rfl)
  |s2=>exact .inl q
  |_=>cases h1
 |ini=>
  have z:=Fq q
  cases md with
  |all=>exact Bs
  |st=>exact .inl (by show(t.stable||t.isByr)=true;rw [z];rfl)
  |s2=>exact .inl z
  |ini=>exact .inl q
  |top=>cases h1
 |top=>cases q
variable{W:Wd}{n:Nat}{F:Fm}{X:Cx}{U:Tg->Prop}{d e:PyData}{G:Gh}{h:Heap}
theorem uy{Q:List AV->Prop}(h:lsv c a Q):∃vs,Ls c.σ a vs/\Q vs:=(ay h).elim
 (λh=>h.elim λτ h=>(ae h.2).elim λo q=>(ae q.2).elim λp z=>⟨p.2,.inr ⟨τ,p.1,fp h.1,q.1.trans (cGx some (uw z.1))⟩,z.2⟩)
 λh=>(ae h.2).elim λds q=>⟨_,.inl ⟨ds,oy q.1,rfl⟩,q.2⟩
theorem iw{Q:List PyData->Prop}(h:lsd c a Q):∃ds,Ls c.σ a (ds.map .dat)/\Q ds:=(ay h).elim
 (λh=>h.elim λτ h=>(ae h.2).elim λo q=>(ae q.2).elim λp z=>z.2.elim λds w=>⟨ds,.inr ⟨τ,p.1,fp h.1,w.1▸q.1.trans (cGx some (uw z.1))⟩,w.2⟩)
 λh=>(ae h.2).elim λds q=>⟨ds,.inl ⟨ds,oy q.1,rfl⟩,q.2⟩
theorem Fx{Q:List Int->Prop}(h:lsi c a Q):∃ns,Ls c.σ a ((zs ns).map .dat)/\Q ns:=(iw h).elim λds h=>h.2.elim λns q=>⟨ns,q.1▸h.1,q.2⟩
theorem fld_of{Q:AV->Prop}(h:fld c a i Q):∃τ D as v,a= .obj τ/\c.σ τ=some (.inst D as)/\as.lookup i=some v/\Q v:=
 (ae h).elim λτ h=>(ae h.2).elim λo q=>(ae q.2).elim λp z=>(ae z.2).elim λv w=>⟨τ,p.1,p.2,v,fp h.1,q.1.trans (cGx some (I3 z.1)),w.1,w.2⟩
theorem ix_map{k:Int}{ds:List PyData}{d:PyData}(h:ao k ds=some d):ao k (ds.map AV.dat)=some (.dat d):=by
 unfold ao at h⊢
 rw [jw,jw,jb]
 split at h
 ·rename_i z;rw [if_pos z,h];rfl
 ·rename_i z
  rw [if_neg z]
  split at h
  ·rename_i y;rw [if_pos y,h];rfl
  ·cases h
theorem seq_ix{k:Int}{n:Nat}(h0:0<=k)(hn:k.toNat<n):seqIndex? k n=some k.toNat:=by
 unfold seqIndex?
 rw [if_neg (Int.not_lt.mpr h0)]
 exact if_pos (by rw [jp];exact⟨dTx h0,dTx ((Int.toNat_lt h0).mp hn)⟩)
inductive RSb(X:Cx)(a b:AV)(Q:AV->Prop):Prop
 |mk (v:AV) (O:∀F U oe ie,nsl ie=true->mf F U X (subscriptTail oe ie) a b v X) (q:Q v)
theorem subs_of{Q:AV->Prop}(h:subs c a b Q):RSb (c.cx vs) a b Q:=(ay h).elim
 (λh=>h.elim λk h=>bj h.1▸(ay h.2).elim
  (λh=>h.elim λτ h=>fp h.1▸(ae h.2).elim λo q=>(ay q.2).elim
   (λh=>h.elim λp h=>(ae h.2).elim λv z=>⟨v,λF U oe ie hs=>o_ix (.inr ⟨τ,p.1,rfl,q.1.trans (cGx some (uw h.1))⟩) z.1 z.2.1 λa k t=>o5 hs,z.2.2⟩)
   λh=>(ay h.2).elim (λh=>h.elim λp h=>(ae h.2).elim λv z=>⟨v,λF U oe ie hs=>o_dget q.1 ((cGx ug (sd h.1)).trans rfl) z.1 λa k t=>o5 hs,z.2⟩)
    λh=>(ae h.2).elim λp h=>(ae h.2).elim λv z=>⟨v,λF U oe ie hs=>o_dget q.1 ((cGx ug (oa h.1)).trans rfl) z.1 λa k t=>o5 hs,z.2⟩)
  λh=>(ay h.2).elim
   (λh=>h.elim λds h=>oy h.1▸(ae h.2).elim λd z=>⟨.dat d,λF U oe ie hs=>o_ix (.inl ⟨ds,rfl,rfl⟩) (ix_map z.1) (ja (jd (jb _)) z.2.1) λa k t=>o5 hs,z.2.2⟩)
   λh=>(ae h.2).elim λds h=>gi h.1▸(ae (am h.2).2).elim λd z=>
    have q:=a9 (am h.2).1
    have h0:0<=k:=oDx q.1
    ⟨.dat d,λF U oe ie hs=>o_ix_tup (seq_ix h0 (kg (xh.mp z.1).1 (jd (jb _).symm))) (by rw [jw,z.1];rfl) ⟨Int.le_trans (by decide) h0,oDx q.2⟩ λa k t=>o5 hs,z.2⟩)
 λh=>(ae h.2).elim λs h=>Gk h.1▸(ae h.2).elim λτ h=>fp h.1▸(ae h.2).elim λo q=>(ae q.2).elim λf h=>(ae h.2).elim λv z=>⟨v,λF U oe ie hs=>o_sget (q.1.trans (cGx some (dS_eq h.1))) z.1 λa k t=>o5 hs,z.2⟩
inductive RD(X:Cx)(f:Value->Value->Sem Value)(a b:AV)(Q:PyData->Prop):Prop
 |mk (d:PyData) (O:∀F U,mf F U X f a b (.dat d) X) (q:Q d)
theorem L5{f:Value->Value->Sem Value}{g:Int->Int->PyData}{R:Int->Int->Prop}{Q:PyData->Prop}(h:two a b λi j=>R i j/\Q (g i j))(O:∀F U i j,R i j->mf F U X f (.dat (.int i)) (.dat (.int j)) (.dat (g i j)) X):RD X f a b Q:=
 (vg h).elim λi h=>h.elim λj h=>⟨g i j,λF U=>h.1▸h.2.1▸O F U i j h.2.2.1,h.2.2.2⟩
theorem two_r{Q:Int->Int->Prop}(h:two a b Q):two a b λi j=>True/\Q i j:=by
 obtain⟨i,j,rfl,rfl,q⟩:=vg h
 exact⟨trivial,q⟩
theorem badd_of{Q:PyData->Prop}(h:badd c a b Q):RD (c.cx vs) (binaryOp .Add) a b Q:=(ay h).elim
 (λh=>h.elim λi h=>(ae h.2).elim λj q=>⟨_,λF U=>bj h.1▸bj q.1▸o_add,q.2⟩)
 λh=>(ay h.2).elim (λh=>h.elim λds h=>(ae h.2).elim λes q=>⟨_,λF U=>gi h.1▸gi q.1▸Ml q.2.1.1 q.2.1.2 q.2.2.1,q.2.2.2⟩)
  λh=>(iw h.2).elim λds h=>(iw h.2).elim λes q=>⟨_,λF U=>Gb h.1 q.1 q.2.1,q.2.2⟩
theorem bop_of{op:O2}{Q:PyData->Prop}(h:bop op c a b Q):RD (c.cx vs) (binaryOp op.op) a b Q:=by
 cases op with
 |add=>exact badd_of h
 |sub=>exact L5 (two_r h) λF U i j _=>o_sub
 |mul=>exact L5 h λF U i j q=>o_mul q
 |mod=>exact L5 h λF U i j q=>o_mod q
 |fdiv=>exact L5 h λF U i j q=>o_div q.1 q.2
inductive RBo(X:Cx)(f:Value->Value->Sem Value)(a b:AV)(Q:Bool->Prop):Prop
 |mk (t:Bool) (O:∀F U,mf F U X f a b (.dat (.bool t)) X) (q:Q t)
theorem Fg:Cc d e=PyData.eqv d e:=by
 unfold Cc
 cases h:Dy d with
 |none=>rfl
 |some i=>
  cases q:Dy e with
  |none=>rfl
  |some j=>
   rw [tm h,tm q]
   show decide (i=j)=PyData.eqv (.int i) (.int j)
   unfold PyData.eqv;rfl
theorem dv_of{Q:PyData->Prop}(h:dv c a Q):∃d,Dv c.σ a d/\Q d:=(ay h).elim (λh=>h.elim λd h=>⟨d,.inl (ij h.1),h.2⟩) λh=>(iw h.2).elim λds q=>⟨_,.inr ⟨ds,rfl,q.1⟩,q.2⟩
theorem eqs_of{Q:Bool->Prop}(h:eqs c a b Q):∃d e,Dv c.σ a d/\Dv c.σ b e/\lay d=true/\lay e=true/\Q (PyData.eqv d e):=
 (dv_of h).elim λd h=>(dv_of h.2).elim λe q=>have z:=a9 (am q.2).1;⟨d,e,h.1,q.1,z.1,z.2,Fg▸(am q.2).2⟩
theorem Iz{f:Value->Value->Sem Value}{g:Int->Int->Bool}{Q:Bool->Prop}(h:two a b λi j=>Q (g i j))(O:∀F U i j,mf F U X f (.dat (.int i)) (.dat (.int j)) (.dat (.bool (g i j))) X):RBo X f a b Q:=
 (vg h).elim λi h=>h.elim λj h=>⟨g i j,λF U=>h.1▸h.2.1▸O F U i j,h.2.2⟩
theorem SR.nmod2(S:SR W σ G h)(e:σ τ=some o)(ad:o.ad (G.μ τ) (G.μ τ)):(G.μ τ==sysModules)=false:=by
 cases w:o.wr with
 |true=>exact S.nmod e (.inl w) ad
 |false=>exact(S.frz τ o _ e w ad).elim λob z=>S.nmod e (.inr (S.zst _ _ _ z)) ad
theorem inb_of{Q:Bool->Prop}(h:inb c a b Q):∃t,(∀F U,mf F U (c.cx vs) (compareOp .In) a b (.dat (.bool t)) (c.cx vs))/\(∀F U,mf F U (c.cx vs) (compareOp .NotIn) a b (.dat (.bool (!t))) (c.cx vs))/\Q t:=(ay h).elim
 (λh=>h.elim λτ h=>fp h.1▸(ae h.2).elim λo q=>(ay q.2).elim
  (λh=>h.elim λp h=>(ae h.2).elim λe z=>ij z.1▸z.2.elim λds w=>have y:=a9 (am w.2).1;have l:Ls (c.cx vs).σ (.obj τ) (ds.map .dat):= .inr ⟨τ,p.1,rfl,w.1▸q.1.trans (cGx some (uw h.1))⟩;⟨_,λF U=>o_in y.1 y.2 l,λF U=>Ig y.1 y.2 l,(am w.2).2⟩)
  λh=>(ay h.2).elim
   (λh=>h.elim λp h=>(ae h.2).elim λk z=>bj z.1▸⟨_,λF U=>o_din (c:=c.cx vs) q.1 ((cGx ug (sd h.1)).trans rfl) λG g S=>S.nmod2 q.1 (sd h.1▸rfl),λF U=>Dm (c:=c.cx vs) q.1 ((cGx ug (sd h.1)).trans rfl) λG g S=>S.nmod2 q.1 (sd h.1▸rfl),z.2⟩)
   λh=>(ae h.2).elim λp h=>(ae h.2).elim λk z=>bj z.1▸⟨_,λF U=>o_din (c:=c.cx vs) q.1 ((cGx ug (oa h.1)).trans rfl) λG g S=>S.nmod2 q.1 (oa h.1▸rfl),λF U=>Dm (c:=c.cx vs) q.1 ((cGx ug (oa h.1)).trans rfl) λG g S=>S.nmod2 q.1 (oa h.1▸rfl),z.2⟩)
 λh=>(ae h.2).elim λe h=>ij h.1▸(ay h.2).elim
  (λh=>h.elim λds h=>oy h.1▸have y:=a9 (am h.2).1;⟨_,λF U=>o_in y.1 y.2 (.inl ⟨ds,rfl,rfl⟩),λF U=>Ig y.1 y.2 (.inl ⟨ds,rfl,rfl⟩),(am h.2).2⟩)
  λh=>(ae h.2).elim λds h=>gi h.1▸have y:=a9 (am h.2).1;⟨_,λF U=>o_in_tup y.1 y.2,λF U=>Dr y.1 y.2,(am h.2).2⟩
theorem isb_of{Q:Bool->Prop}(h:isb a b Q):∃d,a= .dat d/\b= .dat .none/\Q (isNone d):=
 (ae h).elim λe h=>(ae (am h.2).2).elim λd q=>⟨d,ij q.1,(ij h.1).trans (cGx AV.dat (none_eq (am h.2).1)),q.2⟩
theorem cop_of{op:C2}{Q:Bool->Prop}(h:cop op c a b Q):RBo (c.cx vs) (compareOp op.op) a b Q:=by
 cases op with
 |eq=>exact(eqs_of h).elim λd z=>z.elim λe z=>⟨_,λF U=>o_eq z.2.2.1 z.2.2.2.1 z.1 z.2.1,z.2.2.2.2⟩
 |ne=>exact(eqs_of (Q:=λt=>Q (!t)) h).elim λd z=>z.elim λe z=>⟨_,λF U=>o_ne z.2.2.1 z.2.2.2.1 z.1 z.2.1,z.2.2.2.2⟩
 |lt=>exact Iz h λF U i j=>o_lt
 |le=>exact Iz h λF U i j=>o_le
 |gt=>exact Iz h λF U i j=>o_gt
 |ge=>exact Iz h λF U i j=>o_ge
 |isin=>obtain⟨t,h1,h2,q⟩:=inb_of h;exact⟨_,h1,q⟩
 |notin=>obtain⟨t,h1,h2,q⟩:=inb_of (Q:=λt=>Q (!t)) h;exact⟨_,h2,q⟩
 |isv=>obtain⟨d,rfl,rfl,q⟩:=isb_of h;exact⟨_,λF U=>o_is,q⟩
 |isnot=>obtain⟨d,rfl,rfl,q⟩:=isb_of (Q:=λt=>Q (!t)) h;exact⟨_,λF U=>o_isNot,q⟩
end
section
variable{P:Prg}{n i j k:Nat}{nm:List Str}{c c':IC}{τ:Tg}{o o':AObj}{a b r v:AV}{as vs:List AV}{F:Fm}{X:Cx}{U:Tg->Prop}{d e:PyData}{h:Heap}{σ:Tg->Option AObj}
theorem s8{Q:AV->Prop}(h:a1 vs Q):∃a,vs=[a]/\Q a:=by
 cases vs with
 |nil=>exact h.elim
 |cons a as=>cases as with
  |nil=>exact⟨a,rfl,h⟩
  |cons b bs=>exact h.elim
theorem a2_of{Q:AV->AV->Prop}(h:a2 vs Q):∃a b,vs=[a,b]/\Q a b:=by
 cases vs with
 |nil=>exact h.elim
 |cons a as=>cases as with
  |nil=>exact h.elim
  |cons b bs=>cases bs with
   |nil=>exact⟨a,b,rfl,h⟩
   |cons d ds=>exact h.elim
theorem a12_of{Q:AV->Prop}{R:AV->AV->Prop}(h:a12 vs Q R):(∃a,vs=[a]/\Q a)\/∃a b,vs=[a,b]/\R a b:=by
 cases vs with
 |nil=>exact h.elim
 |cons a as=>cases as with
  |nil=>exact .inl ⟨a,rfl,h⟩
  |cons b bs=>cases bs with
   |nil=>exact .inr ⟨a,b,rfl,h⟩
   |cons d ds=>exact h.elim
noncomputable def BF.val:BF->Value
 | .len=> .builtin "len"
 | .sorted=> .builtin "sorted"
 | .list=> .type "list"
 | .tuple=> .type "tuple"
 | .range=> .type "range"
 | .min=> .builtin "min"
 | .max=> .builtin "max"
 | .int=> .type "int"
inductive R1(nm:List Str)(c:IC)(f:Value)(vs:List AV)(Q:AV->Prop):Prop
 |mk (v:AV) (O:∀F U,OpL F U (c.cx nm) (λxs=>call f xs []) vs v (c.cx nm)) (q:Q v)
theorem G6{ds:List PyData}{n:Nat}(h:ds.length<=n):(ds.map AV.dat).length<=n:=ja (jd (jb _)) h
theorem blen_of{Q:AV->Prop}(h:blen c a Q):R1 nm c (.builtin "len") [a] Q:=(ay h).elim
 (λh=>h.elim λds h=>⟨_,λF U=>oy h.1▸jb (as:=ds) AV.dat▸o_len (c:=c.cx nm) (.inl ⟨ds,rfl,rfl⟩) (G6 h.2.1),h.2.2⟩)
 λh=>(uy h.2).elim λvs q=>⟨_,λF U=>o_len q.1 q.2.1,q.2.2⟩
theorem blist_of{Q:AV->Prop}(h:blist c a Q):R1 nm c (.type "list") [a] Q:=(ay h).elim
 (λh=>h.elim λk h=>⟨_,λF U=>rng_eq h.1▸Bu h.2.1.1 h.2.1.2,h.2.2⟩)
 λh=>(ay h.2).elim
  (λh=>h.elim λτ h=>(ae h.2).elim λo q=>(ay q.2).elim
   (λw=>w.elim λp w=>have z:=am w.2;⟨_,λF U=>fp h.1▸Dq (c:=c.cx nm) (q.1.trans ((cGx some (oa w.1)).trans (z.1▸rfl))) z.2.1,z.2.2⟩)
   λw=>(ae w.2).elim λp w=>w.2.elim λds z=>⟨_,λF U=>o_list (c:=c.cx nm) (.inr ⟨τ,p.1,fp h.1,z.1▸q.1.trans (cGx some (uw w.1))⟩) z.2.1,z.2.2⟩)
  λh=>(ae h.2).elim λds h=>⟨_,λF U=>o_list (c:=c.cx nm) (.inl ⟨ds,oy h.1,rfl⟩) h.2.1,h.2.2⟩
theorem btup_of{Q:AV->Prop}(h:btup c a Q):R1 nm c (.type "tuple") [a] Q:=(ay h).elim
 (λh=>h.elim λds h=>⟨.dat (.tuple ds),λF U=>by rw [gi h.1];exact vx,h.2⟩)
 λh=>(iw h.2).elim λds q=>⟨_,λF U=>o_tuple q.1 q.2.1,q.2.2⟩
theorem bsem_of{f:BF}{Q:AV->Prop}(h:bsem f c vs Q):R1 nm c f.val vs Q:=by
 cases f with
 |len=>obtain⟨a,rfl,h⟩:=s8 h;exact blen_of h
 |sorted=>obtain⟨a,rfl,h⟩:=s8 h;obtain⟨ns,l,z,q⟩:=Fx h;exact⟨_,λF U=>o_sorted l z,q⟩
 |list=>obtain⟨a,rfl,h⟩:=s8 h;exact blist_of h
 |tuple=>obtain⟨a,rfl,h⟩:=s8 h;exact btup_of h
 |range=>obtain⟨a,rfl,h⟩:=s8 h;obtain⟨i,e,q⟩:=ae h;exact⟨_,λF U=>bj e▸o_range,q⟩
 |min=>obtain⟨a,b,rfl,h⟩:=a2_of h;obtain⟨i,j,rfl,rfl,q⟩:=vg h;exact⟨_,λF U=>o_min,q⟩
 |max=>obtain⟨a,b,rfl,h⟩:=a2_of h;obtain⟨i,j,rfl,rfl,q⟩:=vg h;exact⟨_,λF U=>o_max,q⟩
 |int=>obtain⟨a,rfl,h⟩:=s8 h;obtain⟨i,e,q⟩:=ae h;exact⟨.dat (.int i),λF U=>by rw [bj e];exact o_int,q⟩
inductive RU(P:Prg)(nm:List Str)(c:IC)(R:Cx->Prop)(K:IC->Prop):Prop
 |mk (c':IC) (E:R (c'.cx nm)) (i:Inv P c'.σ) (r:c'.ρ=c.ρ) (k:K c')
theorem d6{K:IC->Prop}{R:Cx->Prop}(h:put c τ o K)(I:Inv P c.σ)(f:Fit P τ o)(E:R ⟨(c.cx nm).ρ,up (c.cx nm).σ τ o⟩):RU P nm c R K:=
 (put_of h).elim λc' q=>⟨c',(show(c'.cx nm)=⟨(c.cx nm).ρ,up (c.cx nm).σ τ o⟩ by unfold IC.cx;rw [q.1,q.2.1])▸E,q.1▸I.up f,q.2.1,q.2.2⟩
theorem gq(f:Fit P τ o)(h:fw τ o')(hc:∀D as,o'= .inst D as->∃as',o= .inst D as')(hd:gv τ=false\/∀f',o'= .dictI true f'->∃f,o= .dictI true f/\∀j v,f' j=some v->f j=some v):Fit P τ o':=
 ⟨h,λD as e=>(hc D as e).elim λas' e=>f.cls D as' e,λκ f' e e'=>hd.elim (λhd=>by rw [e] at hd;cases hd) λhd=>(hd f' e').elim λg z=>λj v q=>f.dct κ g e z.1 j v (z.2 j v q)⟩
section
variable{K':Type}[DecidableEq K']{f:K'->Option AV}{x:K'}{U:Tg->Prop}
theorem dq(h:∀k v,f k=some v->v.keeps U)(ha:a.keeps U):∀k v,a6 f x a k=some v->v.keeps U:=λk v e=>by
 unfold a6 at e
 split at e
 ·exact sJx e▸ha
 ·exact h k v e
theorem ud:∀k v,av f x k=some v->f k=some v:=λk v e=>by
 unfold av at e
 split at e
 ·cases e
 ·exact e
end
theorem Ft{l:List (Int×AV)}{k:Int}(h:∀y∈l,y.2.keeps U)(ha:a.keeps U):∀y∈lset l k a,y.2.keeps U:=λy m=>by
 unfold lset at m
 split at m
 ·obtain⟨z,m2,rfl⟩:=jf.mp m
  split
  ·exact ha
  ·exact h z m2
 ·exact(ke.mp m).elim (h y) λm=>jg.mp m▸ha
theorem kiOf_of{d:PyData}{Q:KI->Prop}(h:kiOf d Q):∃k,d=KI.dat k/\Q k:=(ay h).elim (λh=>h.elim λi h=>⟨.int i,tm h.1,h.2⟩)
 λh=>(ay h.2).elim (λh=>h.elim λi h=>⟨.str i,Ij h.1,h.2⟩) λh=>(ae h.2).elim λds h=>h.2.elim λl q=>⟨.tup l,(Ik h.1).trans (cGx _ q.1),q.2⟩
theorem kiL_of{ds:List PyData}{Q:List KI->Prop}(h:kiL ds Q):∃ks,ds=ks.map KI.dat/\Q ks:=by
 induction ds generalizing Q with
 |nil=>exact⟨[],rfl,h⟩
 |cons d ds ih=>exact(kiOf_of h).elim λk h=>(ih h.2).elim λks q=>⟨k::ks,yc.mpr ⟨h.1,q.1⟩,q.2⟩
theorem Bj{Q:List KI->Prop}(h:key a Q):∃ks,a= .dat (.tuple (ks.map KI.dat))/\Q ks:=(ae h).elim λds h=>(kiL_of h.2).elim λks q=>⟨ks,q.1▸gi h.1,q.2⟩
theorem gf{Q:Tg->AObj->Prop}(h:oba c a Q):∃τ o,a= .obj τ/\c.σ τ=some o/\Q τ o:=(ae h).elim λτ h=>(ae h.2).elim λo q=>⟨τ,o,fp h.1,q⟩
theorem Bf{Q:Tg->Bool->List AV->Prop}(h:isLs c a Q):∃τ w vs,a= .obj τ/\c.σ τ=some (.list w vs)/\Q τ w vs:=(gf h).elim λτ h=>h.elim λo h=>(ae h.2.2).elim λp q=>⟨τ,p.1,p.2,h.1,h.2.1.trans (cGx some (uw q.1)),q.2⟩
section
variable{K:IC->Prop}{f:Int->Option AV}{g:Str->Option AV}{t:List KI->Option AV}{l:List (Int×AV)}{k:Int}{s:Str}{ks:List KI}
theorem sit_I(I:Inv P c.σ)(ha:hk τ a=true)(hd:gv τ=false)(e:c.σ τ=some (.dictI true f))(h:rng k=true/\put c τ (.dictI true (a6 f k a)) K):RU P nm c (λX=>∀F U,Up3 F U (c.cx nm) setItem (.obj τ) (.dat (.int k)) a X) K:=
 d6 h.2 I (gq (I τ _ e) (dq (I τ _ e).hold (gu ha)) (λ_ _ e=>(by nomatch e)) (.inl hd)) λF U=>o_dset e h.1
theorem sit_L(I:Inv P c.σ)(ha:hk τ a=true)(hd:gv τ=false)(e:c.σ τ=some (.dictL true l))(h:l.length<=1000000/\put c τ (.dictL true (lset l k a)) K):RU P nm c (λX=>∀F U,Up3 F U (c.cx nm) setItem (.obj τ) (.dat (.int k)) a X) K:=
 d6 h.2 I (gq (I τ _ e) (Ft (I τ _ e).hold (gu ha)) (λ_ _ e=>(by nomatch e)) (.inl hd)) λF U=>o_lset e h.1
theorem sit_S(I:Inv P c.σ)(ha:hk τ a=true)(hd:gv τ=false)(e:c.σ τ=some (.dictS g))(hs:s∈SK)(h:put c τ (.dictS (a6 g s a)) K):RU P nm c (λX=>∀F U,Up3 F U (c.cx nm) setItem (.obj τ) (.dat (.str s)) a X) K:=
 d6 h I (gq (I τ _ e) (dq (I τ _ e).hold (gu ha)) (λ_ _ e=>(by nomatch e)) (.inl hd)) λF U=>o_sset e hs
theorem sit_T(I:Inv P c.σ)(ha:hk τ a=true)(hd:gv τ=false)(e:c.σ τ=some (.dictT t))(h:ks∈TK/\put c τ (.dictT (a6 t ks a)) K):RU P nm c (λX=>∀F U,Up3 F U (c.cx nm) setItem (.obj τ) (.dat (.tuple (ks.map KI.dat))) a X) K:=
 d6 h.2 I (gq (I τ _ e) (dq (I τ _ e).hold (gu ha)) (λ_ _ e=>(by nomatch e)) (.inl hd)) λF U=>o_tset e h.1
theorem sdl_I(I:Inv P c.σ)(e:c.σ τ=some (.dictI true f))(h:(f k).isSome=true/\put c τ (.dictI true (av f k)) K):RU P nm c (λX=>∀F U,Up2 F U (c.cx nm) delItem (.obj τ) (.dat (.int k)) X) K:=
 d6 h.2 I (gq (I τ _ e) (λk v q=>(I τ _ e).hold k v (ud k v q)) (λ_ _ e=>(by nomatch e)) (.inr λf' e=>⟨_,rfl,λj v q=>ud j v (by cases e;exact q)⟩)) λF U=>o_ddel e h.1
theorem sdl_T(I:Inv P c.σ)(e:c.σ τ=some (.dictT t))(h:(t ks).isSome=true/\put c τ (.dictT (av t ks)) K):RU P nm c (λX=>∀F U,Up2 F U (c.cx nm) delItem (.obj τ) (.dat (.tuple (ks.map KI.dat))) X) K:=
 d6 h.2 I (gq (I τ _ e) (λk v q=>(I τ _ e).hold k v (ud k v q)) (λ_ _ e=>(by nomatch e)) (.inr λf' e=>(by nomatch e))) λF U=>o_tdel e h.1
end
theorem Ha{σ:Tg->Option AObj}{w:Bool}{β:Type}{m:Bool->β->AObj}{x:β}(q:σ τ=some o)(h:o=m w x)(hw:w=true):σ τ=some (m true x):=hw▸h▸q
theorem sit_of{K:IC->Prop}(h:sit c b r a K)(I:Inv P c.σ):RU P nm c (λX=>∀F U,Up3 F U (c.cx nm) setItem b r a X) K:=
 (gf h).elim λτ h=>h.elim λo h=>h.1▸have z:=am h.2.2;have y:=a9 z.1;have y2:=mi y.2;(ay z.2).elim
  (λw=>w.elim λp w=>(ae w.2).elim λk x=>bj x.1▸sit_I I y.1 y2 (Ha h.2.1 (sd w.1) (am x.2).1) (am x.2).2)
  λw=>(ay w.2).elim (λw=>w.elim λp w=>(ae w.2).elim λk x=>bj x.1▸sit_L I y.1 y2 (Ha h.2.1 (oa w.1) (am x.2).1) (am x.2).2)
  λw=>(ay w.2).elim (λw=>w.elim λp w=>(ae w.2).elim λk x=>Gk x.1▸sit_S I y.1 y2 (dS_eq w.1▸h.2.1) (oDx (am x.2).1) (am x.2).2)
  λw=>(ae w.2).elim λp w=>(Bj w.2).elim λk x=>x.1▸sit_T I y.1 y2 (Hi w.1▸h.2.1) x.2
theorem sdl_of{K:IC->Prop}(h:sdl c b r K)(I:Inv P c.σ):RU P nm c (λX=>∀F U,Up2 F U (c.cx nm) delItem b r X) K:=
 (gf h).elim λτ h=>h.elim λo h=>h.1▸(ay h.2.2).elim
  (λw=>w.elim λp w=>(ae w.2).elim λk x=>bj x.1▸sdl_I I (Ha h.2.1 (sd w.1) (am x.2).1) (am x.2).2)
  λw=>(ae w.2).elim λp w=>(Bj w.2).elim λk x=>x.1▸sdl_T I (Hi w.1▸h.2.1) x.2
variable{c1:IC}{u:Mo}{τ':Tg}{ws:List AV}{Y:Cx}{G:Gh}{name:Str}
theorem mt_dictL{id:String}{w:Bool}{l:List (Int×AV)}{x:Cx}(e:x.σ τ=some (.dictL w l))(slot:Slot "dict" name id)(hty:typeOf (.builtin id)=pure (.type "method_descriptor")):Mt F x (.obj τ) name (.builtin id):=λG s y pl Q S r q=>by
 obtain rfl:y= .ref (G.μ τ):=r
 obtain⟨kvs,hd,_⟩:=S.sr.obj τ _ e
 exact getMethod_builtin hd.mapOf.typeIs PySem.F.plainAttrs_dict slot hty (λa z=>by cases z;exact let⟨o,_,_,ho,hc,_⟩:=hd;⟨o,ho,hc.2.1⟩) q
inductive RM(P:Prg)(nm:List Str)(f:LM)(c1 c:IC)(a:AV)(vs:List AV)(K:KE):Prop
 |mk (id:String) (v:AV) (c':IC) (M:∀F,Mt F (c1.cx nm) a f.nm (.builtin id)) (O:∀F U,OpL F U (c.cx nm) (λxs=>call (.builtin id) xs []) (a::vs) v (c'.cx nm)) (i:Inv P c'.σ) (r:c'.ρ=c.ρ) (k:K v c')
theorem RU.rm{f:LM}{K:KE}{id:String}{v:AV}(M:∀F,Mt F (c1.cx nm) a f.nm (.builtin id))(h:RU P nm c (λX=>∀F U,OpL F U (c.cx nm) (λxs=>call (.builtin id) xs []) (a::vs) v X) (K v)):RM P nm f c1 c a vs K:=
 h.casesOn λc' E i r k=>⟨id,v,c',M,E,i,r,k⟩
theorem Fi{w w':Bool}{l:List AV}(f:Fit P τ (.list w l))(h:∀y∈ws,y.keeps λt=>hb τ t=true):Fit P τ (.list w' ws):=⟨h,(λ_ _ e=>(by nomatch e)),(λ_ _ _ e=>(by nomatch e))⟩
theorem Mf{K:KE}{l:List AV}(I:Inv P c.σ)(M:∀F,Mt F (c1.cx nm) (.obj τ) (S "append") (.builtin "list.append"))(e:c.σ τ=some (.list true l))(hv:hk τ v=true)(h:l.length<=1000000/\put c τ (.list true (l++[v])) (K (.dat .none))):RM P nm .append c1 c (.obj τ) [v] K:=
 RU.rm M (d6 h.2 I (Fi (I τ _ e) λy m=>(ke.mp m).elim ((I τ _ e).hold y) λm=>jg.mp m▸gu hv) λF U=>o_append e h.1)
theorem Mg{K:KE}{l:List AV}{ds:List PyData}(I:Inv P c.σ)(M:∀F,Mt F (c1.cx nm) (.obj τ) (S "extend") (.builtin "list.extend"))(e:c.σ τ=some (.list true l))(hl:Ls c.σ v (ds.map .dat))(h:l.length+ds.length<=1000000/\put c τ (.list true (l++ds.map .dat)) (K (.dat .none))):RM P nm .extend c1 c (.obj τ) [v] K:=
 RU.rm M (d6 h.2 I (Fi (I τ _ e) λy m=>(ke.mp m).elim ((I τ _ e).hold y) (Ay y)) λF U=>o_extend e hl (ja (jd (cGx _ (jb _))) h.1))
theorem lm_pop{K:KE}{l:List AV}(I:Inv P c.σ)(M:∀F,Mt F (c1.cx nm) (.obj τ) (S "pop") (.builtin "list.pop"))(e:c.σ τ=some (.list true (l++[v])))(h:l.length<=1000000/\put c τ (.list true l) (K v)):RM P nm .pop c1 c (.obj τ) [] K:=
 RU.rm M (d6 h.2 I (Fi (I τ _ e) λy m=>(I τ _ e).hold y (ki _ m)) λF U=>o_pop e h.1)
theorem Fw{f:LM}{K:KE}{g:Option AV}{d:AV}(I:Inv P c.σ)(M:∀F,Mt F (c1.cx nm) a f.nm (.builtin "dict.get"))(h:i9 g (λv=>K v c) (K d c))(O:∀F U,OpL F U (c.cx nm) (λxs=>call (.builtin "dict.get") xs []) (a::vs) (g.getD d) (c.cx nm)):RM P nm f c1 c a vs K:=
 (ay h).elim (λh=>h.elim λv h=>⟨_,v,c,M,by rw [h.1] at O;exact O,I,rfl,h.2⟩) λh=>⟨_,d,c,M,by rw [h.1] at O;exact O,I,rfl,h.2⟩
theorem Bv{τ τ':Tg}(h:AV.obj τ= .obj τ'):τ=τ':=sJx (cGx AV.obj? h)
theorem uk{Q:Tg->List AV->Prop}{R:Prop}(h:I4 c1 c a Q)(k:∀τ w vs1 l,a= .obj τ->c1.σ τ=some (.list w vs1)->c.σ τ=some (.list true l)->Q τ l->R):R:=
 (Bf h).elim λτ h=>h.elim λw h=>h.elim λvs h=>(Bf h.2.2).elim λτ' q=>q.elim λw' q=>q.elim λl q=>
  have z:=am q.2.2
  k τ w vs l h.1 h.2.1 (Bv (h.1.symm.trans q.1)▸z.1▸q.2.1) (Bv (h.1.symm.trans q.1)▸z.2)
theorem lget_of{K:KE}(h:lms .get c1 c a vs K)(I:Inv P c.σ):RM P nm .get c1 c a vs K:=
 (gf h).elim λτ h=>h.elim λo1 h=>(gf h.2.2).elim λτ' q=>q.elim λo q=>h.1▸have e:=(Bv (h.1.symm.trans q.1)).symm▸q.2.1;(ay q.2.2).elim
  (λw=>w.elim λg w=>(ae w.2).elim λf x=>have M:∀F,Mt F (c1.cx nm) (.obj τ) (S "get") (.builtin "dict.get"):=λF=>mt_dictT (Hi w.1▸h.2.1) PySem.F.slot_dict_get rfl;have e2:c.σ τ=some (.dictT f):=Hi x.1▸e
   (a12_of x.2).elim (λq=>q.elim λr q=>(Bj q.2).elim λks z=>q.1▸z.1▸Fw I M z.2 λF U=>o_tget e2) λq=>q.elim λr q=>q.elim λd q=>(Bj q.2).elim λks z=>q.1▸z.1▸Fw I M z.2 λF U=>o_tget2 e2)
  λw=>(ae w.2).elim λp w=>(ae w.2).elim λp2 x=>have y:=am x.2;(a2_of y.2).elim λr z=>z.elim λd z=>(ae z.2).elim λk q=>z.1▸bj q.1▸Fw I (λF=>mt_dictL (oa w.1▸h.2.1) PySem.F.slot_dict_get rfl) q.2 λF U=>o_iget (c:=c.cx nm) (Ha (m:=λw x=>AObj.dictL w x) e (oa x.1) y.1) rfl rfl λ_ _=> .rfl
theorem lms_of{f:LM}{K:KE}(h:lms f c1 c a vs K)(I:Inv P c.σ):RM P nm f c1 c a vs K:=by
 cases f with
 |append=>exact(s8 h).elim λv h=>h.1▸uk h.2 λτ w vs l z e e' q=>z▸Mf I (λF=>Bo (.inr ⟨τ,w,rfl,e⟩) PySem.F.slot_list_append rfl) e' (am q).1 (am q).2
 |extend=>exact(s8 h).elim λv h=>h.1▸uk h.2 λτ w vs l z e e' q=>(iw q).elim λds q=>z▸Mg I (λF=>Bo (.inr ⟨τ,w,rfl,e⟩) PySem.F.slot_list_extend rfl) e' q.1 q.2
 |pop=>exact wi.mp (am h).1▸uk (am h).2 λτ w vs l z e e' q=>q.elim λl0 q=>q.elim λv q=>z▸lm_pop I (λF=>Bo (.inr ⟨τ,w,rfl,e⟩) PySem.F.slot_list_pop rfl) (q.1▸e') q.2
 |get=>exact lget_of h I
theorem itv_of{Q:List AV->Prop}(h:itv c u a Q):∃vs,(∀F,It0 F (c.cx nm) a vs)/\(∀v∈vs,v.keeps (um u))/\Q vs:=(ay h).elim
 (λh=>h.elim λτ h=>(ae h.2).elim λo q=>(ay q.2).elim
  (λw=>w.elim λp w=>have z:=am w.2;⟨p.2,λF=>fp h.1▸I5 (.inr ⟨τ,rfl,q.1.trans (cGx some ((uw w.1).trans (cGx (λb=>AObj.list b p.2) (mi z.1))))⟩),z.2.1,z.2.2⟩)
  λw=>(ae w.2).elim λp w=>have z:=am w.2;⟨_,λF=>fp h.1▸it_keys (c:=c.cx nm) (q.1.trans (cGx some ((oa w.1).trans (cGx (λb=>AObj.dictL b p.2) (mi z.1))))),Az,z.2⟩)
 λh=>(ay h.2).elim (λh=>h.elim λk h=>⟨_,λF=>rng_eq h.1▸it_range h.2.1.1 h.2.1.2,Az,h.2.2⟩)
 λh=>(ay h.2).elim (λh=>h.elim λds h=>⟨_,λF=>oy h.1▸I5 (.inl ⟨ds,rfl,rfl⟩),Ay,h.2⟩)
 λh=>(ae h.2).elim λds h=>⟨_,λF=>gi h.1▸it_tup tup_dat,Ay,h.2⟩
structure FD where
 A:Around
 env:Env
 fa:List Nat
 k:env.scope.kind= .function
noncomputable abbrev FD.f(D:FD)(P:Prg)(n:Nat):Fm:=⟨P.W,D.A,D.env,D.fa,n⟩
inductive RF(P:Prg)(nm:List Str)(n:Nat)(u:Mo)(f:Value)(as:List AV)(c:IC)(K:KE):Prop
 |mk (a:AV) (c':IC) (O:∀D:FD,OpL (D.f P n) (um u) (c.cx nm) (λxs=>call f xs []) as a (c'.cx nm)) (i:Inv P c'.σ) (r:c'.ρ=c.ρ) (k:K a c')
theorem OpL.weak{f:List Value->Sem Value}{U':Tg->Prop}(h:∀τ,U' τ->U τ)(O:OpL F U X f as a Y):OpL F U' X f as a Y:=λG s xs S r=>wM (O G s xs S r) (λv s' z=>z.casesOn λG' e S' r q=>⟨G',e.weak h,S',r,q⟩) λ_ _ z=>z
theorem fnc_of{K:KE}{id:Nat}(h:FnC P n id u as c K)(I:Inv P c.σ):RF P nm n u (.ref (P.fv id)) as c K:=by
 obtain⟨md,a,b',E,h⟩:=h
 obtain⟨q,h⟩:=am h
 have q1:=a9 q
 have q2:=a9 q1.1
 obtain⟨E,I'⟩:=E (Be I)
 have I2:Inv P (g7 c.t b'):=Aa I I'
 refine⟨a,⟨c.ρ,c.t,b'⟩,λD=> ?_,I2,rfl,h⟩
 have O:=ol_fn (F:=D.f P n) (c:=c.cx nm) (uz (t:=c.t) (B:=c.b)▸E) ⟨I.wf,I'.wf,λτ o e=>si e,λx v e=>v4 q2.2 (λv h=>kpU_of h) e⟩ (Ma q1.2)
 rw [show merge Tg.isTmp (c.cx nm).σ (g7 [] b')=g7 c.t b' from Ac] at O
 exact O.weak λτ h=>leU_of q2.1 h
theorem I8(I:Inv P c.σ)(hρ:(c.ρ.all λp=>nt τ p.2)=true)(H:fw τ o)(hs:∀h,ui τ=some h->∀oh,c.σ h=some oh->oh.keeps (·≠τ)):Lone (c.cx nm) o τ where
 w:=AObj.keeps_mono (λt h=>(lx h).2.2.1) H
 s:=λτ' o' n e=>by
  by_cases q:ui τ=some τ'
  ·exact hs τ' q o' e
  ·exact AObj.keeps_mono (λt h z=>q (z▸(lx h).2.2.2)) (I τ' o' e).hold
 r:=λx v e=>v4 hρ (λ_ h=>ed h) e
inductive RS(P:Prg)(nm:List Str)(c:IC)(τ:Tg)(o:AObj)(K:IC->Prop):Prop
 |mk (c':IC) (L:(c.ρ.all λp=>nt τ p.2)=true->Lone (c.cx nm) o τ) (e:c'.cx nm=⟨(c.cx nm).ρ,up (c.cx nm).σ τ o⟩) (i:Inv P c'.σ) (r:c'.ρ=c.ρ) (k:K c')
theorem put_rs{K:IC->Prop}(h:put c τ o K)(I:Inv P c.σ)(f:Fit P τ o)(L:(c.ρ.all λp=>nt τ p.2)=true->Lone (c.cx nm) o τ):RS P nm c τ o K:=
 (d6 (R:=λX=>X=⟨(c.cx nm).ρ,up (c.cx nm).σ τ o⟩) h I f rfl).casesOn λc' E i r k=>⟨c',L,E,i,r,k⟩
theorem spk_of{K:IC->Prop}(h:spk c τ K o)(I:Inv P c.σ):RS P nm c τ o K:=by
 obtain⟨H,h⟩:=h
 obtain⟨q,h⟩:=am h
 have q:=a9 q
 have f:Fit P τ o:=uf H (mi q.1) (mi q.2)
 exact(ay h).elim (λh=>h.elim λt h=>put_rs h.2.2 I f λhρ=>I8 I hρ H λt' e oh z=>h.2.1 oh (sJx (h.1.symm.trans e)▸z)) λh=>put_rs h.2 I f λhρ=>I8 I hρ H λt' e=>(by nomatch h.1.symm.trans e)
variable{x:Str}{m m1 m2 m3:M}{s:Scope}
inductive RX{α:Type}(P:Prg)(nm:List Str)(c:IC)(R:α->Cx->Prop)(K:α->IC->Prop):Prop
 |mk (a:α) (c':IC) (E:R a (c'.cx nm)) (i:Inv P c'.σ) (r:c'.ρ=c.ρ) (k:K a c')
inductive RB(P:Prg)(nm:List Str)(R:Fl->Cx->Prop)(K:KB):Prop
 |mk (a:Fl) (c':IC) (E:R a (c'.cx nm)) (i:Inv P c'.σ) (k:K a c')
inductive CX(F:Fm)(U:Tg->Prop)(c:Cx)(ws:List AV)(X:Cx):Expr->Prop
 |mk (elt:Expr) (y:Str) (p:Pos) (iter:Expr) (ifs:List Expr) (sc:Scope) (pos:Pos) (c1:Cx) (E:Comp F U c elt y iter ifs sc ws c1 X.σ) (r:c1.ρ=X.ρ):CX F U c ws X (.ListComp elt [⟨.Name y p,iter,ifs,0⟩] sc pos)
section
variable(P n nm)
def OKe(f:Mo->IC->KE->Prop)(g:Scope->Expr->Bool):Prop:=∀u c K,f u c K->Inv P c.σ->RX P nm c (λa X=>∀(D:FD) ex,g D.env.scope ex=true->Ev (D.f P n) (um u) (c.cx nm) ex a X) K
def OKl(f:Mo->IC->KL->Prop)(g:Scope->List Expr->Bool):Prop:=∀u c K,f u c K->Inv P c.σ->RX P nm c (λa X=>∀(D:FD) ex,g D.env.scope ex=true->Ce (D.f P n) (um u) (c.cx nm) ex a X) K
def OKt(f:Mo->IC->KT->Prop)(g:Scope->Expr->Bool):Prop:=∀u c K,f u c K->Inv P c.σ->RX P nm c (λa X=>∀(D:FD) ex,g D.env.scope ex=true->It (D.f P n) (um u) (c.cx nm) ex a X) K
def OKo(f:Mo->IC->KO->Prop)(g:Scope->Expr->Bool):Prop:=∀u c K,f u c K->Inv P c.σ->RX P nm c (λa X=>∀(D:FD) ex,g D.env.scope ex=true->EvO (D.f P n) (um u) (c.cx nm) ex a X) K
def OKc(f:Mo->IC->KL->Prop)(g:Scope->Expr->Bool):Prop:=∀u c K,f u c K->Inv P c.σ->RX P nm c (λa X=>∀(D:FD) ex,g D.env.scope ex=true->CX (D.f P n) (um (bq c.ρ u)) (c.cx nm) a X ex) K
def OKp(f:Mo->IC->KP->Prop)(g:Scope->List (Option Expr)->List Expr->Bool):Prop:=∀u c K,f u c K->Inv P c.σ->RX P nm c (λa X=>∀(D:FD) ks es pos,g D.env.scope ks es=true->EvP (D.f P n) (um u) (c.cx nm) ks es pos a X) K
def OKb(f:Mo->IC->KB->Prop)(g:Scope->List Stmt->Bool):Prop:=∀u c K,f u c K->Inv P c.σ->RB P nm (λa X=>∀(D:FD),D.env.func.isSome=true->∀ss,g D.env.scope ss=true->Xs (D.f P n) (um u) (c.cx nm) ss a X) K
def OKz(f:Mo->IC->KT->Prop)(g:Bool):Prop:=∀u c K,f u c K->Inv P c.σ->g=true->K true c
structure OK(m:M):Prop where
 e:OKe P n nm (af P n m).e (ak nm m).e
 l:OKl P n nm (af P n m).l (ak nm m).l
 t:OKt P n nm (af P n m).t (ak nm m).t
 o:OKo P n nm (af P n m).o (ak nm m).o
 c:OKc P n nm (af P n m).c (ak nm m).c
 p:OKp P n nm (af P n m).p (ak nm m).p
 b:OKb P n nm (af P n m).b (ak nm m).b
 z:OKz P (af P n m).t (ak nm m).z
end
theorem o4:OKe P n nm Sm.F.e Ck.F.e:=λu c K h=>h.elim
theorem cu:OKl P n nm Sm.F.l Ck.F.l:=λu c K h=>h.elim
theorem dg:OKt P n nm Sm.F.t Ck.F.t:=λu c K h=>h.elim
theorem ec:OKo P n nm Sm.F.o Ck.F.o:=λu c K h=>h.elim
theorem ct:OKc P n nm Sm.F.c Ck.F.c:=λu c K h=>h.elim
theorem cw:OKp P n nm Sm.F.p Ck.F.p:=λu c K h=>h.elim
theorem ix:OKb P n nm Sm.F.b Ck.F.b:=λu c K h=>h.elim
theorem dh:OKz P Sm.F.t Ck.F.z:=λu c K h=>h.elim
theorem bneq{x y:Str}(h:decide (x≠y)=true):(x==y)=false:=beq_false_of_ne (oDx h)
@[elab_as_elim] theorem Br{e:Expr}{Q:Expr->Prop}(h:nmE s nm i e=true)(k:∀p,ul (s.names.lookup (vn nm i))=true->(vn nm i==("__debug__":Str))=false->(vn nm i==("__classdict__":Str))=false->Q (.Name (vn nm i) p)):Q e:=
 eg h λx p h=>
  have h1:=a9 h
  have h2:=a9 h1.1
  have h3:=a9 h2.1
  have e:=oDx h3.1
  e▸k p (e▸h3.2) (e▸bneq h2.2) (e▸bneq h1.2)
@[elab_as_elim] theorem di{k:Expr->List Expr->Pos->Bool}{e:Expr}{Q:Expr->Prop}(h:Hh k e=true)(j:∀x es pos,k x es pos=true->Q (.Call x es [] pos)):Q e:=
 En h λx es ks pos h=>wi.mp (a9 h).1▸j x es pos (a9 h).2
@[elab_as_elim] theorem lw{f:Expr}{es:List Expr}{Q:Expr->Prop}(h:gl s x f es=true)(k:∀p,s.names.lookup x=some .globalImplicit->(x==("__debug__":Str))=false->es.all Ae=true->Q (.Name x p)):Q f:=
 eg h λy p h=>
  have h1:=a9 h
  have h2:=a9 h1.1
  have h3:=a9 h2.1
  oDx h3.1▸k p (oDx h3.2) (bneq h2.2) h1.2
theorem bm{es:List Expr}(h:es.all Ae=true){pos:Pos}{env:Env}:(backTo pos (starEach es env)).any (·.1)=false:=by
 induction es with
 |nil=>rfl
 |cons e es ih=>rw [cn (a9 h).1];exact ih (a9 h).2
@[elab_as_elim] theorem mt_of{f:Expr}{es:List Expr}{pos:Pos}{k:Expr->Bool}{Q:Expr->Prop}(h:mt x f es pos k=true)(j:∀o ap,nsup o=true->es.all Ae=true->(ap.endLine==pos.line)=true->es.length+0<30->k o=true->Q (.Attribute o x ap)):Q f:=
 gj h λo y ap h=>
  have h1:=a9 h
  have h2:=a9 h1.1
  have h3:=a9 h2.1
  have h4:=a9 h3.1
  have h5:=a9 h4.1
  oDx h5.1▸j o ap h5.2 h4.2 h3.2 (wx h2.2) h1.2
@[elab_as_elim] theorem iz{k:Expr->Bool}{es:List Expr}{Q:List Expr->Prop}(h:v8 k es=true)(j:∀e,k e=true->Q [e]):Q es:=by
 cases es with
 |nil=>exact ff h
 |cons e es=>cases es with
  |nil=>exact j e h
  |cons _ _=>exact ff h
theorem s_var(V:VOK nm):OK P n nm (.var i):=
 ⟨λu c K h I=>(ae h).elim λa h=>⟨a,c,λD ex hc=>Br hc λp q1 q2 q3=>e_name ((so V).trans h.1) q1 q2 q3,I,rfl,h.2⟩,cu,dg,ec,ct,cw,ix,dh⟩
theorem eqc_of{c:Const}{d:PyData}(h:eqc c d=true){k:Nat}{p:Pos}:Ev F U X (.Constant c k p) (.dat d) X:=by
 cases d with
 |none=>rw [oDx (p:=c= .none) h];exact e_none
 |bool b=>rw [oDx (p:=c= .bool b) h];exact e_bool
 |int i=>rw [oDx (p:=c= .int i) h];exact e_int
 |str x=>have q:(decide (c= .str x)&&PyData.strOk x)=true:=h;rw [oDx (a9 q).1];exact e_str (a9 q).2
 |_=>exact ff h
theorem s_con:OK P n nm (.con d):=⟨λu c K h I=>⟨_,c,λD ex hc=>pu hc λk n p q=>eqc_of q,I,rfl,h⟩,cu,dg,ec,ct,cw,ix,dh⟩
theorem s_glo:OK P n nm (.glo k):=⟨λu c K h I=>⟨_,c,λD ex hc=>eg hc λx p q=>
  have h1:=a9 q
  have h2:=a9 h1.1
  have h3:=a9 h2.1
  (P.gd k (oDx h1.2)).elim λv z=>e_glob ((oDx h3.1)▸z.1) (oDx h3.2) z.2 (bneq h2.2),I,rfl,h⟩,cu,dg,ec,ct,cw,ix,dh⟩
theorem s_att(h1:OK P n nm m):OK P n nm (.att m i):=⟨λu c K h I=>(h1.e u c _ h I).casesOn λa c1 E1 i1 r1 k1=>(fld_of k1).elim λτ q=>q.elim λC q=>q.elim λas q=>q.elim λv q=>
  have z:=P.cls C (((i1 τ _ q.2.1).cls C as rfl).imp (·.1) (·.1))
  ⟨v,c1,λD ex hc=>gj hc λo x p w=>
   have w1:=a9 w
   have w2:=a9 w1.1
   have w3:=a9 w2.1
   have l:=oDx w3.2
   oDx w3.1▸e_attr (q.1▸E1 D o w1.2) (o_attr (c:=c1.cx nm) q.2.1 z.1 (z.2 i l) l q.2.2.1) λenv=>rh w2.2,i1,r1,q.2.2.2⟩,cu,dg,ec,ct,cw,ix,dh⟩
theorem s_sub(h1:OK P n nm m1)(h2:OK P n nm m2):OK P n nm (.sub m1 m2):=⟨λu c K h I=>(h1.e u c _ h I).casesOn λa c1 E1 i1 r1 k1=>(h2.e _ c1 _ k1 i1).casesOn λb c2 E2 i2 r2 k2=>(subs_of k2).casesOn λv O q=>
  ⟨v,c2,λD ex hc=>bo hc λo i p w=>have w1:=a9 w;have w2:=a9 w1.1;e_sub (E1 D o w2.2) (E2 D i w1.2) (λ_=>aw) al (O _ _ _ _ w2.1),i2,r2.trans r1,q⟩,cu,dg,ec,ct,cw,ix,dh⟩
@[elab_as_elim] theorem bin_of{op:O2}{k1 k2:Ck}{e:Expr}{Q:Expr->Prop}(h:binE op k1 k2 s e=true)(j:∀l r p,k1.e s l=true->k2.e s r=true->Q (.BinOp l op.op r p)):Q e:=
 Mz h λl o r p w=>have w1:=a9 w;have w2:=a9 w1.1;oDx w2.1▸j l r p w2.2 w1.2
theorem isAdd_of{op:O2}(h:op.isAdd=true):op= .add:=by cases op<;>first|rfl|cases h
theorem s_bin{op:O2}(h1:OK P n nm m1)(h2:OK P n nm m2):OK P n nm (.bin op m1 m2):=⟨λu c K h I=>(h1.e u c _ h I).casesOn λa c1 E1 i1 r1 k1=>(h2.e _ c1 _ k1 i1).casesOn λb c2 E2 i2 r2 k2=>(bop_of k2).casesOn λd O q=>
  ⟨.dat d,c2,λD ex hc=>bin_of (show binE op (ak nm m1) (ak nm m2) D.env.scope ex=true from hc) λl r p w1 w2=>e_bin (E1 D l w1) (E2 D r w2) (λ_=>aw) al (O _ _),i2,r2.trans r1,q⟩,cu,dg,
 λu c K h I=>(h1.e u c _ h I).casesOn λa c1 E1 i1 r1 k1=>(h2.e _ c1 _ k1 i1).casesOn λb c2 E2 i2 r2 k2=>(uy (am k2).2).elim λvs z=>(uy z.2).elim λws y=>
  ⟨_,c2,λD ex hc=>bin_of (show binE op (ak nm m1) (ak nm m2) D.env.scope ex=true from hc) λl r p w1 w2=>isAdd_of (am k2).1▸(f_add (E1 D l w1) (E2 D r w2) (λ_=>aw) al z.1 y.1 y.2.1).own,i2,r2.trans r1,y.2.2⟩,ct,cw,ix,dh⟩
@[elab_as_elim] theorem cmp_of{op:C2}{k1 k2:Ck}{e:Expr}{Q:Expr->Prop}(h:cmpE op k1 k2 s e=true)(j:∀l r p,behindInMarks op.op r=false->k1.e s l=true->k2.e s r=true->Q (.Compare l [op.op] [r] p)):Q e:=Ep h λl os rs p h=>by
 cases os with
 |nil=>exact ff h
 |cons o os=>cases os with
  |cons _ _=>exact ff h
  |nil=>cases rs with
   |nil=>exact ff h
   |cons r rs=>cases rs with
    |cons _ _=>exact ff h
    |nil=>
     have h1:=a9 h
     have h2:=a9 h1.1
     have h3:=a9 h2.1
     exact oDx h3.1▸j l r p (Ga h3.2) h2.2 h1.2
theorem s_cmp{op:C2}(h1:OK P n nm m1)(h2:OK P n nm m2):OK P n nm (.cmp op m1 m2):=⟨
 λu c K h I=>(h1.e u c _ h I).casesOn λa c1 E1 i1 r1 k1=>(h2.e _ c1 _ k1 i1).casesOn λb c2 E2 i2 r2 k2=>(cop_of k2).casesOn λt O q=>
  ⟨_,c2,λD ex hc=>cmp_of hc λl r p w1 w2 w3=>e_cmp (E1 D l w2) (E2 D r w3) (λ_=>aw) al (O _ _) w1,i2,r2.trans r1,q⟩,cu,
 λu c K h I=>(h1.e u c _ h I).casesOn λa c1 E1 i1 r1 k1=>(h2.e _ c1 _ k1 i1).casesOn λb c2 E2 i2 r2 k2=>(cop_of k2).casesOn λt O q=>
  ⟨t,c2,λD ex hc=>cmp_of hc λl r p w1 w2 w3=>i_cmp (E1 D l w2) (E2 D r w3) (λ_=>aw) al (O _ _) w1,i2,r2.trans r1,q⟩,ec,ct,cw,ix,λu c K h I q=>(by nomatch q)⟩
theorem s_neg(h1:OK P n nm m):OK P n nm (.neg m):=⟨λu c K h I=>(h1.e u c _ h I).casesOn λa c1 E1 i1 r1 k1=>(ae k1).elim λi q=>
  ⟨_,c1,λD ex hc=>sq hc λo x p w=>have w1:=a9 w;oDx w1.1▸Hs (bj q.1▸E1 D x w1.2) o_neg,i1,r1,q.2⟩,cu,dg,ec,ct,cw,ix,dh⟩
theorem s_one(h1:OK P n nm m):OK P n nm (.one m):=⟨λu c K h I=>(h1.e u c _ h I).casesOn λa c1 E1 i1 r1 k1=>
  ⟨a,c1,λD ex hc=>lc hc λo es p w=>iz (Q:=λes=>Ev (D.f P n) (um u) (c.cx nm) (.BoolOp o es p) a (c1.cx nm)) w λe w=>e_one (E1 D e w),i1,r1,k1⟩,cu,dg,ec,ct,cw,ix,dh⟩
theorem Fp{t:Bool}{Q R:Prop}(h:t=true)(x:Q):if t=true then Q else R:=(if_pos h).mpr x
theorem Fo{t:Bool}{Q R:Prop}(h:t=false)(x:R):if t=true then Q else R:=(if_neg (xv.mp h)).mpr x
theorem s_ite(h1:OK P n nm m1)(h2:OK P n nm m2)(h3:OK P n nm m3):OK P n nm (.ite m1 m2 m3):=⟨λu c K h I=>(h1.t u c _ h I).casesOn λt c1 E1 i1 r1 k1=>(ty k1).elim
  (λq=>(h2.e u c1 _ q.2 i1).casesOn λa c2 E2 i2 r2 k2=>⟨a,c2,λD ex hc=>Ak hc λx b o p w=>have w1:=a9 w;have w2:=a9 w1.1;e_if (E1 D x w2.1) (Fp q.1 (E2 D b w2.2)),i2,r2.trans r1,k2⟩)
  λq=>(h3.e u c1 _ q.2 i1).casesOn λa c2 E2 i2 r2 k2=>⟨a,c2,λD ex hc=>Ak hc λx b o p w=>have w1:=a9 w;have w2:=a9 w1.1;e_if (E1 D x w2.1) (Fo q.1 (E2 D o w1.2)),i2,r2.trans r1,k2⟩,cu,dg,ec,ct,cw,ix,dh⟩
@[elab_as_elim] theorem H7{k1 k2:Expr->Bool}{o:BoolOp}{p:Pos}{Q:List Expr->Prop}{es:List Expr}(h:(match es with|e1::e2::rest=>decide (o= .And)&&k1 e1&&k2 (.BoolOp .And (e2::rest) p)|_=>false)=true)(j:∀e1 e2 r,o= .And->k1 e1=true->k2 (.BoolOp .And (e2::r) p)=true->Q (e1::e2::r)):Q es:=by
 cases es with
 |nil=>exact ff h
 |cons e1 es=>cases es with
  |nil=>exact ff h
  |cons e2 r=>have h1:=a9 h;have h2:=a9 h1.1;exact j e1 e2 r (oDx h2.1) h2.2 h1.2
theorem s_andv(h1:OK P n nm m1)(h2:OK P n nm m2):OK P n nm (.andv m1 m2):=⟨λu c K h I=>(h1.e u c _ h I).casesOn λa c1 E1 i1 r1 k1=>(ae k1).elim λt q=>(ty q.2).elim
  (λz=>(h2.e u c1 _ z.2 i1).casesOn λb c2 E2 i2 r2 k2=>⟨b,c2,λD ex hc=>lc hc λo es p w=>H7 (Q:=λes=>Ev (D.f P n) (um u) (c.cx nm) (.BoolOp o es p) b (c2.cx nm)) (k1:=(ak nm m1).e D.env.scope) (k2:=(ak nm m2).e D.env.scope) w λe1 e2 r x1 x2 x3=>x1▸e_and (t5 q.1▸E1 D e1 x2) t_bool trivial (Fp z.1 (E2 D _ x3)),i2,r2.trans r1,k2⟩)
  λz=>⟨a,c1,λD ex hc=>lc hc λo es p w=>H7 (Q:=λes=>Ev (D.f P n) (um u) (c.cx nm) (.BoolOp o es p) a (c1.cx nm)) (k1:=(ak nm m1).e D.env.scope) (k2:=(ak nm m2).e D.env.scope) w λe1 e2 r x1 x2 x3=>x1▸e_and (t5 q.1▸E1 D e1 x2) t_bool trivial (Fo z.1 ⟨t5 q.1,rfl⟩),i1,r1,z.2⟩,cu,dg,ec,ct,cw,ix,dh⟩
variable{W:Wd}
theorem Dg{l:List AV}(h:Nat.ble l.length 100=true){k:Nat}(hk:100<=k):l.length<=k:=ja (wx h) hk
theorem s_nil:OK P n nm .nil:=⟨o4,λu c K h I=>⟨[],c,λD ex hc=>wi.mp hc▸sg,I,rfl,h⟩,λu c K h I=>⟨true,c,λD ex hc=>ff hc,I,rfl,h⟩,ec,ct,
 λu c K h I=>⟨[],c,λD ks es pos hc=>wi.mp (a9 hc).1▸wi.mp (a9 hc).2▸p_nil,I,rfl,h⟩,λu c K h I=>⟨.next,c,λD hf ss hc=>wi.mp hc▸x_nil,I,h⟩,λu c K h I _=>h⟩
theorem s_cons(h1:OK P n nm m1)(h2:OK P n nm m2):OK P n nm (.cons m1 m2):=⟨o4,λu c K h I=>(h1.e u c _ h I).casesOn λa c1 E1 i1 r1 k1=>(h2.l _ c1 _ k1 i1).casesOn λas c2 E2 i2 r2 k2=>⟨a::as,c2,λD ex hc=>by
  cases ex with
  |nil=>exact ff hc
  |cons e es=>have w1:=a9 hc;have w2:=a9 w1.1;exact gb (E1 D e w2.2) (E2 D es w1.2) (λ_=>aw) al λenv=>cn w2.1,i2,r2.trans r1,k2⟩,dg,ec,ct,cw,ix,dh⟩
theorem s_pr(h1:OK P n nm m1)(h2:OK P n nm m2)(h3:OK P n nm m3):OK P n nm (.pr m1 m2 m3):=⟨o4,cu,dg,ec,ct,λu c K h I=>(h1.e u c _ h I).casesOn λa c1 E1 i1 r1 k1=>(h2.e _ c1 _ k1 i1).casesOn λb c2 E2 i2 r2 k2=>(h3.p _ c2 _ k2 i2).casesOn λps c3 E3 i3 r3 k3=>⟨(a,b)::ps,c3,λD ks es pos hc=>by
  cases ks with
  |nil=>exact ff hc
  |cons x ks=>cases x with
   |none=>exact ff hc
   |some x=>cases es with
    |nil=>exact ff hc
    |cons e es=>have w1:=a9 hc;have w2:=a9 w1.1;exact p_more (E1 D x w2.1) (E2 D e w2.2) (E3 D ks es pos w1.2) (λ_ h=>h) (λ_=>aw) (λ_ h=>aw (aw h)) (AV.keeps_mono (λ_ h=>⟨h,aw h⟩) al) al,i3,(r3.trans r2).trans r1,k3⟩,ix,dh⟩
theorem s_tup(h1:OK P n nm m):OK P n nm (.tup m):=⟨λu c K h I=>(h1.l u c _ h I).casesOn λas c1 E1 i1 r1 k1=>(t6 (am k1).2).elim λds q=>⟨_,c1,λD ex hc=>f7 hc λes k p w=>e_tuple (q.1▸E1 D es w) (q.1▸Dg (am k1).1 (by decide)),i1,r1,q.2⟩,cu,dg,ec,ct,cw,ix,dh⟩
theorem s_lst(h1:OK P n nm m):OK P n nm (.lst m):=⟨λu c K h I=>(h1.l u c _ h I).casesOn λas c1 E1 i1 r1 k1=>(t6 (am k1).2).elim λds q=>⟨_,c1,λD ex hc=>Es hc λes p w=>e_list (q.1▸E1 D es w) (q.1▸Dg (am k1).1 (by decide)),i1,r1,q.2⟩,cu,dg,
 λu c K h I=>(h1.l u c _ h I).casesOn λas c1 E1 i1 r1 k1=>⟨_,c1,λD ex hc=>Es hc λes p w=>(f_list (E1 D es w) (Dg (am k1).1 (by decide))).own,i1,r1,(am k1).2⟩,ct,cw,ix,dh⟩
theorem bnm(f:BF):f.nm∈[S "len",S "sorted",S "list",S "tuple",S "zip",S "min",S "max",S "set",S "range",S "int",S "isinstance"]/\bootBuiltins f.nm=some f.val/\f.nm≠S "__name__":=by
 cases f<;>decide+kernel
theorem bkp(f:BF):Kp W f.val:=by
 cases f<;>first|exact dr|exact p6
theorem s_blt{f:BF}(h1:OK P n nm m):OK P n nm (.blt f m):=⟨λu c K h I=>(h1.l u c _ h I).casesOn λas c1 E1 i1 r1 k1=>(bsem_of k1).casesOn λv O q=>⟨v,c1,λD ex hc=>di hc λx es pos w=>have w1:=a9 w;lw w1.1 λp x1 x2 x3=>
  have B:=bnm f
  im (bn (P.no _ B.1) B.2.1 B.2.2 x1 x2) (bkp f) (E1 D es w1.2) (O _ _) λenv=>bm x3,i1,r1,q⟩,cu,dg,ec,ct,cw,ix,dh⟩
theorem e_type{y:Str}{p:Pos}{t:String}(N:NmE F X y p (.type t)):Ev F U X (.Name y p) (.typ t) X:=λG s S=>N G s S _ λs' e q=> .here (e▸S) rfl q
theorem isi:bootBuiltins (S "isinstance")=some (.builtin "isinstance")/\S "isinstance"≠S "__name__"/\S "isinstance"∈[S "len",S "sorted",S "list",S "tuple",S "zip",S "min",S "max",S "set",S "range",S "int",S "isinstance"]:=by decide+kernel
theorem set_:bootBuiltins (S "set")=some (.type "set")/\S "set"≠S "__name__"/\S "set"∈[S "len",S "sorted",S "list",S "tuple",S "zip",S "min",S "max",S "set",S "range",S "int",S "isinstance"]:=by decide+kernel
@[elab_as_elim] theorem Bx{k:Expr->Expr->Bool}{Q:List Expr->Prop}{es:List Expr}(h:(match es with|[a,y]=>k a y|_=>false)=true)(j:∀a y,k a y=true->Q [a,y]):Q es:=by
 cases es with
 |nil=>exact ff h
 |cons a es=>cases es with
  |nil=>exact ff h
  |cons y es=>cases es with
   |nil=>exact j a y h
   |cons _ _=>exact ff h
theorem s_isl(h1:OK P n nm m):OK P n nm (.isl m):=⟨λu c K h I=>(h1.e u c _ h I).casesOn λa c1 E1 i1 r1 k1=>(uy k1).elim λvs l=>⟨_,c1,λD ex hc=>di hc λx es pos w=>Bx (Q:=λes=>Ev (D.f P n) (um u) (c.cx nm) (.Call x es [] pos) _ _) (k:=λa y=>gl D.env.scope (S "isinstance") x [a,y]&&gl D.env.scope (S "list") y []&&(ak nm m).e D.env.scope a) w λe y w=>have w1:=a9 w;have w2:=a9 w1.1;lw w2.1 λp x1 x2 x3=>by
  have B:=bnm .list
  have y3:=a9 x3
  refine lw (Q:=λy=>Ae y=true->Ev (D.f P n) (um u) (c.cx nm) (.Call (.Name (S "isinstance") p) [e,y] [] pos) _ _) w2.2 (λp2 z1 z2 z3 yn=> ?_) (a9 y3.2).1
  exact im (bn (P.no _ isi.2.2) isi.1 isi.2.1 x1 x2) dr (gb (E1 D e w1.2) (gb (e_type (bn (P.no _ B.1) B.2.1 B.2.2 z1 z2)) sg (λ_ h=>h) trivial λenv=>rfl) (λ_=>aw) al λenv=>cn y3.1) (o_isList l.1) λenv=>bm (es:=[e,.Name (S "list") p2]) ((jp _ _).mpr ⟨y3.1,rfl⟩),i1,r1,l.2⟩,cu,dg,ec,ct,cw,ix,dh⟩
theorem s_lset(h1:OK P n nm m):OK P n nm (.lset m):=⟨λu c K h I=>(h1.e u c _ h I).casesOn λa c1 E1 i1 r1 k1=>(Fx k1).elim λns l=>⟨_,c1,λD ex hc=>di hc λx es pos w=>iz (Q:=λes=>Ev (D.f P n) (um u) (c.cx nm) (.Call x es [] pos) _ _) w λy w=>have w1:=a9 w;lw w1.1 λp x1 x2 x3=>by
  have B:=bnm .len
  have y3:=a9 x3
  refine di (Q:=λy=>Ae y=true->([y].all Ae)=true->Ev (D.f P n) (um u) (c.cx nm) (.Call (.Name BF.len.nm p) [y] [] pos) _ _) w1.2 (λf2 es2 pos2 w hn hn2=> ?_) y3.1 x3
  refine iz (Q:=λes=>Ev (D.f P n) (um u) (c.cx nm) (.Call (.Name BF.len.nm p) [.Call f2 es [] pos2] [] pos) _ _) w λe w=> ?_
  have w3:=a9 w
  refine lw w3.1 λp2 z1 z2 z3=> ?_
  exact im (bn (P.no _ B.1) B.2.1 B.2.2 x1 x2) dr (gb (im (bn (P.no _ set_.2.2) set_.1 set_.2.1 z1 z2) p6 (gb (E1 D e w3.2) sg (λ_=>aw) al λenv=>cn (a9 z3).1) (o_set l.1 l.2.1) λenv=>bm z3) sg (λ_ h=>h) trivial λenv=>cn hn) (Mm (jq (firstMet_length_le _ _) (Nat.lt_trans l.2.1 (by decide)))) λenv=>bm hn2,i1,r1,l.2.2⟩,cu,dg,ec,ct,cw,ix,dh⟩
theorem s_fn{id:Nat}(h1:OK P n nm m):OK P n nm (.fn id m):=⟨λu c K h I=>(h1.l u c _ h I).casesOn λas c1 E1 i1 r1 k1=>(fnc_of k1 i1).casesOn λa c2 O i2 r2 k2=>⟨a,c2,λD ex hc=>di hc λx es pos w=>
  have w1:=a9 w
  have w2:=a9 w1.1
  have w3:=a9 w2.1
  have l:=oDx w3.2
  lw w2.2 λp x1 x2 x3=>im (n_glob (P.gl id (oDx w3.1) l) x1 x2) (Fu (P.kp id l)) (E1 D es w1.2) (O D) λenv=>bm x3,i2,r2.trans r1,k2⟩,cu,dg,ec,ct,cw,ix,dh⟩
theorem mok_of{id:Nat}(h:mokm τ id=true):(τ= .house/\id<43)\/(τ= .bank/\43<=id/\id<72):=((qi _ _).mp h).imp (λh=>⟨oDx (a9 h).1,oDx (a9 h).2⟩) λh=>⟨oDx (a9 h).1,oDx (a9 (a9 h).2).1,oDx (a9 (a9 h).2).2⟩
theorem ins_of(h:iq o=true):∃D as,o= .inst D as:=(wn.mp h).elim λp q=>⟨p.1,p.2,I3 q⟩
theorem mt_own{id:Nat}(I:Inv P c.σ)(e:c.σ τ=some o)(h:iq o=true)(q:mokm τ id=true):id<72/\∀D:FD,Mt (D.f P n) (c.cx nm) (.obj τ) (pg.nm id) (.ref (P.fv id)):=by
 obtain⟨C,as,rfl⟩:=ins_of h
 have f:=(I τ _ e).cls C as rfl
 have cl:=P.cls C (f.imp (·.1) (·.1))
 rcases mok_of q with⟨rfl,l⟩|⟨rfl,l1,l2⟩
 ·have z:=f.resolve_right λz=>(by nomatch z.2)
  have l2:id<72:=kg l (by decide)
  exact⟨l2,λD=>Hz (c:=c.cx nm) e cl.1 (z.1▸P.fc id l) (P.fn id l2).1 (P.fn id l2).2⟩
 ·have z:=f.resolve_left λz=>(by nomatch z.2)
  exact⟨l2,λD=>Hz (c:=c.cx nm) e cl.1 (z.1▸P.fb id l1 l2) (P.fn id l2).1 (P.fn id l2).2⟩
theorem s_met{id:Nat}(h1:OK P n nm m1)(h2:OK P n nm m2):OK P n nm (.met m1 id m2):=⟨λu c K h I=>(h1.e u c _ h I).casesOn λa c1 E1 i1 r1 k1=>(h2.l _ c1 _ k1 i1).casesOn λas c2 E2 i2 r2 k2=>(gf k2).elim λτ q=>q.elim λo q=>
  have z:=am q.2.2
  have M:=mt_own (n:=n) (nm:=nm) i1 q.2.1 (a9 z.1).1 (a9 z.1).2
  (fnc_of z.2 i2).casesOn λb c3 O i3 r3 k3=>⟨b,c3,λD ex hc=>di hc λx es pos w=>mt_of w λo ap x1 x2 x3 x4 x5=>e_meth (E1 D o (a9 x5).1) (q.1▸M.2 D) (Fu (P.kp id (Nat.lt_trans M.1 (by decide)))) (λ_=>aw) al (E2 D es (a9 x5).2) (O D) (λenv=>bm x2) (λenv=>rh x1) x3 x4,i3,(r3.trans r2).trans r1,k3⟩,cu,dg,ec,ct,cw,ix,dh⟩
theorem s_lm{f:LM}(h1:OK P n nm m1)(h2:OK P n nm m2):OK P n nm (.lm m1 f m2):=⟨λu c K h I=>(h1.e u c _ h I).casesOn λa c1 E1 i1 r1 k1=>(h2.l _ c1 _ k1 i1).casesOn λas c2 E2 i2 r2 k2=>(lms_of k2 i2).casesOn λid b c3 M O i3 r3 k3=>
  ⟨b,c3,λD ex hc=>di hc λx es pos w=>mt_of w λo ap x1 x2 x3 x4 x5=>e_meth (E1 D o (a9 x5).1) (M _) dr (λ_=>aw) al (E2 D es (a9 x5).2) (O _ _) (λenv=>bm x2) (λenv=>rh x1) x3 x4,i3,(r3.trans r2).trans r1,k3⟩,cu,dg,ec,ct,cw,ix,dh⟩
theorem s_own(h1:OK P n nm m):OK P n nm (.own τ m):=⟨λu c K h I=>(h1.o u c _ h I).casesOn λo c1 E1 i1 r1 k1=>
  have z:=am k1
  have y:=a9 z.1
  (spk_of z.2 i1).casesOn λc2 L e i2 r2 k2=>⟨_,c2,λD ex hc=>e.symm▸e_own (E1 D ex hc) (Af y.1) (L y.2),i2,r2.trans r1,k2⟩,cu,dg,ec,ct,cw,ix,dh⟩
@[elab_as_elim] theorem sl_of{up:Bool}{k1 k2:Ck}{e:Expr}{Q:Expr->Prop}(h:slE up k1 k2 s e=true)(j:∀o x p q,k1.e s o=true->k2.e s x=true->Q (.Subscript o (match up with|true=> .Slice none (some x) none q|false=> .Slice none none (some x) q) p)):Q e:=
 bo h λo i p w=>by
  refine N0 (Q:=λi=>Q (.Subscript o i p)) w λa b d q w=> ?_
  cases up with
  |true=>
   have w1:=a9 w
   have w2:=a9 w1.1
   have w3:=a9 w2.1
   cases b with
   |none=>exact ff w2.2
   |some b=>cases a with
    |some _=>exact ff w3.1
    |none=>cases d with
     |some _=>exact ff w3.2
     |none=>exact j o b p q w1.2 w2.2
  |false=>
   have w1:=a9 w
   have w2:=a9 w1.1
   have w3:=a9 w2.1
   cases d with
   |none=>exact ff w2.2
   |some d=>cases a with
    |some _=>exact ff w3.1
    |none=>cases b with
     |some _=>exact ff w3.2
     |none=>exact j o d p q w1.2 w2.2
theorem sl_map{lo hi st:Option Int}{ds es:List PyData}(h:fq lo hi st ds=some es):fq lo hi st (ds.map AV.dat)=some (es.map .dat):=by
 unfold fq at h⊢
 split at h
 ·rename_i z
  rw [if_pos z]
  cases hi with
  |none=>cases h
  |some b=>
   have h:(if 0<=b then some (ds.take b.toNat) else if b= -1 then some (ds.take (ds.length-1)) else none)=some es:=h
   show(if 0<=b then some ((ds.map AV.dat).take b.toNat) else if b= -1 then some ((ds.map AV.dat).take ((ds.map AV.dat).length-1)) else none)=some (es.map .dat)
   rw [jb,<-xj,<-xj]
   split at h
   ·rename_i y;rw [if_pos y];exact cGx (λl=>l.map (List.map AV.dat)) h
   ·rename_i y
    rw [if_neg y]
    split at h
    ·rename_i w;rw [if_pos w];exact cGx (λl=>l.map (List.map AV.dat)) h
    ·cases h
 ·rename_i z
  rw [if_neg z]
  split at h
  ·rename_i y;rw [if_pos y,<-sJx h,List.map_reverse]
  ·cases h
theorem lsx_of{c:IC}{Q:List PyData->Prop}(h:lsx c a Q):∃ds,(∀F,Rdl F (c.cx nm) a (ds.map .dat))/\Q ds:=(ay h).elim
 (λz=>z.elim λp z=>z.2.elim λns w=>⟨zs ns,λF G s v S r=>by
  have e:a= .raw (Cf ns):=by
   cases a with
   |raw p'=>exact cGx AV.raw ((sJx z.1).trans w.1)
   |_=>exact(aj z.1 rfl).elim
  rw [e] at r
  obtain⟨y,o,e,p,e1,items,n,e2,hi⟩:=r
  exact⟨y,items,e,⟨o,S.sr.prot _ _ (.inl p),e1,n,e2⟩,(Bw (P:=G.P) hi).dats⟩,w.2⟩)
 λh=>(iw h.2).imp λds z=>⟨λF=>z.1.rd,z.2⟩
theorem s_slu(h1:OK P n nm m1)(h2:OK P n nm m2):OK P n nm (.slu m1 m2):=⟨
 λu c K h I=>(h1.e u c _ h I).casesOn λa c1 E1 i1 r1 k1=>(h2.e _ c1 _ k1 i1).casesOn λb c2 E2 i2 r2 k2=>(ae k2).elim λk q=>(lsx_of (nm:=nm) q.2).elim λds l=>(ae l.2).elim λes z=>
  ⟨_,c2,λD ex hc=>sl_of (show slE true (ak nm m1) (ak nm m2) D.env.scope ex=true from hc) λo x p pq w1 w2=>(B8 (E1 D o w1) (e_upto (bj q.1▸E2 D x w2)) (λ_=>aw) al (l.1 _) (sl_map z.1) (G6 z.2.1) ⟨λa b=>[b,a],λa b=>rfl⟩).dat,i2,r2.trans r1,z.2.2⟩,cu,dg,
 λu c K h I=>(h1.e u c _ h I).casesOn λa c1 E1 i1 r1 k1=>(h2.e _ c1 _ k1 i1).casesOn λb c2 E2 i2 r2 k2=>(ae k2).elim λk q=>(uy q.2).elim λds l=>(ae l.2).elim λes z=>
  ⟨_,c2,λD ex hc=>sl_of (show slE true (ak nm m1) (ak nm m2) D.env.scope ex=true from hc) λo x p pq w1 w2=>(B8 (E1 D o w1) (e_upto (bj q.1▸E2 D x w2)) (λ_=>aw) al l.1.rd z.1 z.2.1 ⟨λa b=>[b,a],λa b=>rfl⟩).own,i2,r2.trans r1,z.2.2⟩,ct,cw,ix,dh⟩
theorem s_slr(h1:OK P n nm m1)(h2:OK P n nm m2):OK P n nm (.slr m1 m2):=⟨
 λu c K h I=>(h1.e u c _ h I).casesOn λa c1 E1 i1 r1 k1=>(h2.e _ c1 _ k1 i1).casesOn λb c2 E2 i2 r2 k2=>(ae k2).elim λk q=>(iw q.2).elim λds l=>(ae l.2).elim λes z=>
  ⟨_,c2,λD ex hc=>sl_of (show slE false (ak nm m1) (ak nm m2) D.env.scope ex=true from hc) λo x p pq w1 w2=>(B8 (E1 D o w1) (e_back (bj q.1▸E2 D x w2)) (λ_=>aw) al l.1.rd (sl_map z.1) (G6 z.2.1) ⟨λa b=>[a,b],λa b=>rfl⟩).dat,i2,r2.trans r1,z.2.2⟩,cu,dg,ec,ct,cw,ix,dh⟩
@[elab_as_elim] theorem d0_of{e:Expr}{Q:Expr->Prop}(h:d0 s e=true)(j:∀p,Q (.Dict [] [] p)):Q e:=Er h λks es p w=>wi.mp (a9 w).1▸wi.mp (a9 w).2▸j p
theorem s_dI:OK P n nm .dI:=⟨o4,cu,dg,λu c K h I=>⟨_,c,λD ex hc=>d0_of (show d0 D.env.scope ex=true from hc) λp=>d_emptyI,I,rfl,h⟩,ct,cw,ix,dh⟩
theorem s_dL:OK P n nm .dL:=⟨o4,cu,dg,λu c K h I=>⟨_,c,λD ex hc=>d0_of (show d0 D.env.scope ex=true from hc) λp=>d_emptyL,I,rfl,h⟩,ct,cw,ix,dh⟩
theorem s_dT:OK P n nm .dT:=⟨o4,cu,dg,λu c K h I=>⟨_,c,λD ex hc=>d0_of (show d0 D.env.scope ex=true from hc) λp=>d_emptyT,I,rfl,h⟩,ct,cw,ix,dh⟩
theorem prS_of{ps:List (AV×AV)}{Q:List (Str×AV)->Prop}(h:Gd ps Q):∃l,ps=l.map (λp=>(.dat (.str p.1),p.2))/\Q l:=by
 induction ps generalizing Q with
 |nil=>exact⟨[],rfl,h⟩
 |cons p ps ih=>exact(ae h).elim λk h=>(ih h.2).elim λl q=>⟨(k,p.2)::l,yc.mpr ⟨Prod.ext (Gk h.1) rfl,q.1⟩,q.2⟩
theorem prN_of{ps:List (AV×AV)}{Q:List (Int×AV)->Prop}(h:Gc ps Q):∃l,ps=l.map (λp=>(.dat (.int p.1),p.2))/\Q l:=by
 induction ps generalizing Q with
 |nil=>exact⟨[],rfl,h⟩
 |cons p ps ih=>exact(ae h).elim λk h=>(ih h.2).elim λl q=>⟨(k,p.2)::l,yc.mpr ⟨Prod.ext (bj h.1) rfl,q.1⟩,q.2⟩
theorem Ds{K:Type}[DecidableEq K]{R:K->Prop}{l:List (K×AV)}{f:K->Option AV}(h0:∀t,(f t).isSome=true->R t)(h:∀p∈l,R p.1)(t:K)(q:(bt f l t).isSome=true):R t:=by
 induction l generalizing f with
 |nil=>exact h0 t q
 |cons p l ih=>exact ih (f:=a6 f p.1 p.2) (gz h0 (h p (.head _))) (λp m=>h p (.tail _ m)) q
@[elab_as_elim] theorem dc_of{k1:Ck}{e:Expr}{Q:Expr->Prop}(h:dcE k1 s e=true)(j:∀ks es p,ks.all (·.isSome)=true->ks.length=es.length->ks≠[]->ks.length<=15->k1.p s ks es=true->Q (.Dict ks es p)):Q e:=
 Er h λks es p w=>
  have w1:=a9 w
  have w2:=a9 w1.1
  have w3:=a9 w2.1
  have w4:=a9 w3.1
  j ks es p w4.1 (beq_iff_eq.mp w4.2) (λe=>by rw [e] at w3;exact ff w3.2) (wx w2.2) w1.2
theorem s_dS(h1:OK P n nm m):OK P n nm (.dS m):=⟨o4,cu,dg,λu c K h I=>(h1.p u c _ h I).casesOn λps c1 E1 i1 r1 k1=>(prS_of k1).elim λl q=>have z:=am q.2
  ⟨_,c1,λD ex hc=>dc_of (show dcE (ak nm m) D.env.scope ex=true from hc) λks es p x1 x2 x3 x4 x5=>d_str (q.1▸E1 D ks es p x5) (Ds (λ_ q=>(by nomatch q)) λp m=>oDx (qf.mp (a9 z.1).2 p m)) x1 x2 x3 x4,i1,r1,z.2⟩,ct,cw,ix,dh⟩
theorem s_dN(h1:OK P n nm m):OK P n nm (.dN m):=⟨o4,cu,dg,λu c K h I=>(h1.p u c _ h I).casesOn λps c1 E1 i1 r1 k1=>(prN_of k1).elim λl q=>have z:=am q.2
  ⟨_,c1,λD ex hc=>dc_of (show dcE (ak nm m) D.env.scope ex=true from hc) λks es p x1 x2 x3 x4 x5=>d_int (q.1▸E1 D ks es p x5) (Ds (λ_ q=>(by nomatch q)) λp m=>qf.mp z.2.1 p m) x1 x2 x3 x4,i1,r1,z.2.2⟩,ct,cw,ix,dh⟩
theorem Fh(f:Fit P τ o)(h:fw τ o')(c:∀D as,o'≠ .inst D as)(d:∀w f,o'≠ .dictI w f):Fit P τ o':=⟨h,λD as e=>absurd e (c D as),λκ g _ e=>absurd e (d _ g)⟩
inductive RZ(P:Prg)(nm:List Str)(u:Mo)(c:IC)(K:Mo->IC->(IC->(IC->Prop)->Prop)->Prop):Prop
 |mk (τ:Tg) (o o':AObj) (c1:IC) (e:c.σ τ=some o) (z:Fz o o') (e1:c1.cx nm=⟨(c.cx nm).ρ,up (c.cx nm).σ τ o'⟩) (i:Inv P c1.σ) (r:c1.ρ=c.ρ) (k:K (u.1,τ::u.2) c1 λc2 k=>c2.σ τ=some o'/\put c2 τ o k)
theorem frz_of{K:Mo->IC->(IC->(IC->Prop)->Prop)->Prop}(h:frz u c K)(I:Inv P c.σ):RZ P nm u c K:=by
 obtain⟨τ,o,o',e,z,h⟩:=h
 have f:=I τ o e
 exact(d6 (nm:=nm) (R:=λX=>X=⟨(c.cx nm).ρ,up (c.cx nm).σ τ o'⟩) h I (Fh f ((z.k _).mp f.hold) (λD as=>(z.cls D as).1) λw g=>(z.dct w g).1) rfl).casesOn λc1 E i r k=>⟨τ,o,o',c1,e,z,E,i,r,k⟩
theorem L6{t:Tg}(h:um u t\/t=τ):um (u.1,τ::u.2) t:=h.elim (λh=>h.imp id (.tail _)) λh=>h▸ .inr (.head _)
theorem s_fz(h1:OK P n nm m):OK P n nm (.fz m):=⟨λu c K h I=>(frz_of (nm:=nm) (K:=λu1 c1 W=>(af P n m).e u1 c1 λa c2=>W c2 (K a)) h I).casesOn λτ o o' c1 e z e1 i1 r1 k1=>(h1.e _ c1 _ k1 i1).casesOn λa c2 E2 i2 r2 k2=>
  have f:=i2 τ o' k2.1
  (d6 (nm:=nm) (R:=λX=>X=⟨(c2.cx nm).ρ,up (c2.cx nm).σ τ o⟩) k2.2 i2 (Fh f ((z.k _).mpr f.hold) (λD as=>(z.cls D as).2) λw g=>(z.dct w g).2) rfl).casesOn λc3 e3 i3 r3 k3=>
  ⟨a,c3,λD ex hc=>e3.symm▸e_frz z e (Do.weak (λ_=>L6) (e1▸E2 D ex hc)) k2.1,i3,(r3.trans r2).trans r1,k3⟩,cu,dg,ec,ct,cw,ix,dh⟩
theorem val_is{e:Expr}(h:(g9 (λx p=>true) e||Em (λx y z p=>true) e)=true){env:Env}{w:Sem Value}:isTrue e env w=(do let v<-w;standAt e.pos;holding [v] (truthy v)):=
 ((qi _ _).mp h).elim (λh=>eg h λx p _=>rfl) λh=>En h λx y z p _=>rfl
theorem s_val(h1:OK P n nm m):OK P n nm (.val m):=⟨o4,cu,λu c K h I=>(h1.e u c _ h I).casesOn λa c1 E1 i1 r1 k1=>(ae k1).elim λb q=>⟨b,c1,λD ex hc=>i_val (t5 q.1▸E1 D ex (a9 hc).2) t_bool λenv w=>val_is (a9 hc).1,i1,r1,q.2⟩,ec,ct,cw,ix,λu c K h I q=>(by nomatch q)⟩
theorem s_not(h1:OK P n nm m):OK P n nm (.not m):=⟨o4,cu,λu c K h I=>(h1.t u c _ h I).casesOn λb c1 E1 i1 r1 k1=>⟨_,c1,λD ex hc=>sq hc λo x p w=>oDx (a9 w).1▸i_not (E1 D x (a9 w).2),i1,r1,k1⟩,ec,ct,cw,ix,λu c K h I q=>(by nomatch q)⟩
@[elab_as_elim] theorem Hf{O:BoolOp}{k1 k2:Ck}{e:Expr}{Q:Expr->Prop}(h:boE O k1 k2 s e=true)(j:∀a b p,k1.t s a=true->k2.t s b=true->Q (.BoolOp O [a,b] p)):Q e:=
 lc h λo es p w=>Bx (Q:=λes=>Q (.BoolOp o es p)) (k:=λa b=>decide (o=O)&&k1.t s a&&k2.t s b) w λa b w=>oDx (a9 (a9 w).1).1▸j a b p (a9 (a9 w).1).2 (a9 w).2
theorem s_and(h1:OK P n nm m1)(h2:OK P n nm m2):OK P n nm (.and m1 m2):=⟨o4,cu,λu c K h I=>(h1.t u c _ h I).casesOn λt c1 E1 i1 r1 k1=>(ty k1).elim
  (λq=>(h2.t u c1 _ q.2 i1).casesOn λt2 c2 E2 i2 r2 k2=>⟨t2,c2,λD ex hc=>Hf (show boE .And (ak nm m1) (ak nm m2) D.env.scope ex=true from hc) λe f p x1 x2=>Bc (a_and (E1 D e x1) (Fp q.1 (a_and (t:=t2) (E2 D f x2) (by cases t2<;>first|exact Fp rfl a_and0|exact Fo rfl ⟨rfl,rfl⟩)))),i2,r2.trans r1,k2⟩)
  λq=>⟨false,c1,λD ex hc=>Hf (show boE .And (ak nm m1) (ak nm m2) D.env.scope ex=true from hc) λe f p x1 x2=>Bc (a_and (E1 D e x1) (Fo q.1 ⟨rfl,rfl⟩)),i1,r1,q.2⟩,ec,ct,cw,ix,λu c K h I q=>(by nomatch q)⟩
theorem s_or(h1:OK P n nm m1)(h2:OK P n nm m2):OK P n nm (.or m1 m2):=⟨o4,cu,λu c K h I=>(h1.t u c _ h I).casesOn λt c1 E1 i1 r1 k1=>(ty k1).elim
  (λq=>⟨true,c1,λD ex hc=>Hf (show boE .Or (ak nm m1) (ak nm m2) D.env.scope ex=true from hc) λe f p x1 x2=>Bc (a_or (E1 D e x1) (Fp q.1 ⟨rfl,rfl⟩)),i1,r1,q.2⟩)
  λq=>(h2.t u c1 _ q.2 i1).casesOn λt2 c2 E2 i2 r2 k2=>⟨t2,c2,λD ex hc=>Hf (show boE .Or (ak nm m1) (ak nm m2) D.env.scope ex=true from hc) λe f p x1 x2=>Bc (a_or (E1 D e x1) (Fo q.1 (a_or (t:=t2) (E2 D f x2) (by cases t2<;>first|exact Fo rfl a_or0|exact Fp rfl ⟨rfl,rfl⟩)))),i2,r2.trans r1,k2⟩,ec,ct,cw,ix,λu c K h I q=>(by nomatch q)⟩
variable{mk:M}{ρ:List (Nat×AV)}
noncomputable def FD.inn(D:FD)(sc:Scope)(h:sc.kind= .function)(L:Nat):FD:=⟨D.A,compEnvC sc (Ar sc D.env) L D.env,[L],h⟩
@[elab_as_elim] theorem ifs_of{k1:Ck}{fs:List Expr}{Q:List Expr->Prop}(h:D2 k1 s fs=true)(h0:k1.z=true->Q [])(h1:k1.z=false->∀e,k1.t s e=true->Q [e]):Q fs:=by
 cases fs with
 |nil=>exact h0 h
 |cons e fs=>cases fs with
  |nil=>exact h1 (mi (a9 h).1) e (a9 h).2
  |cons _ _=>exact ff h
theorem tst(h1:OK P n nm m){K:KT}(h:(af P n m).t u c K)(I:Inv P c.σ):RX P nm c (λt X=>∀(D:FD) fs,D2 (ak nm m) D.env.scope fs=true->Ts (D.f P n) (um u) (c.cx nm) fs t X) K:=by
 cases hz:(ak nm m).z with
 |true=>exact⟨true,c,λD fs q=>ifs_of q (λ_=>ts_nil) λz=>absurd (hz.symm.trans z) (by decide),I,rfl,h1.z u c K h I hz⟩
 |false=>exact(h1.t u c K h I).casesOn λt c1 E i r k=>⟨t,c1,λD fs q=>ifs_of q (λz=>absurd (hz.symm.trans z) (by decide)) λ_ e w=>ts_one (E D e w),i,r,k⟩
inductive RCp(P:Prg)(nm:List Str)(R:List AV->(Tg->Option AObj)->Prop)(K:KL):Prop
 |mk (ws:List AV) (c':IC) (E:R ws c'.σ) (i:Inv P c'.σ) (k:K ws c')
theorem Aw(V:VOK nm){c1:IC}(r:c1.ρ=aq ρ j v):c1.cx nm=⟨aq (te nm ρ) (vn nm j) v,c1.σ⟩:=by
 unfold IC.cx
 rw [r,v5 V]
theorem cpl_of(V:VOK nm)(h1:OK P n nm m1)(h2:OK P n nm m2){K:KL}(h:Fe ((af P n m2).t u) ((af P n m1).e u) ρ j vs c K)(I:Inv P c.σ):RCp P nm (λws σ'=>∀(D:FD) el fs,(ak nm m1).e D.env.scope el=true->D2 (ak nm m2) D.env.scope fs=true->Cp (D.f P n) (um u) (vn nm j) el fs (te nm ρ) σ' vs c.σ ws) K:=by
 induction vs generalizing c K with
 |nil=>exact⟨[],c,λD el fs _ _=>⟨rfl,rfl⟩,I,h⟩
 |cons v vs ih=>
  exact(tst h2 h I).casesOn λt c1 E1 i1 r1 k1=>(ty k1).elim
   (λq=>(h1.e u c1 _ q.2 i1).casesOn λa c2 E2 i2 r2 k2=>(ae k2).elim λd z=>(ih z.2 i2).casesOn λws c3 E3 i3 k3=>⟨_,c3,λD el fs x1 x2=>⟨c1.σ,.inr ⟨a,c2.σ,ws,Aw V r1▸v5 V▸q.1▸E1 D fs x2,Aw V r1▸Aw V (r2.trans r1)▸E2 D el x1,ij z.1▸trivial,cGx (·::ws) (ij z.1).symm,E3 D el fs x1 x2⟩⟩,i3,k3⟩)
   λq=>(ih q.2 i1).casesOn λws c3 E3 i3 k3=>⟨ws,c3,λD el fs x1 x2=>⟨c1.σ,.inl ⟨Aw V r1▸v5 V▸q.1▸E1 D fs x2,E3 D el fs x1 x2⟩⟩,i3,k3⟩
theorem Ip{D:FD}{sc:Scope}(h:scOK D.env.scope sc=true):ScOK (D.f P n) sc:=
 have h1:=a9 h
 have q:=qf.mp h1.2
 ⟨λy m=>oDx (a9 (a9 (q y m)).1).1,oDx h1.1,λy m e=>oDx (((qi _ _).mp (a9 (a9 (q y m)).1).2).resolve_left λz=>oDx z e),λy m e=>oDx (((qi _ _).mp (a9 (q y m)).2).resolve_left λz=>oDx z e)⟩
@[elab_as_elim] theorem onC_of{k1 k2 k3:Ck}{fv:List Nat}{e:Expr}{Q:Expr->Prop}(h:v6 nm s j k1 k2 k3 fv e=true)(J:∀el q iter fs sc p,scOK s sc=true->sc.names.lookup (vn nm j)=some .local->Dk iter=true->k2.e s iter=true->k1.e (Ms s sc) el=true->D2 k3 (Ms s sc) fs=true->(∀i∈fv,i≠j/\(Ms s sc).names.lookup (vn nm i)≠some .local)->Q (.ListComp el [⟨.Name (vn nm j) q,iter,fs,0⟩] sc p)):Q e:=
 lf h λel gs sc p w=>by
  cases gs with
  |nil=>exact ff w
  |cons g gs=>
   obtain⟨t,iter,fs,k⟩:=g
   cases gs with
   |cons _ _=>exact ff w
   |nil=>
    have w1:=a9 w
    have w2:=a9 w1.1
    have w3:=a9 w2.1
    have w4:=a9 w3.1
    have w5:=a9 w4.1
    have w6:=a9 w5.1
    have w7:=a9 w6.1
    have w8:=a9 w7.1
    rw [oDx w8.1]
    exact eg (Q:=λt=>Q (.ListComp el [⟨t,iter,fs,0⟩] sc p)) w8.2 λx q e=>oDx e▸J el q iter fs sc p w7.2 (oDx w6.2) w5.2 w4.2 w3.2 w2.2 λi m=>have z:=a9 (qf.mp w1.2 i m);⟨oDx z.1,oDx z.2⟩
def cmS(P:Prg)(n:Nat)(elt:M)(y:Nat)(it ifs:M)(fv:List Nat)(u:Mo)(c:IC)(K:KL):Prop:=(af P n it).e (bq c.ρ u) c λa c1=>itv c1 (bq c.ρ u) a λvs=>vs.length<=1000000/\Fe ((af P n ifs).t (bq c.ρ u)) ((af P n elt).e (bq c.ρ u)) (gy fv c.ρ) y vs c1 λws c2=>K ws ⟨c.ρ,c2.t,c2.b⟩
theorem cm_of(V:VOK nm){fv:List Nat}(h1:OK P n nm m1)(h2:OK P n nm m2)(h3:OK P n nm m3){K:KL}(h:cmS P n m1 j m2 m3 fv u c K)(I:Inv P c.σ):RX P nm c (λws X=>∀(D:FD) ex,v6 nm D.env.scope j (ak nm m1) (ak nm m2) (ak nm m3) fv ex=true->CX (D.f P n) (um (bq c.ρ u)) (c.cx nm) ws X ex) K:=
 (h2.e _ c _ h I).casesOn λa c1 E1 i1 r1 k1=>(itv_of (nm:=nm) k1).elim λvs q=>(cpl_of V h1 h3 q.2.2.2 i1).casesOn λws c2 E2 i2 k2=>
  ⟨ws,⟨c.ρ,c2.t,c2.b⟩,λD ex hc=>onC_of hc λel q' iter fs sc p x1 x2 x3 x4 x5 x6 x7=>⟨el,vn nm j,q',iter,fs,sc,p,c1.cx nm,⟨⟨vs,te nm (gy fv c.ρ),Do.iter (E1 D iter x4) (q.1 _),λz v e=>(uq V e).2.elim λi w=>⟨show(te nm c1.ρ).lookup z=some v from r1.symm▸(uq V e).1,w.2▸λy=>(x7 i w.1).1 (Gu V y),w.2▸(x7 i w.1).2⟩,q.2.2.1,λL=>E2 (D.inn sc (Ip (P:=P) (n:=n) x1).kind L) el fs x5 x6,q.2.1,λx v e=>(Ia e).elim λp w=>w.2.2▸D7 p (r1▸w.1)⟩,Ip x1,x2,λx=>Ad x3⟩,show te nm c1.ρ=te nm c.ρ from r1▸rfl⟩,i2,rfl,k2⟩
theorem CX.fresh{e:Expr}(h:CX F U X ws Y e):EvF F U X e ws Y:=h.casesOn λelt y p iter ifs sc pos c1 E r=>(show Y=⟨c1.ρ,Y.σ⟩ from r▸rfl)▸f_comp E
theorem EvO.weak{U':Tg->Prop}{e:Expr}(h:∀τ,U' τ->U τ)(E:EvO F U X e o Y):EvO F U' X e o Y:=λG s S=>wM (E G s S) (λv s' z=>z.casesOn λG1 g S q x v g' w ad f fa fc st=>⟨G1,g.weak h,S,q,x,v,g',w,ad,f,fa,fc,st⟩) λ_ _ z=>z
theorem s_comp(V:VOK nm){fv:List Nat}(h1:OK P n nm m1)(h2:OK P n nm m2)(h3:OK P n nm m3):OK P n nm (.comp m1 j m2 m3 fv):=⟨
 λu c K h I=>(cm_of V h1 h2 h3 (K:=λws c2=>Cn ws λds=>K (.dat (.list ds)) c2) h I).casesOn λws c1 E i r k=>(t6 k).elim λds q=>⟨_,c1,λD ex hc=>Do.weak (λ_=>po) (EvF.dat (q.1▸(E D ex hc).fresh)),i,r,q.2⟩,cu,dg,
 λu c K h I=>(cm_of V h1 h2 h3 (K:=λws c2=>K (.list true ws) c2) h I).casesOn λws c1 E i r k=>⟨_,c1,λD ex hc=>EvO.weak (λ_=>po) (E D ex hc).fresh.own,i,r,k⟩,
 λu c K h I=>cm_of V h1 h2 h3 h I,cw,ix,dh⟩
variable{is:List Nat}
theorem I1{w:Stmt->Bool}{k:List Stmt->Bool}{ss:List Stmt}{Q:List Stmt->Prop}(h:hd w k ss=true)(j:∀st r,w st=true->k r=true->Q (st::r)):Q ss:=by
 cases ss with
 |nil=>exact ff h
 |cons st r=>exact j st r (a9 h).1 (a9 h).2
def ST1(P:Prg)(n:Nat)(nm:List Str)(u:Mo)(c:IC)(w:Scope->Stmt->Bool)(fl:Fl)(X:Cx):Prop:=∀D:FD,D.env.func.isSome=true->∀st,w D.env.scope st=true->X1 (D.f P n) (um u) (c.cx nm) st fl X
theorem seq(hk:OK P n nm mk){w:Scope->Stmt->Bool}{fl:Fl}{K:KB}(E:ST1 P n nm u c w fl (c1.cx nm))(i1:Inv P c1.σ)(k1:th (λc2=>(af P n mk).b u c2 K) K fl c1):RB P nm (λa X=>∀(D:FD),D.env.func.isSome=true->∀ss,hd (w D.env.scope) ((ak nm mk).b D.env.scope) ss=true->Xs (D.f P n) (um u) (c.cx nm) ss a X) K:=by
 cases fl with
 |next=>exact(hk.b u c1 K k1 i1).casesOn λfl c2 E2 i2 k2=>⟨fl,c2,λD hf ss h=>I1 (Q:=λss=>Xs (D.f P n) (um u) (c.cx nm) ss fl (c2.cx nm)) h λst r x1 x2=>x_cons (E D hf st x1) (E2 D hf r x2),i2,k2⟩
 |ret a=>exact⟨.ret a,c1,λD hf ss h=>I1 (Q:=λss=>Xs (D.f P n) (um u) (c.cx nm) ss (.ret a) (c1.cx nm)) h λst r x1 x2=>H1 (E D hf st x1),i1,k1⟩
theorem rp(hk:OK P n nm mk){w:Scope->Stmt->Bool}{K:KB}(E:ST1 P n nm u c w .next (c1.cx nm))(i1:Inv P c1.σ)(k1:(af P n mk).b u c1 K):RB P nm (λa X=>∀(D:FD),D.env.func.isSome=true->∀ss,hd (w D.env.scope) ((ak nm mk).b D.env.scope) ss=true->Xs (D.f P n) (um u) (c.cx nm) ss a X) K:=seq hk E i1 k1
@[elab_as_elim] theorem f8{k:Expr->Expr->Pos->Bool}{st:Stmt}{Q:Stmt->Prop}(h:tw k st=true)(j:∀t e p,k t e p=true->Q (.Assign [t] e p)):Q st:=
 Gv h λts e p w=>iz (Q:=λts=>Q (.Assign ts e p)) w λt w=>j t e p w
@[elab_as_elim] theorem v3{e:Expr}{Q:Expr->Prop}(h:nmT s nm i e=true)(k:∀p,cj (s.names.lookup (vn nm i))=true->Q (.Name (vn nm i) p)):Q e:=
 eg h λx p h=>oDx (a9 h).1▸k p (oDx (a9 h).1▸(a9 h).2)
theorem rq(V:VOK nm):(c.set i a).cx nm=⟨aq (c.cx nm).ρ (vn nm i) a,(c.cx nm).σ⟩:=by
 show(⟨te nm (aq c.ρ i a),c.σ⟩:Cx)=⟨aq (te nm c.ρ) (vn nm i) a,c.σ⟩
 rw [v5 V]
theorem cell_sw{e:Expr}{p:Pos}{l:Nat}{env:Env}(h:isCl env.scope x=true):swapsWith e (some (.Name x p)) l env=pure false:=by
 have z:(env.kindOf x==some .local)=false:=by rw [show env.kindOf x=some .cell from oDx h];rfl
 cases e<;>first|rfl|(unfold swapsWith;dsimp only;rw [z,Bool.and_false];rfl)
theorem s_ex(h1:OK P n nm m)(hk:OK P n nm mk):OK P n nm (.ex m mk):=⟨o4,cu,dg,ec,ct,cw,λu c K h I=>(h1.e u c _ h I).casesOn λa c1 E1 i1 r1 k1=>rp (w:=λs=>Ld λe p=>fj e&&(ak nm m).e s e) hk (λD hf st w=>wExpr_of w λe p w=>x_expr (E1 D e (a9 w).2) λenv=>i5 (a9 w).1) i1 k1,dh⟩
theorem s_set(V:VOK nm)(h1:OK P n nm m)(hk:OK P n nm mk):OK P n nm (.set i m mk):=⟨o4,cu,dg,ec,ct,cw,λu c K h I=>(h1.e u c _ h I).casesOn λa c1 E1 i1 r1 k1=>rp (c1:=c1.set i a) (w:=λs=>tw λt e p=>nmT s nm i t&&(fj e||isCl s (vn nm i))&&(ak nm m).e s e) hk (λD hf st w=>f8 w λt e p w=>
  have w1:=a9 w
  have w2:=a9 w1.1
  v3 w2.1 λq x=>(rq V)▸x_name (E1 D e w1.2) x (.inl hf) (((qi _ _).mp w2.2).elim i5 cell_sw)) i1 k1,dh⟩
theorem ve{t:Expr}{ts:List Expr}{is:List Nat}(h:Gl s nm is (t::ts)=true):∃i js,is=i::js/\nmT s nm i t=true/\Gl s nm js ts=true:=by
 cases is with
 |nil=>exact ff h
 |cons i js=>exact⟨i,js,rfl,(a9 h).1,(a9 h).2⟩
inductive RT(P:Prg)(n:Nat)(nm:List Str)(is:List Nat)(vs:List AV)(c:IC)(K:IC->Prop):Prop
 |mk (c':IC) (A:∀D:FD,D.env.func.isSome=true->∀ts,Gl D.env.scope nm is ts=true->AsL (D.f P n) (c.cx nm) ts vs (c'.cx nm)) (N:∀D:FD,D.env.func.isSome=true->(∀i∈is,cj (D.env.scope.names.lookup (vn nm i))=true)->AsN (D.f P n) (c.cx nm) (is.map (vn nm)) vs (c'.cx nm)) (i:Inv P c'.σ) (l:is.length=vs.length) (k:K c')
theorem C4(V:VOK nm){K:IC->Prop}(h:Mx is vs c K)(I:Inv P c.σ):RT P n nm is vs c K:=by
 induction is generalizing vs c with
 |nil=>cases vs with
  |nil=>exact⟨c,λD hf ts w=>(by
    cases ts with
    |nil=>exact asl_nil
    |cons _ _=>exact ff w),λD hf _=>asn_nil,I,rfl,h⟩
  |cons _ _=>exact h.elim
 |cons i is ih=>cases vs with
  |nil=>exact h.elim
  |cons v vs=>
   exact(ih (c:=c.set i v) h I).casesOn λc' A N i' l k=>⟨c',λD hf ts w=>(by
    cases ts with
    |nil=>exact ff w
    |cons t ts=>
     have w1:=a9 w
     exact v3 (Q:=λt=>AsL (D.f P n) (c.cx nm) (t::ts) (v::vs) (c'.cx nm)) w1.1 λq x=>asl_cons (Aq x (.inl hf)) ((rq (c:=c) (i:=i) (a:=v) V)▸A D hf ts w1.2) λenv=>rfl),λD hf w=>asn_cons (w i (.head _)) (.inl hf) ((rq (c:=c) (i:=i) (a:=v) V)▸N D hf λj m=>w j (.tail _ m)),i',cGx (·+1) l,k⟩
theorem pi{ts:List Expr}{env:Env}(h:Gl s nm is ts=true):(assignEach ts env).length=is.length/\(assignEach ts env).findIdx? (·.1)=none/\∀i∈is,cj (s.names.lookup (vn nm i))=true:=by
 induction ts generalizing is with
 |nil=>cases is with
  |nil=>exact⟨rfl,rfl,λ_ m=>(by nomatch m)⟩
  |cons _ _=>exact ff h
 |cons t ts ih=>
  obtain⟨i,js,rfl,h1,h2⟩:=ve h
  obtain⟨q1,q2,q3⟩:=ih h2
  refine v3 (Q:=λt=>(assignEach (t::ts) env).length=(i::js).length/\(assignEach (t::ts) env).findIdx? (·.1)=none/\∀j∈i::js,cj (s.names.lookup (vn nm j))=true) h1 λp x=>⟨cGx (·+1) q1,?_,λj m=>(jh.mp m).elim (λe=>e▸x) (q3 j)⟩
  show(((false,assign (.Name (vn nm i) p) env)::assignEach ts env:List (Bool×(Value->Sem Unit)))).findIdx? (·.1)=none
  rw [List.findIdx?_cons,q2];rfl
inductive RTg(P:Prg)(n:Nat)(nm:List Str)(one:Bool)(is:List Nat)(v:AV)(c:IC)(K:IC->Prop):Prop
 |mk (c':IC) (A:∀D:FD,D.env.func.isSome=true->∀t,tgE D.env.scope nm one is t=true->As (D.f P n) (c.cx nm) t v (c'.cx nm)) (i:Inv P c'.σ) (k:K c')
theorem tgt_of(V:VOK nm){one:Bool}{K:IC->Prop}(h:mj one is v c K)(I:Inv P c.σ):RTg P n nm one is v c K:=by
 cases one with
 |true=>
  cases is with
  |nil=>exact h.elim
  |cons i is=>cases is with
   |cons _ _=>exact h.elim
   |nil=>exact⟨c.set i v,λD hf t w=>v3 (show nmT D.env.scope nm i t=true from w) λp x=>(rq (c:=c) (i:=i) (a:=v) V)▸Aq x (.inl hf),I,h⟩
 |false=>exact(ae h).elim λds q=>(C4 (n:=n) V q.2 I).casesOn λc' A N i' l k=>⟨c',λD hf t w=>gi q.1▸f7 (show gk (λts k p=>Gl D.env.scope nm is ts) t=true from w) λts k p w=>as_tuple (A D hf ts w) (λenv=>(pi (env:=env) w).1.trans l) λenv=>(pi (env:=env) w).2.1,i',k⟩
theorem As.tuple_sole{ts:List Expr}{k:Nat}{p:Pos}{e:Expr}(h:fj e=true){l:Nat}{env:Env}:swapsWithSole [.Tuple ts k p] e l env=pure false:=i5 (t:=some (.Tuple ts k p)) (l:=l) (env:=env) h
theorem s_sett(V:VOK nm)(h1:OK P n nm m)(hk:OK P n nm mk):OK P n nm (.sett is m mk):=⟨o4,cu,dg,ec,ct,cw,λu c K h I=>(h1.e u c _ h I).casesOn λa c1 E1 i1 r1 k1=>(tgt_of (n:=n) V k1 i1).casesOn λc2 A i2 k2=>rp (w:=λs=>tw λt e p=>fj e&&ntup e&&tgE s nm false is t&&(ak nm m).e s e) hk (λD hf st w=>f8 w λt e p w=>by
  have w1:=a9 w
  have w2:=a9 w1.1
  have w3:=a9 w2.1
  have T:=A D hf t w2.2
  exact f7 (Q:=λt=>As (D.f P n) (c1.cx nm) t a (c2.cx nm)->X1 (D.f P n) (um u) (c.cx nm) (.Assign [t] e p) .next (c2.cx nm)) (show gk (λts k p=>Gl D.env.scope nm is ts) t=true from w2.2) (λts k q w T=>x_tuple (E1 D e w1.2) T (As.tuple_sole w3.1) (ntup_sw w3.2)) T) i2 k2,dh⟩
@[elab_as_elim] theorem Ix{k:List Expr->List Expr->Bool}{t e:Expr}{Q:Expr->Expr->Prop}(h:tupP k t e=true)(j:∀ts n p es m q,k ts es=true->Q (.Tuple ts n p) (.Tuple es m q)):Q t e:=
 f7 (Q:=λt=>Q t e) h λts n p w=>f7 (Q:=λe=>Q (.Tuple ts n p) e) w λes m q w=>j ts n p es m q w
theorem sw_len{ts:List Expr}(h:Gl s nm is ts=true):ts.length=is.length:=by
 induction ts generalizing is with
 |nil=>cases is with
  |nil=>rfl
  |cons _ _=>exact ff h
 |cons t ts ih=>
  obtain⟨i,js,rfl,h1,h2⟩:=ve h
  exact cGx (·+1) (ih h2)
theorem fm_names{f:Expr->Option Str}{ts:List Expr}(h:Gl s nm is ts=true)(hf:∀t∈ts,∀i,nmT s nm i t=true->f t=some (vn nm i)):ts.filterMap f=is.map (vn nm):=by
 induction ts generalizing is with
 |nil=>cases is with
  |nil=>rfl
  |cons _ _=>exact ff h
 |cons t ts ih=>
  obtain⟨i,js,rfl,h1,h2⟩:=ve h
  rw [List.filterMap_cons,hf t (.head _) i h1,ih h2 λt m=>hf t (.tail _ m)]
  rfl
theorem any_ns{g:Expr->Bool}{es:List Expr}(h:es.all Ae=true)(hg:∀e,Ae e=true->g e=false):es.any g=false:=by
 induction es with
 |nil=>rfl
 |cons e es ih=>rw [xe,hg e (a9 h).1,ih (a9 h).2];rfl
theorem b_ne{a b:Nat}(h:(a==b)=true):(a !=b)=false:=cGx (!·) h
theorem A9{β:Type}{b:Bool}{x y:β}(h:b=false):(if b=true then x else y)=y:=if_neg (xv.mp h)
theorem lcl_at{l:Nat}{t:Expr}{env:Env}(e:env.scope=s)(h:lcl s l t=true)(q:nmT s nm i t=true):∃p,t= .Name (vn nm i) p/\(env.kindOf (vn nm i)==some .local&&p.line==l)=true:=
 v3 (Q:=λt=>lcl s l t=true->∃p,t= .Name (vn nm i) p/\(env.kindOf (vn nm i)==some .local&&p.line==l)=true) q (λp x h=>⟨p,rfl,by
  have h:(decide (s.names.lookup (vn nm i)=some .local)&&p.line==l)=true:=h
  have k:env.kindOf (vn nm i)=some .local:=(cGx (λz:Scope=>z.names.lookup (vn nm i)) e).trans (oDx (a9 h).1)
  rw [k,(a9 h).2];rfl⟩) h
theorem sw_some{ts es:List Expr}{k m:Nat}{p q:Pos}{env:Env}(e:env.scope=s)(hk:s.kind= .function)(hs:Gl s nm is ts=true)(h:swp s ts es=true)(hd:((is.map (vn nm)).eraseDups.length==is.length)=true):swappedStores [.Tuple ts k p] (.Tuple es m q) env=pure (some (is.map (vn nm))):=by
 have h1:=a9 h
 have h2:=a9 h1.1
 have h3:=a9 h2.1
 have h4:=a9 h3.1
 have h5:=a9 h4.1
 have l:ts.length=is.length:=sw_len hs
 have bk:env.blockKind= .function:=by unfold Env.blockKind;rw [e,hk];rfl
 unfold swappedStores
 dsimp only
 refine(A9 ?_).trans ((A9 (any_ns h4.2 λe h=>Id h)).trans ?_)
 ·rw [h5.1,b_ne h5.2,bk];rfl
 rw [fm_names hs λt m i w=> ?_]
 ·refine(A9 ?_).trans ((A9 (mi h2.2)).trans (A9 (mi h1.2)))
  rw [jb,l,b_ne (beq_self_eq_true is.length),b_ne hd];rfl
 ·obtain⟨p',rfl,z⟩:=lcl_at (i:=i) e (qf.mp h3.2 t m) w
  exact if_pos z
theorem fm_len{α β:Type}{f:α->Option β}{ts:List α}:(ts.filterMap f).length<=ts.length/\((ts.filterMap f).length=ts.length->∀t∈ts,(f t).isSome=true):=by
 induction ts with
 |nil=>exact⟨jc _,λ_ t m=>(by nomatch m)⟩
 |cons t ts ih=>
  rw [List.filterMap_cons]
  cases q:f t with
  |none=>exact⟨qm ih.1,λh=>absurd (ja (jd (show ts.length+1=(ts.filterMap f).length from h.symm)) ih.1) (Nat.not_succ_le_self _)⟩
  |some b=>exact⟨jm ih.1,λh t' m=>(jh.mp m).elim (λe=>by rw [e,q];rfl) (ih.2 (Nat.succ.inj h) t')⟩
theorem nmF_lcl{l:Nat}{env:Env}{t:Expr}(e:env.scope=s)(h:(nmF env l t).isSome=true):lcl s l t=true:=
 nmF_of h λid p h=>by
  split at h
  ·rename_i z
   have z:=a9 z
   exact(jp _ _).mpr ⟨dTx ((cGx (λz:Scope=>z.names.lookup id) e).symm.trans (beq_iff_eq.mp z.1)),z.2⟩
  ·cases h
theorem sw_none{ts es:List Expr}{k m:Nat}{p q:Pos}{env:Env}(e:env.scope=s)(h:nswp s ts es=true):swappedStores [.Tuple ts k p] (.Tuple es m q) env=pure none:=by
 unfold swappedStores
 dsimp only
 split
 ·rfl
 ·refine(A9 (any_ns (a9 h).2 λe h=>Id h)).trans (if_pos ((qi _ _).mpr (.inl (bne_iff_ne.mpr λy=> ?_))))
  have:=(a9 h).1
  rw [qf.mpr λt m=>nmF_lcl (t:=t) (l:=(ts.head?.map (λt:Expr=>t.pos.line)).getD 0) e (fm_len.2 y t m)] at this
  exact ff this
theorem s_sets(V:VOK nm)(h1:OK P n nm m)(hk:OK P n nm mk):OK P n nm (.sets is m mk):=⟨o4,cu,dg,ec,ct,cw,λu c K h I=>(h1.l u c _ h I).casesOn λas c1 E1 i1 r1 k1=>(C4 (n:=n) V k1 i1).casesOn λc2 A N i2 l k2=>rp (w:=λs=>tw λt e p=>tupP (λts es=>Gl s nm is ts&&swp s ts es&&(is.map (vn nm)).eraseDups.length==is.length&&(ak nm m).l s es) t e) hk (λD hf st w=>f8 w λt e p w=>Ix (Q:=λt e=>X1 (D.f P n) (um u) (c.cx nm) (.Assign [t] e p) .next (c2.cx nm)) w λts n1 p1 es n2 p2 w=>by
  have w1:=a9 w
  have w2:=a9 w1.1
  have w3:=a9 w2.1
  have l:is.length=as.length:=by rw [List.length_reverse,List.length_reverse] at l;exact l
  have l3:is.length<=1000:=sw_len w3.1▸((qi _ _).mp (a9 (a9 (a9 (a9 (a9 w3.2).1).1).1).1).1).elim (λz=>by rw [beq_iff_eq.mp z];decide) λz=>by rw [beq_iff_eq.mp z];decide
  refine N6 (ns:=is.map (vn nm)) (E1 D es w1.2) ?_ (l▸l3) (by rw [jb];exact l) rfl (sw_some rfl D.k w3.1 w3.2 w2.2)
  rw [<-List.map_reverse]
  exact N D hf λi m=>(pi (env:=D.env) w3.1).2.2 i (xx.mp m)) i2 k2,dh⟩
theorem s_setm(V:VOK nm)(h1:OK P n nm m)(hk:OK P n nm mk):OK P n nm (.setm is m mk):=⟨o4,cu,dg,ec,ct,cw,λu c K h I=>(h1.l u c _ h I).casesOn λas c1 E1 i1 r1 k1=>(C4 (n:=n) V (am k1).2 i1).casesOn λc2 A N i2 l k2=>rp (w:=λs=>tw λt e p=>tupP (λts es=>Gl s nm is ts&&nswp s ts es&&(ak nm m).l s es) t e) hk (λD hf st w=>f8 w λt e p w=>Ix (Q:=λt e=>X1 (D.f P n) (um u) (c.cx nm) (.Assign [t] e p) .next (c2.cx nm)) w λts n1 p1 es n2 p2 w=>
  have w1:=a9 w
  have w2:=a9 w1.1
  x_tuples (E1 D es w1.2) (A D hf ts w2.1) (Dg (am k1).1 (by decide)) (λenv=>(pi (env:=env) w2.1).1.trans l) (λenv=>(pi (env:=env) w2.1).2.1) rfl (sw_none rfl w2.2)) i2 k2,dh⟩
theorem att_sw{e o:Expr}{x:Str}{p:Pos}{l:Nat}{env:Env}:swapsWith e (some (.Attribute o x p)) l env=pure false:=by cases e<;>rfl
theorem sub_sw{e o i:Expr}{p:Pos}{l:Nat}{env:Env}:swapsWith e (some (.Subscript o i p)) l env=pure false:=by cases e<;>rfl
@[elab_as_elim] theorem Fa{e:Expr}{Q:Expr->Prop}(h:F9 nm s j i e=true)(k:∀p q,ul (s.names.lookup (vn nm j))=true->(vn nm j==("__debug__":Str))=false->(vn nm j==("__classdict__":Str))=false->i<30->Q (.Attribute (.Name (vn nm j) p) (an i) q)):Q e:=
 gj h λo x q w=>
  have w1:=a9 w
  have w2:=a9 w1.1
  oDx w2.2▸Br (Q:=λo=>Q (.Attribute o (an i) q)) w2.1 λp x1 x2 x3=>k p q x1 x2 x3 (oDx w1.2)
theorem D4{D:Nat}{as as':List (Nat×AV)}(f:Fit P τ (.inst D as))(h:∀y∈as',y.2.keeps λt=>hb τ t=true):Fit P τ (.inst D as'):=⟨h,λD' l e=>(by cases e;exact f.cls D as rfl),(λ_ _ _ e=>(by nomatch e))⟩
theorem E8{β:Type}{l:List (Nat×β)}{v:β}{y:Nat×β}(h:y∈aq l i v):y=(i,v)\/(y∈l/\(y.1≠i\/True)):=by
 induction l with
 |nil=>exact .inl (jg.mp h)
 |cons p l ih=>
  unfold aq at h
  split at h
  ·exact(jh.mp h).imp id λh=>⟨.tail _ h,.inr trivial⟩
  ·exact(jh.mp h).elim (λe=> .inr ⟨e▸ .head _,.inr trivial⟩) λh=>(ih h).imp id λh=>⟨.tail _ h.1,.inr trivial⟩
theorem Fd(I:Inv P c.σ){D:Nat}{as:List (Nat×AV)}(e:c.σ τ=some (.inst D as)):ClsOK P.W D/\∀i,i<30->findIn P.W.K (.ref D) (an i)=some none:=P.cls D (((I τ _ e).cls D as rfl).imp (·.1) (·.1))
theorem s_seta(V:VOK nm)(h1:OK P n nm m)(hk':OK P n nm mk):OK P n nm (.seta j i m mk):=⟨o4,cu,dg,ec,ct,cw,λu c K h I=>(h1.e u c _ h I).casesOn λa c1 E1 i1 r1 k1=>(ae k1).elim λy q=>(gf q.2).elim λτ z=>z.elim λo z=>(ae z.2.2).elim λp w=>
  have e:c1.σ τ=some (.inst p.1 p.2):=z.2.1.trans (cGx some (I3 w.1))
  have cl:=Fd i1 e
  (d6 (nm:=nm) (R:=λX=>X=⟨(c1.cx nm).ρ,up (c1.cx nm).σ τ (.inst p.1 (aq p.2 i a))⟩) (am w.2).2 i1 (D4 (i1 τ _ e) λy m=>(E8 m).elim (λq=>q▸gu (am w.2).1) λq=>(i1 τ _ e).hold y q.1) rfl).casesOn λc2 e2 i2 r2 k2=>
  rp (w:=λs=>tw λt e p=>F9 nm s j i t&&(ak nm m).e s e) hk' (λD hf st w=>f8 w λt ex p w=>by
   have w1:=a9 w
   rw [e2]
   exact Fa w1.1 λq1 q2 x1 x2 x3 x4=>x_attr (E1 D ex w1.2) ((so V).trans (z.1▸q.1)) x1 x2 x3 e cl.1 (cl.2 i x4) x4 λenv=>att_sw) i2 k2,dh⟩
variable{l:Nat}{κ:LK}
theorem s_seti(h1:OK P n nm m1)(h2:OK P n nm m2)(h3:OK P n nm m3)(hk':OK P n nm mk):OK P n nm (.seti m1 m2 m3 mk):=⟨o4,cu,dg,ec,ct,cw,λu c K h I=>(h1.e u c _ h I).casesOn λa c1 E1 i1 r1 k1=>(h2.e _ c1 _ k1 i1).casesOn λb c2 E2 i2 r2 k2=>(h3.e _ c2 _ k2 i2).casesOn λr c3 E3 i3 r3 k3=>(sit_of (nm:=nm) k3 i3).casesOn λc4 O i4 r4 k4=>
  rp (w:=λs=>tw λt e p=>bb (λo i q=>(ak nm m2).e s o&&(ak nm m3).e s i) t&&fj e&&(ak nm m1).e s e) hk' (λD hf st w=>f8 w λt ex p w=>
   have w1:=a9 w
   have w2:=a9 w1.1
   bo (Q:=λt=>X1 (D.f P n) (um u) (c.cx nm) (.Assign [t] ex p) .next (c4.cx nm)) w2.1 λo i q y=>x_item (E1 D ex w1.2) (λ_=>aw) (λ_=>aw) al (E2 D o (a9 y).1) al (E3 D i (a9 y).2) (O _ _) λenv=>i5 w2.2) i4 k4,dh⟩
theorem s_del(h1:OK P n nm m1)(h2:OK P n nm m2)(hk':OK P n nm mk):OK P n nm (.del m1 m2 mk):=⟨o4,cu,dg,ec,ct,cw,λu c K h I=>(h1.e u c _ h I).casesOn λa c1 E1 i1 r1 k1=>(h2.e _ c1 _ k1 i1).casesOn λb c2 E2 i2 r2 k2=>(sdl_of (nm:=nm) k2 i2).casesOn λc3 O i3 r3 k3=>
  rp (w:=λs=>tq λts p=>v8 (bb λo i q=>(ak nm m1).e s o&&(ak nm m2).e s i) ts) hk' (λD hf st w=>Gw w λts p w=>iz (Q:=λts=>X1 (D.f P n) (um u) (c.cx nm) (.Delete ts p) .next (c3.cx nm)) w λt w=>
   bo (Q:=λt=>X1 (D.f P n) (um u) (c.cx nm) (.Delete [t] p) .next (c3.cx nm)) w λo i q y=>x_del (E1 D o (a9 y).1) (λ_=>aw) al (E2 D i (a9 y).2) (O _ _)) i3 k3,dh⟩
theorem s_ifs(h1:OK P n nm m1)(h2:OK P n nm m2)(h3:OK P n nm m3)(hk':OK P n nm mk):OK P n nm (.ifs m1 m2 m3 mk):=⟨o4,cu,dg,ec,ct,cw,λu c K h I=>(h1.t u c _ h I).casesOn λt c1 E1 i1 r1 k1=>(ty k1).elim
  (λq=>(h2.b u c1 _ q.2 i1).casesOn λfl c2 E2 i2 k2=>seq (w:=λs=>wIf λx a b p=>(ak nm m1).t s x&&(ak nm m2).b s a&&(ak nm m3).b s b) hk' (λD hf st w=>wIf_of w λx a b p w=>have w1:=a9 w;have w2:=a9 w1.1;x_if (E1 D x w2.1) (Fp q.1 (E2 D hf a w2.2))) i2 k2)
  λq=>(h3.b u c1 _ q.2 i1).casesOn λfl c2 E2 i2 k2=>seq (w:=λs=>wIf λx a b p=>(ak nm m1).t s x&&(ak nm m2).b s a&&(ak nm m3).b s b) hk' (λD hf st w=>wIf_of w λx a b p w=>have w1:=a9 w;have w2:=a9 w1.1;x_if (E1 D x w2.1) (Fo q.1 (E2 D hf b w1.2))) i2 k2,dh⟩
theorem s_ret(h1:OK P n nm m):OK P n nm (.ret m):=⟨o4,cu,dg,ec,ct,cw,λu c K h I=>(h1.e u c _ h I).casesOn λa c1 E1 i1 r1 k1=>⟨.ret a,c1,λD hf ss w=>I1 (Q:=λss=>Xs (D.f P n) (um u) (c.cx nm) ss (.ret a) (c1.cx nm)) (w:=o8 λe p=>e.any ((ak nm m).e D.env.scope)) (k:=λss=>true) w λst r x1 x2=>vm (Q:=λst=>Xs (D.f P n) (um u) (c.cx nm) (st::r) (.ret a) (c1.cx nm)) x1 λe p w=>by
  cases e with
  |none=>exact ff w
  |some e=>exact H1 (x_return (E1 D e w)),i1,k1⟩,dh⟩
theorem s_ret0:OK P n nm .ret0:=⟨o4,cu,dg,ec,ct,cw,λu c K h I=>⟨.ret (.dat .none),c,λD hf ss w=>I1 (Q:=λss=>Xs (D.f P n) (um u) (c.cx nm) ss (.ret (.dat .none)) (c.cx nm)) (w:=o8 λe p=>e.isNone) (k:=λss=>true) w λst r x1 x2=>vm (Q:=λst=>Xs (D.f P n) (um u) (c.cx nm) (st::r) (.ret (.dat .none)) (c.cx nm)) x1 λe p w=>by
  cases e with
  |none=>exact H1 N5
  |some e=>exact ff w,I,h⟩,dh⟩
theorem s_bad:OK P n nm .bad:=⟨o4,cu,dg,ec,ct,cw,λu c K h=>h.elim,dh⟩
theorem hq_fit{o:AObj}(h:HoldQ τ o)(hi:iq o=false):Fit P τ o:=by
 unfold HoldQ at h
 cases e:gv τ with
 |false=>rw [e] at h;exact uf h hi e
 |true=>rw [e] at h;exact(show o= .dictI true λ_=>none from h)▸⟨(λ_ _ e=>(by nomatch e)),(λ_ _ e=>(by nomatch e)),λ_ f _ e j v w=>by cases e;cases w⟩
theorem s_setq(V:VOK nm)(h1:OK P n nm m)(hk':OK P n nm mk):OK P n nm (.setq j i τ m mk):=⟨o4,cu,dg,ec,ct,cw,λu c K h I=>(h1.o u c _ h I).casesOn λo c1 E1 i1 r1 k1=>(ae k1).elim λy q=>(gf q.2).elim λτh z=>z.elim λoh z=>(ae z.2.2).elim λp w=>by
  have e:c1.σ τh=some (.inst p.1 p.2):=z.2.1.trans (cGx some (I3 w.1))
  have cl:=Fd i1 e
  obtain⟨q1,H,b',eb,k2⟩:=am w.2
  have a1:=a9 q1
  have a2:=a9 a1.2
  have a3:=a9 a2.2
  have a4:=a9 a3.2
  have hq:=lx a3.1
  have ti:∀{t:Tg},t.isTmp=false->t.ti=none:=λ{t} h=>by unfold Tg.ti;rw [h]
  have e2:(⟨c1.ρ,c1.t,b'⟩:IC).cx nm=⟨(c1.cx nm).ρ,up (up (c1.cx nm).σ τ o) τh (.inst p.1 (aq p.2 i (.obj τ)))⟩:=by
   unfold IC.cx IC.σ
   dsimp only
   rw [<-eb,bz (ti hq.1),bz (ti hq.2.1)]
  have hn:∀y∈p.2,y.1≠i->y.2.keeps (·≠τ):=λy m n=>((qi _ _).mp (qf.mp a4.2 y m)).elim (λz=>absurd (oDx z) n) λz=>ed z
  have f2:Fit P τh (.inst p.1 (aq p.2 i (.obj τ))):=D4 (i1 τh _ e) λy m=>(E8 m).elim (λq=>q▸(show hb τh τ=true from a3.1)) λq=>(i1 τh _ e).hold y q.1
  have I2:Inv P (g7 c1.t b'):=by
   rw [<-eb,bz (ti hq.1),bz (ti hq.2.1)]
   exact(i1.up (hq_fit H (mi a4.1))).up f2
  exact rp (w:=λs=>tw λt e p=>F9 nm s j i t&&fj e&&(ak nm m).o s e) hk' (c1:=⟨c1.ρ,c1.t,b'⟩) (λD hf st w=>f8 w λt ex p w=>by
   have w1:=a9 w
   have w2:=a9 w1.1
   rw [e2]
   exact Fa w2.1 λq1 q2 x1 x2 x3 x4=>Gy (E1 D ex w1.2) ((so V).trans (z.1▸q.1)) x1 x2 x3 (Af a1.1)
    ⟨λe=>hq.2.2.1 e.symm,AObj.keeps_mono (λt h=>(lx h).2.2.1) (hq_fit (P:=P) H (mi a4.1)).hold,λτ' o' n1 n2 e'=>AObj.keeps_mono (λt h z=>n2 (sJx ((lx h).2.2.2.symm.trans (z▸hq.2.2.2)))) (i1 τ' o' e').hold,λx v e=>v4 a2.1 (λ_ h=>ed h) e⟩
    e cl.1 (cl.2 i x4) x4 hn λenv=>i5 w2.2) I2 k2,dh⟩
theorem du{t:Tg}(h:t.isTmp=false):t.ti=none:=by unfold Tg.ti;rw [h]
theorem Hj:(Tg.dct κ).isTmp=false:=rfl
theorem ls_tmp{t:Int}:(Tg.ls κ t).isTmp=false:=by cases κ<;>rfl
theorem ls_dct{t:Int}:gv (Tg.ls κ t)=false:=by cases κ<;>rfl
theorem ls_inj{κ':LK}{t t':Int}(h:Tg.ls κ t= .ls κ' t'):t=t':=by cases h;rfl
theorem s_setl(V:VOK nm)(h1:OK P n nm m)(hk':OK P n nm mk):OK P n nm (.setl j i l κ m mk):=⟨o4,cu,dg,ec,ct,cw,λu c K h I=>(h1.o u c _ h I).casesOn λo c1 E1 i1 r1 k1=>(ae k1).elim λy q=>(fld_of q.2).elim λτ0 z=>z.elim λC z=>z.elim λas z=>z.elim λv z=>(ae z.2.2.2).elim λy2 q2=>(ae q2.2).elim λt q3=>(gf q3.2).elim λτ w=>w.elim λod w=>(ae w.2.2).elim λp g=>by
  have cl:=Fd i1 z.2.1
  obtain⟨q1,H,hr,b',eb,k2⟩:=am g.2
  have a1:=a9 q1
  have a2:=a9 a1.2
  have a3:=a9 a2.2
  have a4:=a9 a3.2
  have eτ:=oDx a1.1
  subst eτ
  have e:c1.σ (.dct κ)=some (.dictI true p.2):=w.2.1.trans (cGx some ((sd g.1).trans (cGx (λb=>AObj.dictI b p.2) a2.1)))
  have fd:=i1 _ _ e
  have e2:(⟨c1.ρ,c1.t,b'⟩:IC).cx nm=⟨(c1.cx nm).ρ,up (up (c1.cx nm).σ (.ls κ t) o) (.dct κ) (.dictI true (a6 p.2 t (.obj (.ls κ t))))⟩:=by
   unfold IC.cx IC.σ
   dsimp only
   rw [<-eb,bz (du Hj),bz (du ls_tmp)]
  have hbq:hb (.dct κ) (.ls κ t)=true:=by cases κ<;>rfl
  have f2:Fit P (.dct κ) (.dictI true (a6 p.2 t (.obj (.ls κ t)))):=⟨dq fd.hold (show AV.keeps _ (.obj (.ls κ t)) from hbq),(λ_ _ e=>(by nomatch e)),λκ' f e1 e2 jj v q=>by
   cases e1
   cases e2
   unfold a6 at q
   split at q
   ·rename_i x;rw [x];exact(sJx q).symm
   ·exact fd.dct κ p.2 rfl rfl jj v q⟩
  have I2:Inv P (g7 c1.t b'):=by
   rw [<-eb,bz (du Hj),bz (du ls_tmp)]
   exact(i1.up (uf H (mi a3.1) ls_dct)).up f2
  exact rp (w:=λs=>tw λt e p=>bb (λo x q=>F9 nm s j i o&&nmE s nm l x) t&&fj e&&(ak nm m).o s e) hk' (c1:=⟨c1.ρ,c1.t,b'⟩) (λD hf st w'=>f8 w' λtt ex p' w'=>by
   have w1:=a9 w'
   have w2:=a9 w1.1
   rw [e2]
   refine bo (Q:=λt=>X1 (D.f P n) (um u) (c.cx nm) (.Assign [t] ex p') .next _) w2.1 λoo ii qq yy=> ?_
   refine Fa (Q:=λoo=>X1 (D.f P n) (um u) (c.cx nm) (.Assign [.Subscript oo ii qq] ex p') .next _) (a9 yy).1 λq1 q2' x1 x2 x3 x4=> ?_
   refine Br (Q:=λii=>X1 (D.f P n) (um u) (c.cx nm) (.Assign [.Subscript _ ii qq] ex p') .next _) (a9 yy).2 λq4 y1 y2' y3=> ?_
   exact Gz (E1 D ex w1.2) (q_attr (c:=c1.cx nm) (Bz ((so V).trans (z.1▸q.1)) x1 x2 x3) z.2.1 cl.1 (cl.2 i x4) x4 (w.1▸z.2.2.1) λenv=>rfl) (Bz ((so V).trans (bj q3.1▸q2.1)) y1 y2' y3) (Af a4.1)
    ⟨(λe=>(by nomatch e)),AObj.keeps_mono (λt h=>(lx h).2.2.1) H,λτ' o' n1 n2 e'=>AObj.keeps_mono (λt' h z'=>n2 (sJx ((lx h).2.2.2.symm.trans (z'▸rfl)))) (i1 τ' o' e').hold,λx v e=>v4 a4.2 (λ_ h=>ed h) e⟩
    e hr (λjj v n1 e'=>(fd.dct κ p.2 rfl rfl jj v e')▸(λe=>n1 (ls_inj e):AV.keeps (·≠Tg.ls κ t) (.obj (.ls κ jj)))) λenv=>i5 w2.2) I2 k2,dh⟩
theorem swc_sw{e:Expr}{p:Pos}{D:FD}(h:swc D.env.scope x p e=true){l:Nat}:swapsWith e (some (.Name x p)) l D.env=pure true:=lf h λel gs sc q w=>by
 have w1:=a9 w
 have w2:=a9 w1.1
 show(pure (D.env.blockKind== .function&&D.env.kindOf x==some .local&&p.line==q.line&& !(sc.names.any λ(n,k)=>n==x&&(k== .local||k== .cell))):Sem Bool)=pure true
 have bk:D.env.blockKind= .function:=by unfold Env.blockKind;rw [D.k];rfl
 have kk:(D.env.kindOf x==some .local)=true:=w2.1
 have w3:(!(sc.names.any λ(n,k)=>n==x&&(k== .local||k== .cell)))=true:=w1.2
 rw [bk,kk,w2.2,w3];rfl
theorem Iu{e:Expr}{p:Pos}(h:swc s x p e=true):cj (s.names.lookup x)=true:=lf (Q:=λ_=>cj (s.names.lookup x)=true) h λel gs sc q w=>by
 rw [beq_iff_eq.mp (a9 (a9 w).1).1];rfl
theorem CX.store{e:Expr}{x:Str}{p pos:Pos}{ds:List PyData}(h:CX F U X (ds.map .dat) Y e)(hk:cj (F.env.kindOf x)=true)(hf:F.env.func.isSome=true\/F.env.kindOf x=some .local)(hsw:swapsWith e (some (.Name x p)) pos.line F.env=pure true):X1 F U X (.Assign [.Name x p] e pos) .next ⟨aq Y.ρ x (.dat (.list ds)),Y.σ⟩:=by
 cases h with|mk elt y q iter ifs sc pos2 c1 E r=>exact r▸Ew E hk hf hsw
theorem CX.storeO{e:Expr}{x:Str}{p pos:Pos}(h:CX F U X ws Y e)(hU:¬U τ)(L:Lone Y (.list true ws) τ)(hk:cj (F.env.kindOf x)=true)(hf:F.env.func.isSome=true\/F.env.kindOf x=some .local)(hsw:swapsWith e (some (.Name x p)) pos.line F.env=pure true):X1 F U X (.Assign [.Name x p] e pos) .next ⟨aq Y.ρ x (.obj τ),up Y.σ τ (.list true ws)⟩:=by
 cases h with|mk elt y q iter ifs sc pos2 c1 E r=>exact r▸H0 E hU (r▸L) hk hf hsw
theorem X1.weak{st:Stmt}{fl:Fl}{U':Tg->Prop}(h:∀τ,U' τ->U τ)(E:X1 F U X st fl Y):X1 F U' X st fl Y:=Do.weak h E
theorem s_setc(V:VOK nm)(h1:OK P n nm m)(hk':OK P n nm mk):OK P n nm (.setc i m mk):=⟨o4,cu,dg,ec,ct,cw,λu c K h I=>(h1.c u c _ h I).casesOn λas c1 E1 i1 r1 k1=>(t6 k1).elim λds q=>
  rp (c1:=c1.set i (.dat (.list ds))) (w:=λs=>tw λt e p=>g9 (λx q=>decide (x=vn nm i)&&swc s x q e) t&&(ak nm m).c s e) hk' (λD hf st w=>f8 w λt e p w=>
   eg (Q:=λt=>X1 (D.f P n) (um u) (c.cx nm) (.Assign [t] e p) .next _) (a9 w).1 λy q' z=>(rq V)▸oDx (a9 z).1▸X1.weak (λ_=>po) ((q.1▸E1 D e (a9 w).2).store (Iu (a9 z).2) (.inl hf) (swc_sw (a9 z).2))) i1 q.2,dh⟩
theorem s_setw(V:VOK nm)(h1:OK P n nm m)(hk':OK P n nm mk):OK P n nm (.setw i τ m mk):=⟨o4,cu,dg,ec,ct,cw,λu c K h I=>(h1.c u c _ h I).casesOn λas c1 E1 i1 r1 k1=>
  have z:=am k1
  have y:=a9 z.1
  (spk_of (nm:=nm) z.2 i1).casesOn λc2 L e2 i2 r2 k2=>
  rp (c1:=c2.set i (.obj τ)) (w:=λs=>tw λt e p=>g9 (λx q=>decide (x=vn nm i)&&swc s x q e) t&&(ak nm m).c s e) hk' (λD hf st w=>f8 w λt e p w=>
   eg (Q:=λt=>X1 (D.f P n) (um u) (c.cx nm) (.Assign [t] e p) .next _) (a9 w).1 λy2 q' z=>(rq (c:=c2) V)▸e2.symm▸oDx (a9 z).1▸X1.weak (λ_=>po) ((E1 D e (a9 w).2).storeO (Af y.1) (L y.2) (Iu (a9 z).2) (.inl hf) (swc_sw (a9 z).2))) i2 k2,dh⟩
theorem Mw{t:List (Nat×AObj)}{k:Nat}:(t.filter λp=> !decide (p.1=j)).lookup k=if k=j then none else t.lookup k:=by
 induction t with
 |nil=>exact(ite_self _).symm
 |cons p t ih=>
  rw [yg]
  by_cases q:p.1=j
  ·rw [dTx q,if_neg (by decide),ih,kf]
   by_cases z:k=j
   ·rw [if_pos z,if_pos z]
   ·rw [if_neg z,if_neg z,beq_false_of_ne λe=>z (e.trans q)]
  ·rw [dFx q,if_pos (by decide),kf,kf,ih]
   by_cases z:k=p.1
   ·subst z;rw [beq_self_eq_true];exact(if_neg q).symm
   ·rw [beq_false_of_ne z]
theorem Xs.ghost{ss:List Stmt}{fl:Fl}(H:∀G h,ST F X G h->∃G',Gr U G G'/\ST F Y G' h){Z:Cx}(E:Xs F U Y ss fl Z):Xs F U X ss fl Z:=Do.ghost H E
theorem s_rel(V:VOK nm)(hk':OK P n nm mk):OK P n nm (.rel i mk):=⟨o4,cu,dg,ec,ct,cw,λu c K h I=>(ae h).elim λa q=>(Bf q.2).elim λτ z=>z.elim λw z=>z.elim λvs z=>(ae z.2.2).elim λj y=>y.2.elim λds y2=>by
  have e:c.σ τ=some (.list true (ds.map .dat)):=(am y2.2).1▸y2.1▸z.2.1
  have tj:=Ai y.1
  subst tj
  have hσ:∀t,(⟨aq c.ρ i (.dat (.list ds)),c.t.filter λp=> !decide (p.1=j),c.b⟩:IC).σ t=if t= .tmp j then none else c.σ t:=λt=>by
   unfold IC.σ
   cases q:t.ti with
   |none=>
    rw [d3 q,d3 q,if_neg λe=> ?_]
    rw [e] at q;cases q
   |some k=>
    rw [ly q,ly q,Mw,Ai q]
    by_cases z:k=j
    ·rw [if_pos z,if_pos (cGx Tg.tmp z)]
    ·rw [if_neg z,if_neg λe=>z (by cases e;rfl)]
  have I2:Inv P (⟨aq c.ρ i (.dat (.list ds)),c.t.filter λp=> !decide (p.1=j),c.b⟩:IC).σ:=λt o q=>by
   rw [hσ] at q
   split at q
   ·cases q
   ·exact I t o q
  exact(hk'.b u _ K (am y2.2).2 I2).casesOn λfl c2 E2 i2 k2=>⟨fl,c2,λD hf ss w=>Xs.ghost (λG h S=>by
   obtain⟨G',g,S'⟩:=S.give (y:=vn nm i) (σ':=(⟨aq c.ρ i (.dat (.list ds)),c.t.filter λp=> !decide (p.1=j),c.b⟩:IC).σ) e (λt n=>(hσ t).trans (if_neg n)) ((hσ _).trans (if_pos rfl)) ((so V).trans (z.1▸q.1))
   refine⟨G',g,?_⟩
   have:(⟨aq c.ρ i (.dat (.list ds)),c.t.filter λp=> !decide (p.1=j),c.b⟩:IC).cx nm=⟨aq (te nm c.ρ) (vn nm i) (.dat (.list ds)),(⟨aq c.ρ i (.dat (.list ds)),c.t.filter λp=> !decide (p.1=j),c.b⟩:IC).σ⟩:=by
    unfold IC.cx;rw [v5 V]
   rw [this];exact S') (E2 D hf ss w),i2,k2⟩,dh⟩
variable{keep:List Nat}{fl:Fl}
theorem EvIt.cut{ex:Expr}(hs:Y.σ=X.σ)(hr:∀y v,Y.ρ.lookup y=some v->X.ρ.lookup y=some v){Z:Cx}(E:EvIt F U Z ex vs X):EvIt F U Z ex vs Y:=λG s S=>wM (E G s S) (λv s1 z=>wM z (λ_ _ z=>z.casesOn λG1 s1 g q r=>⟨G1,s1,g,q,r.casesOn λG' e S q I pr St z N it st hp=>⟨G',e,S.cut hs hr,q,I,pr,St,z,N,it,st,hp⟩⟩) λ_ _ x=>x) λ_ _ x=>x
theorem X1.cut{st:Stmt}{Z:Cx}(hs:Y.σ=X.σ)(hr:∀y v,Y.ρ.lookup y=some v->X.ρ.lookup y=some v)(E:X1 F U Y st fl Z):X1 F U X st fl Z:=Do.ghost (λG h S=>⟨G,.refl,S.cut hs hr⟩) E
theorem ng(V:VOK nm)(keep:List Nat)(c:IC):∀y v,((IC.keep keep c).cx nm).ρ.lookup y=some v->(c.cx nm).ρ.lookup y=some v:=λy v e=>(uq V e).1
theorem lp_of(V:VOK nm)(hb:OK P n nm m){one:Bool}{K:KB}(h:lp ((af P n m).b u) (mj one is) (IC.keep keep) K vs c)(I:Inv P c.σ):RB P nm (λfl X=>∀D:FD,D.env.func.isSome=true->∀t bd,tgE D.env.scope nm one is t=true->(ak nm m).b D.env.scope bd=true->Lp (D.f P n) (um u) t bd fl X vs ((IC.keep keep c).cx nm)) K:=by
 induction vs generalizing c with
 |nil=>exact⟨.next,IC.keep keep c,λD hf t bd w1 w2=>⟨rfl,rfl⟩,I,h⟩
 |cons v vs ih=>
  exact(tgt_of (P:=P) (n:=n) (c:=IC.keep keep c) V h I).casesOn λc1 A1 i1 k1=>(hb.b u c1 _ k1 i1).casesOn λfl c2 E2 i2 k2=>by
   cases fl with
   |next=>exact(ih k2 i2).casesOn λfl' c3 E3 i3 k3=>⟨fl',c3,λD hf t bd w1 w2=>⟨_,_,A1 D hf t w1,.inl ⟨E2 D hf bd w2,(IC.keep keep c2).cx nm,rfl,ng V keep c2,E3 D hf t bd w1 w2⟩⟩,i3,k3⟩
   |ret a=>exact⟨.ret a,c2,λD hf t bd w1 w2=>⟨_,_,A1 D hf t w1,.inr ⟨E2 D hf bd w2,rfl,nofun⟩⟩,i2,k2⟩
theorem for_of(V:VOK nm)(h1:OK P n nm m1)(h2:OK P n nm m2){one:Bool}{K:KB}(h:forS u is one (af P n m1) (af P n m2) keep c K)(I:Inv P c.σ):RB P nm (λfl X=>∀D:FD,D.env.func.isSome=true->∀st,forC nm is one (ak nm m1) (ak nm m2) D.env.scope st=true->X1 (D.f P n) (um u) (c.cx nm) st fl X) K:=
 (h1.e u c _ h I).casesOn λa c1 E1 i1 r1 k1=>(itv_of (nm:=nm) k1).elim λvs q=>(lp_of V h2 q.2.2 i1).casesOn λfl c2 E2 i2 k2=>⟨fl,c2,λD hf st w=>Le (Q:=λst=>X1 (D.f P n) (um u) (c.cx nm) st fl (c2.cx nm)) w λt iter bd oe p w=>
  have w1:=a9 w
  have w2:=a9 w1.1
  have w3:=a9 w2.1
  have w4:=a9 w3.1
  (wi.mp w3.2)▸x_for (EvIt.cut (X:=c1.cx nm) (Y:=(IC.keep keep c1).cx nm) rfl (ng V keep c1) (Do.iter (E1 D iter w2.2) (q.1 _))) (λ_ h=>h) q.2.1 (E2 D hf t bd w4.1 w1.2) (λx=>Ad w4.2),i2,k2⟩
theorem s_fori(V:VOK nm){z one:Bool}(h1:OK P n nm m1)(h2:OK P n nm m2)(hk':OK P n nm mk):OK P n nm (.fori z is one m1 m2 keep mk):=by
 cases z with
 |false=>exact⟨o4,cu,dg,ec,ct,cw,λu c K h I=>(for_of V h1 h2 (K:=th (λc2=>(af P n mk).b u c2 K) K) h I).casesOn λfl c1 E i k=>seq (w:=forC nm is one (ak nm m1) (ak nm m2)) hk' E i k,dh⟩
 |true=>exact⟨o4,cu,dg,ec,ct,cw,λu c K h I=>(frz_of (nm:=nm) (K:=λu1 c1 W=>forS u1 is one (af P n m1) (af P n m2) keep c1 λfl c2=>W c2 (th (λc2=>(af P n mk).b u c2 K) K fl)) h I).casesOn λτ o o' c1 e z e1 i1 r1 k1=>(for_of V h1 h2 k1 i1).casesOn λfl c2 E2 i2 k2=>
   have f:=i2 τ o' k2.1
   (d6 (nm:=nm) (R:=λX=>X=⟨(c2.cx nm).ρ,up (c2.cx nm).σ τ o⟩) k2.2 i2 (Fh f ((z.k _).mpr f.hold) (λD as=>(z.cls D as).2) λw g=>(z.dct w g).2) rfl).casesOn λc3 e3 i3 r3 k3=>
   seq (w:=forC nm is one (ak nm m1) (ak nm m2)) hk' (λD hf st w=>e3.symm▸x_frz z e (X1.weak (λ_=>L6) (e1▸E2 D hf st w)) k2.1) i3 k3,dh⟩
theorem s_forh(V:VOK nm)(h1:OK P n nm m1)(h2:OK P n nm m2)(hk':OK P n nm mk):OK P n nm (.forh i m1 m2 keep mk):=⟨o4,cu,dg,ec,ct,cw,λu c K h I=>(h1.l u c _ h I).casesOn λvs c1 E1 i1 r1 k1=>
  have z:=am k1
  (lp_of (one:=true) V h2 z.2 i1).casesOn λfl c2 E2 i2 k2=>seq (w:=λs=>wFor λt iter bd oe p=>oe.isEmpty&&nmT s nm i t&&gk (λes k p=>(ak nm m1).l s es) iter&&(ak nm m2).b s bd) hk' (λD hf st w=>Le (Q:=λst=>X1 (D.f P n) (um u) (c.cx nm) st fl (c2.cx nm)) w λt iter bd oe p w=>
   have w1:=a9 w
   have w2:=a9 w1.1
   have w3:=a9 w2.1
   f7 (Q:=λiter=>X1 (D.f P n) (um u) (c.cx nm) (.For t iter bd oe p) fl (c2.cx nm)) w2.2 λes k q y=>(wi.mp w3.1)▸x_for (EvIt.cut (X:=c1.cx nm) (Y:=(IC.keep keep c1).cx nm) rfl (ng V keep c1) (M7 (E1 D es y) (Dg z.1 (by decide)))) keeps_foldr.1 keeps_foldr.2 (E2 D hf t bd w3.2 w1.2) (λx=>rfl)) i2 k2,dh⟩
theorem wh_of(V:VOK nm)(h1:OK P n nm m1)(h2:OK P n nm m2){N:Nat}{K:KB}(h:wh ((af P n m1).t u) ((af P n m2).b u) (IC.keep keep) K N c)(I:Inv P c.σ):RB P nm (λfl X=>∀D:FD,D.env.func.isSome=true->∀x bd,(ak nm m1).t D.env.scope x=true->(ak nm m2).b D.env.scope bd=true->Wh (D.f P n) (um u) x bd fl X N ((IC.keep keep c).cx nm)) K:=by
 induction N generalizing c with
 |zero=>exact h.elim
 |succ N ih=>
  exact(h1.t u (IC.keep keep c) _ h I).casesOn λt c1 E1 i1 r1 k1=>(ty k1).elim
   (λq=>(h2.b u c1 _ q.2 i1).casesOn λfl c2 E2 i2 k2=>by
    cases fl with
    |next=>exact(ih k2 i2).casesOn λfl' c3 E3 i3 k3=>⟨fl',c3,λD hf x bd w1 w2=> .inr ⟨_,_,q.1▸E1 D x w1,.inl ⟨E2 D hf bd w2,(IC.keep keep c2).cx nm,rfl,ng V keep c2,E3 D hf x bd w1 w2⟩⟩,i3,k3⟩
    |ret a=>exact⟨.ret a,c2,λD hf x bd w1 w2=> .inr ⟨_,_,q.1▸E1 D x w1,.inr ⟨E2 D hf bd w2,rfl,nofun⟩⟩,i2,k2⟩)
   λq=>⟨.next,c1,λD hf x bd w1 w2=> .inl ⟨q.1▸E1 D x w1,rfl⟩,i1,q.2⟩
theorem s_whl(V:VOK nm)(h1:OK P n nm m1)(h2:OK P n nm m2)(hk':OK P n nm mk):OK P n nm (.whl m1 m2 keep mk):=⟨o4,cu,dg,ec,ct,cw,λu c K h I=>h.elim λN h=>(wh_of V h1 h2 h I).casesOn λfl c1 E i k=>
  seq (w:=λs=>C9 λx bd oe p=>oe.isEmpty&&(ak nm m1).t s x&&(ak nm m2).b s bd) hk' (λD hf st w=>N3 (Q:=λst=>X1 (D.f P n) (um u) (c.cx nm) st fl (c1.cx nm)) w λx bd oe p w=>
   have w1:=a9 w
   have w2:=a9 w1.1
   (wi.mp w2.1)▸X1.cut (X:=c.cx nm) (Y:=(IC.keep keep c).cx nm) rfl (ng V keep c) (x_while (E D hf x bd w2.2 w1.2))) i k,dh⟩
end
section
variable{prog:Program}{w:World}{A:Around}{E:Value->Shared->Prop}{s:Shared}{h0 h h':Heap}{os:List Obj}{i j t n:Nat}{o o':Obj}{x:Value}{items:Array Value}
structure Hx(h0 h:Heap)(os:List Obj):Prop where
 old:∀c o,h0.get? c=some o->h.get? c=some o
 gt:∀i o,os[i]? =some o->h.get? (h0.objs.size+i)=some o
 sz:h.objs.size=h0.objs.size+os.length
theorem Hx.nil:Hx h h []:=⟨λ_ _ e=>e,(λ_ _ e=>(by nomatch e)),rfl⟩
theorem Hx.push(B:Hx h0 h os)(hf:o.isFreed=false):Hx h0 (h.push o) (os++[o]):=
 ⟨λc o e=>Heap.get?_push_of_some _ (B.old c o e),λi o' e=>(Nat.lt_or_ge i os.length).elim (λl=>Heap.get?_push_of_some _ (B.gt i o' ((List.getElem?_append_left l).symm.trans e)))
  (λl=>by
   rw [yk l] at e
   cases z:i-os.length with
   |zero=>
    rw [z] at e
    rw [<-sJx e,xy (Nat.le_of_sub_eq_zero z) l,<-B.sz]
    exact Heap.get?_push_size _ hf
   |succ k=>rw [z] at e;cases e),
 (size_push' h o).trans ((cGx (·+1) B.sz).trans (cGx (h0.objs.size+·) (je (as:=os) (bs:=[o])).symm))⟩
noncomputable def sh(s:Shared)(h:Heap):Shared:={s with heap:=h}
theorem Hx.psh{Q:Value->Shared->Prop}(B:Hx h0 h os)(hf:o.isFreed=false)(k:∀h',Hx h0 h' (os++[o])->Q (.ref (h0.objs.size+os.length)) (sh s h')):Q (.ref h.objs.size) (sh s (h.push o)):=
 B.sz▸k _ (B.push hf)
theorem Hx.upd{f:Obj->Obj}(B:Hx h0 h os)(e:os[i]? =some o)(hf:(f o).isFreed=false):Hx h0 (h.update (h0.objs.size+i) f) (os.set i (f o)):=
 have ne {c:Nat} {o:Obj} (z:h0.get? c=some o):h0.objs.size+i≠c:=xf (kg (Heap.lt_size z) (ji _ _))
 ⟨λc o z=>(Heap.get?_update_other _ _ (ne z)).trans (B.old c o z),λj o' z=>by
  by_cases q:i=j
  ·rw [<-q,yp (xh.mp e).1] at z
   rw [<-q,<-sJx z]
   exact Heap.get?_update_self _ (B.gt i o e) hf
  ·rw [List.getElem?_set_ne q] at z
   exact(Heap.get?_update_other _ _ λz=>q (yi z)).trans (B.gt j o' z),
 ((Heap.SameBut.update (h:=h) ..).1.trans B.sz).trans (cGx (h0.objs.size+·) List.length_set.symm)⟩
section
variable(B:Hx h0 h os)
include B
theorem Hx.new{T:String}{data:Data}{Q:Value->Shared->Prop}(k:∀h',Hx h0 h' (os++[{cls:= .type T,data}])->Q (.ref (h0.objs.size+os.length)) (sh s h'))(hd:sizeOk data)(hf:Obj.isFreed {cls:= .type T,data}=false):wpAny (model prog w) A (newObj (.type T) data) Q E (sh s h):=
 wpAny_newObj_type (B.psh hf k) hd
theorem Hx.fld{vs:Array Value}{Q:Value->Shared->Prop}{k:Nat}(e:os[i]? =some o)(hd:o.data= .fields vs)(hx:vs[k]? =some x)(K:Q x (sh s h)):wpAny (model prog w) A (field (.ref (h0.objs.size+i)) k) Q E (sh s h):=wpAny_field (B.gt i o e) hd hx K
theorem Hx.sfl{vs:Array Value}{Q:Unit->Shared->Prop}{k:Nat}(e:os[i]? =some o)(hd:o.data= .fields vs)(hk:k<vs.size)(K:∀h',Hx h0 h' (os.set i (o.mapFields (·.setIfInBounds k x)))->Q () (sh s h'))(hf:(o.mapFields (·.setIfInBounds k x)).isFreed=false:=by rfl):wpAny (model prog w) A (setField (.ref (h0.objs.size+i)) k x) Q E (sh s h):=wpAny_setField (s:=sh s h) (B.gt i o e) hd hk (K _ (B.upd e hf))
theorem Hx.sqi{Q:Option (Array Value)->Shared->Prop}(e:os[i]? =some o)(hd:o.data= .seq items n)(K:Q (some items) (sh s h)):wpAny (model prog w) A (seqItems? (.ref (h0.objs.size+i))) Q E (sh s h):=wpAny_seqItems (B.gt i o e) hd K
theorem Hx.usq{Q:Unit->Shared->Prop}{f:Array Value->Array Value}(e:os[i]? =some o)(hd:o.data= .seq items n)(hz:items.size<=sizeLine)(hz':(f items).size<=sizeLine+1)(K:∀h',Hx h0 h' (os.set i (o.mapSeq f))->Q () (sh s h'))(hf:(o.mapSeq f).isFreed=false:=by rfl):wpAny (model prog w) A (updateSeq (h0.objs.size+i) f) Q E (sh s h):=wpAny_updateSeq (s:=sh s h) (B.gt i o e) hd (K _ (B.upd e hf)) hz hz'
end
theorem le1:1<=sizeLine:=by decide
theorem le1':1<=sizeLine+1:=by decide
theorem le2:2<=sizeLine:=by decide
theorem le2':2<=sizeLine+1:=by decide
noncomputable abbrev iO(t i:Nat):Obj:={cls:= .type "tuple_iterator",data:= .fields #[.ref t,.int i 0]}
noncomputable abbrev tO(xs:Array Value):Obj:={cls:= .type "tuple",data:= .seq xs}
noncomputable abbrev iE:Obj:={cls:= .type "tuple_iterator",data:= .fields #[.none,.int 1 0]}
noncomputable abbrev xO:Obj:={cls:= .type "StopIteration",data:= .fields (#[.ref 0,.none,.none,.none,.bool false,.none]++ownMembersOf (.type "StopIteration") [])}
theorem cf{c:String}(e:s.heap.get? i=some o)(q:o.cls= .type c):s.TypeIs (.ref i) c:=⟨o,e,q⟩
theorem Ie{Q:Value->Shared->Prop}(B:Hx h0 h os)(e:os[i]? =some (iO t 0))(ht:h0.get? t=some (dc #[x] n))(k:∀h',Hx h0 h' (os.set i (iO t 1))->Q x (sh s h')):wpAny (model prog w) A (Builtin.SmallTypes.nextOf (.ref (h0.objs.size+i))) Q E (sh s h):=by
 have ho:=cf (s:=sh s h) (B.gt i _ e) rfl
 unfold Builtin.SmallTypes.nextOf
 refine wB (wpAny_callSpecial?_slot (name:=Str.ofString "__next__") ho slot_tupleiter_next (wpAny_call_entry slot_tupleiter_next ho entry_tupleiter_next ?_ (args_tupleiter_next _)))
 exact wB (wP (wB (B.fld e rfl rfl (wB (B.fld e rfl rfl (wB (wpAny_seqItems (B.old t _ ht) rfl (wB (B.sfl e rfl (jc 2) λh' B=>wP ⟨x,rfl,wP (k h' B)⟩)))))))))
theorem Ir{α:Type}{Q:α->Shared->Prop}(hh:A.handled=none)(B:Hx h0 h os)(k:∀h' o,Hx h0 h' (os++[tO #[]]++[o])->o.cls= .type "StopIteration"->E (.ref (h0.objs.size+(os++[tO #[]]).length)) (sh s h')):wpAny (model prog w) A (Builtin.SmallTypes.stopIteration:Sem α) Q E (sh s h):=
 wB (wB (B.new (λh' B=>wB (m:=firstArgMember _ _) (wP (B.new (λh' B=>wB (wpAny_handled (hh▸wB (wP (wpAny_throw (k _ _ B rfl)))))) (by size_fits) rfl))) (by size_fits) rfl))
variable{r:List Obj}{a b l1 l2 n':Nat}{v y:Value}
theorem nx_end{Q:Value->Shared->Prop}(hh:A.handled=none)(B:Hx h0 h os)(e:os[i]? =some (iO t 1))(ht:h0.get? t=some (dc #[x] n))
  (k:∀h' o,Hx h0 h' (os.set i iE++[tO #[]]++[o])->o.cls= .type "StopIteration"->E (.ref (h0.objs.size+(os.set i iE++[tO #[]]).length)) (sh s h')):wpAny (model prog w) A (Builtin.SmallTypes.nextOf (.ref (h0.objs.size+i))) Q E (sh s h):=by
 have ho:=cf (s:=sh s h) (B.gt i _ e) rfl
 unfold Builtin.SmallTypes.nextOf
 refine wB (wpAny_callSpecial?_slot (name:=Str.ofString "__next__") ho slot_tupleiter_next (wpAny_call_entry slot_tupleiter_next ho entry_tupleiter_next ?_ (args_tupleiter_next _)))
 exact wB (wP (wB (B.fld e rfl rfl (wB (B.fld e rfl rfl (wB (wpAny_seqItems (B.old t _ ht) rfl (wB (wpAny_rule (wB (B.sfl e rfl (xk 1) λh' B=>Ir (A:=A.in1) hh B k)))))))))))
noncomputable abbrev zO(h:Heap)(f0:Value):Obj:={cls:= .type "zip",data:= .fields #[f0,.bool false,.bool false,.ref (h.objs.size+2),.ref (h.objs.size+3)]}
noncomputable abbrev Cb(h:Heap)(l1 l2 i1 i2:Nat)(a b f0:Value)(r:List Obj):List Obj:=iO l1 i1::iO l2 i2::tO #[.ref (h.objs.size+0),.ref (h.objs.size+1)]::tO #[a,b]::zO h f0::r
theorem for1{M:Model}{α β:Type}{a:α}{l:List α}{b:β}{f:α->β->Sem (ForInStep β)}{Q:β->Shared->Prop}(k:wpAny M A (f a b) (λr s'=>wpAny M A (ForInStep.rec (λb=>pure b) (λb=>forIn l b f) r) Q E s') E s):wpAny M A (forIn (a::l) b f) Q E s:=by
 rw [List.forIn_cons]
 exact wB (wM k (λr _ h=>by cases r<;>exact h) λ_ _ z=>z)
theorem zn_item{Q:Option Value->Shared->Prop}(B:Hx h0 h (Cb h0 l1 l2 0 0 .none .none .none r))(h1:h0.get? l1=some (dc #[x] n))(h2:h0.get? l2=some (dc #[y] n'))
  (k:∀h',Hx h0 h' (Cb h0 l1 l2 1 1 x y (rawInt (h0.objs.size+(r.length+5):Nat)) (r++[tO #[x,y]]))->Q (some (.ref (h0.objs.size+(r.length+5)))) (sh s h')):wpAny (model prog w) A (pyNext (.ref (h0.objs.size+4))) Q E (sh s h):=by
 have hT:=cf (s:=sh s h) (B.gt 4 _ rfl) rfl
 unfold pyNext
 refine wB (wpAny_attempt (wpAny_callSpecial?_slot (name:=Str.ofString "__next__") hT F.slot_zip_next (wpAny_call_entry F.slot_zip_next hT F.entry_zip_next ?_ (F.args_zip_next_1 _))))
 refine wB (wP (wB (B.fld (i:=4) rfl rfl rfl (wB (B.fld (i:=4) rfl rfl rfl (wB (B.sqi (i:=2) rfl rfl (wB ?_))))))))
 refine wB (B.fld (i:=4) rfl rfl rfl (wP (wB (wpAny_rule (wB (B.fld (i:=4) rfl rfl rfl (wB (B.sfl (i:=4) rfl rfl (xk 4) λ_ (B:Hx h0 _ (Cb h0 l1 l2 0 0 .none .none .ellipsis r))=>wB ?_))))))))
 refine for1 (wB (wpAny_onRaise ?_))
 show wpAny _ _ (Builtin.SmallTypes.nextOf (.ref (h0.objs.size+0))>>=_) _ _ _
 refine wB (Ie (i:=0) B rfl h1 λ_ (B:Hx h0 _ (Cb h0 l1 l2 1 0 .none .none .ellipsis r))=>wP (wB (B.sqi (i:=3) rfl rfl (wB (B.usq (i:=3) rfl rfl le2 le2' λ_ (B:Hx h0 _ (Cb h0 l1 l2 1 0 x .none .ellipsis r))=>wB (wpAny_letGo (wP ?_)))))))
 refine for1 (wB (wpAny_onRaise ?_))
 show wpAny _ _ (Builtin.SmallTypes.nextOf (.ref (h0.objs.size+1))>>=_) _ _ _
 refine wB (Ie (i:=1) B rfl h2 λ_ (B:Hx h0 _ (Cb h0 l1 l2 1 1 x .none .ellipsis r))=>wP (wB (B.sqi (i:=3) rfl rfl (wB (B.usq (i:=3) rfl rfl le2 le2' λ_ (B:Hx h0 _ (Cb h0 l1 l2 1 1 x y .ellipsis r))=>wB (wpAny_letGo (wP (wP ?_))))))))
 refine wB (B.sqi (i:=3) rfl rfl (wB (B.new (λ_ (B:Hx h0 _ (Cb h0 l1 l2 1 1 x y .ellipsis (r++[tO #[x,y]])))=>wB ?_) le2 rfl)))
 exact wB (B.sfl (i:=4) rfl rfl (xk 4) λ_ (B:Hx h0 _ (Cb h0 l1 l2 1 1 x y (rawInt (h0.objs.size+(r.length+5):Nat)) (r++[tO #[x,y]])))=>B.sfl (i:=4) rfl rfl (xi (xk 3)) λ_ B=>wP ⟨_,rfl,wP (k _ B)⟩)
noncomputable abbrev zOe(h:Heap)(l2:Nat)(x y f0:Value)(f1:Bool)(r:List Obj):List Obj:=iE::iO l2 1::tO #[.ref (h.objs.size+0),.ref (h.objs.size+1)]::tO #[x,y]::{cls:= .type "zip",data:= .fields #[f0,.bool f1,.bool false,.ref (h.objs.size+2),.ref (h.objs.size+3)]}::r
theorem zn_end{Q:Option Value->Shared->Prop}(hh:A.handled=none)(B:Hx h0 h (Cb h0 l1 l2 1 1 x y (rawInt (h0.objs.size+(i+5):Nat)) r))(hi:r[i]? =some o)(h1:h0.get? l1=some (dc #[v] n))
  (k:∀h' o' o'',Hx h0 h' (iE::iO l2 1::tO #[.ref (h0.objs.size+0),.ref (h0.objs.size+1)]::tO #[x,y]::o'::(r++[tO #[]]++[o'']))->Q none (sh s h')):wpAny (model prog w) A (pyNext (.ref (h0.objs.size+4))) Q E (sh s h):=by
 have hT:=cf (s:=sh s h) (B.gt 4 _ rfl) rfl
 unfold pyNext
 refine wB (wpAny_attempt (wpAny_callSpecial?_slot (name:=Str.ofString "__next__") hT F.slot_zip_next (wpAny_call_entry F.slot_zip_next hT F.entry_zip_next ?_ (F.args_zip_next_1 _))))
 refine wB (wP (wB (B.fld (i:=4) rfl rfl rfl (wB (B.fld (i:=4) rfl rfl rfl (wB (B.sqi (i:=2) rfl rfl (wB ?_))))))))
 refine wB (B.fld (i:=4) rfl rfl rfl (wB (kdx_alive (B.gt (i+5) _ hi) ?_)))
 refine wB (B.fld (i:=4) rfl rfl rfl (wB (B.sfl (i:=4) rfl rfl (xi (xk 3)) λ_ (B:Hx h0 _ (iO l1 1::iO l2 1::tO #[.ref (h0.objs.size+0),.ref (h0.objs.size+1)]::tO #[x,y]::{cls:= .type "zip",data:= .fields #[rawInt (h0.objs.size+(i+5):Nat),.bool true,.bool false,.ref (h0.objs.size+2),.ref (h0.objs.size+3)]}::r))=>wP ?_)))
 refine wB ?_
 rw [<-Array.forIn_toList]
 refine for1 (wB (wpAny_holding ?_))
 show wpAny _ _ (Builtin.SmallTypes.nextOf (.ref (h0.objs.size+0))>>=_) _ _ _
 exact wB (nx_end hh (i:=0) B rfl h1 λ_ o'' B e=>wB (wpAny_isInstance (T:="StopIteration") (b:=true) (cf (B.gt _ o'' (by rw [yk (jc _),Nat.sub_self];rfl)) e) isSubtype_stop (wP (k _ _ o'' B))))
theorem Hx.itr{Q:Value->Shared->Prop}(B:Hx h0 h os)(e:h0.get? t=some (dc items n))(k:∀h',Hx h0 h' (os++[iO t 0])->Q (.ref (h0.objs.size+os.length)) (sh s h')):wpAny (model prog w) A (pyIter (.ref t)) Q E (sh s h):=
 iter_tuple ⟨_,B.old t _ e,rfl,_,rfl⟩ (B.psh rfl k)
theorem zn_new(l1 l2:Nat)(x y:Value)(n n':Nat):Meets (Builtin.«zip.__new__» ⟨[.type "zip",.ref l1,.ref l2],[]⟩) λ_ R s=>s.heap.get? l1=some (dc #[x] n)/\s.heap.get? l2=some (dc #[y] n')/\∀h',Hx s.heap h' (Cb s.heap l1 l2 0 0 .none .none .none [])->R (.ok (.ret (.ref (s.heap.objs.size+4)))) (sh s h'):=
 .of_wp λprog w A R s h=>by
  obtain⟨h1,h2,k⟩:=h
  show wpAny _ _ _ _ _ (sh s s.heap)
  refine wB ?_
  show wpAny _ _ (isSubtype (.type "zip") (.type "zip")>>=_) _ _ _
  rw [sub_zip]
  refine wB (wP (wP (wB (wB ?_))))
  refine for1 (wB (wpAny_holding (Hx.nil.itr h1 λ_ (B:Hx s.heap _ [iO l1 0])=>wP (for1 (wB (wpAny_holding (B.itr h2 λ_ (B:Hx s.heap _ [iO l1 0,iO l2 0])=>wP (wP (wP ?_)))))))))
  refine wB (B.new (λ_ (B:Hx s.heap _ [iO l1 0,iO l2 0,tO #[.ref (s.heap.objs.size+0),.ref (s.heap.objs.size+1)]])=>wB (B.new (λ_ (B:Hx s.heap _ [iO l1 0,iO l2 0,tO #[.ref (s.heap.objs.size+0),.ref (s.heap.objs.size+1)],tO #[.none,.none]])=>wB ?_) le2 rfl)) le2 rfl)
  show wpAny _ _ (newObj (.type "zip") (.fields #[.none,.bool false,.bool false,.ref (s.heap.objs.size+2),.ref (s.heap.objs.size+3)])) _ _ _
  exact B.new (λh' B=>wP ⟨_,rfl,k h' B⟩) (by size_fits) rfl
theorem call_zip{Q:Value->Shared->Prop}(h1:s.heap.get? l1=some (dc #[x] n))(h2:s.heap.get? l2=some (dc #[y] n'))(k:∀h',Hx s.heap h' (Cb s.heap l1 l2 0 0 .none .none .none [])->Q (.ref (s.heap.objs.size+4)) (sh s h')):wpAny (model prog w) A (call (.type "zip") [.ref l1,.ref l2]) Q E s:=
 callType_new F.called_zip (by decide) (F.typeCall_zip_2 _ _) (F.newCall_zip_2 _ _) (λobj=>F.args_object_init_3 obj _ _) F.entry_zip_new (zn_new l1 l2 x y n n') ⟨h1,h2,λh' B=>⟨cf (s:=sh s h') (B.gt 4 _ rfl) rfl,k h' B⟩⟩
noncomputable abbrev lO(xs:Array Value)(c:Nat):Obj:={cls:= .type "list",data:= .seq xs c}
theorem Li{Q:Value->Shared->Prop}(hh:A.handled=none)(B:Hx h0 h (Cb h0 l1 l2 0 0 .none .none .none []))(h1:h0.get? l1=some (dc #[x] n))(h2:h0.get? l2=some (dc #[y] n'))
  (k:∀h' c os',Hx h0 h' os'->os'[5]? =some (lO #[.ref (h0.objs.size+6)] c)->os'[6]? =some (tO #[x,y])->Q (.ref (h0.objs.size+5)) (sh s h')):wpAny (model prog w) A (call (.type "list") [.ref (h0.objs.size+4)]) Q E (sh s h):=by
 refine callType_codes (Q₁:=λobj s₁=>∃h1,obj= .ref (h0.objs.size+5)/\s₁=sh s h1/\Hx h0 h1 (Cb h0 l1 l2 0 0 .none .none .none [lO #[] 0])) PySem.F.called_list (PySem.F.typeCall_list_1 _) PySem.F.entry_list_init (code_list_new _ (B.psh (Q:=λv s1=>∃h1,v= .ref (h0.objs.size+5)/\s1=sh s h1/\Hx h0 h1 _) rfl λh' B=>⟨h',rfl,rfl,B⟩)) λobj s₁ h₁=> ?_
 obtain⟨h,rfl,rfl,B⟩:=h₁
 refine⟨cf (s:=sh s h) (B.gt 5 _ rfl) rfl,PySem.F.args_list_init_2 _ _,?_⟩
 refine wB (wB (B.sqi (i:=5) rfl rfl (wP (wB (B.usq (i:=5) (n:=0) rfl rfl (jo _) (jo _) λ_ (B:Hx h0 _ (Cb h0 l1 l2 0 0 .none .none .none [lO #[] 0]))=>wB (wpAny_letGo ?_))))))
 show wpAny _ _ (Builtin.List.listExtendWith _ _ _) _ _ _
 unfold Builtin.List.listExtendWith
 have hT:=cf (s:=sh s _) (B.gt 4 _ rfl) rfl
 refine wB (wpAny_typeOf hT (wpAny_ite_split (λz=>absurd z ?_) λ_=> ?_))
 ·have g:Builtin.List.listSameRef (.ref (h0.objs.size+5)) (.ref (h0.objs.size+4))=false:=beq_false_of_ne λq=>absurd (yi q) (by decide)
  rw [g]
  decide
 refine wB (wpAny_pyIter_zip (B.gt 4 _ rfl) (wB (wpAny_holding ?_)))
 refine wB (wpAny_specialOf hT (show typeLookup (.type "zip") "__len__"=pure none by rw [typeLookup_type,builtinLookup_eq_fast];kernel_rfl) (wB (wpAny_specialOf hT (show typeLookup (.type "zip") "__length_hint__"=pure none by rw [typeLookup_type,builtinLookup_eq_fast];kernel_rfl) (wP ?_))))
 refine wB (wpAny_rule (wB (wB (B.usq (i:=5) (n:=0) rfl rfl (jo _) le1' λ_ (B:Hx h0 _ (Cb h0 l1 l2 0 0 .none .none .none [lO #[.none] 1]))=>B.usq (i:=5) (n:=1) rfl rfl le1 (jo _) λ_ (B:Hx h0 _ (Cb h0 l1 l2 0 0 .none .none .none [lO #[] 2]))=>wP ⟨plainId_quiet PySem.F.plain_extend_loop _,codeAny_builtin PySem.F.entry_extend_loop ?_⟩))))
 rw [Around.under_plainId PySem.F.plain_extend_loop _]
 refine wB (zn_item B h1 h2 λ_ (B:Hx h0 _ (Cb h0 l1 l2 1 1 x y (rawInt (h0.objs.size+6:Nat)) [lO #[] 2,tO #[x,y]]))=>wB (B.usq (i:=5) (n:=2) rfl rfl (jo _) le1' λ_ (B:Hx h0 _ (Cb h0 l1 l2 1 1 x y (rawInt (h0.objs.size+(1+5):Nat)) [lO #[.ref (h0.objs.size+6)] 3,tO #[x,y]]))=>wP ⟨plainId_quiet PySem.F.plain_extend_loop _,codeAny_builtin PySem.F.entry_extend_loop ?_⟩))
 rw [Around.under_plainId PySem.F.plain_extend_loop _]
 exact wB (zn_end hh B rfl h1 λ_ _ _ B=>wP ⟨rfl,k _ 3 _ B rfl rfl⟩)
variable{c c1:Cx}{F:Fm}{U:Tg->Prop}{G:Gh}{d e:PyData}
theorem one_dr{P:Nat->Option Obj}{items:Array Value}(r:DRs P [d] items.toList):∃x,items=#[x]/\DR P d x:=by
 obtain⟨x,ys,e,r1,r2⟩:=r
 exact⟨x,Array.toList_inj.mp (e.trans (cGx (x::·) r2)),r1⟩
theorem e_lzip{x y:Str}{es:List Expr}{p p2 pos1 pos2:Pos}(N1:NmE F c x p (.type "list"))
  (N2:NmE F c y p2 (.type "zip")) (E:Ce F U c es [.dat (.tuple [d]),.dat (.tuple [e])] c1)
  (hn1:(backTo pos1 (starEach es F.env)).any (·.1)=false) (hn2:(backTo pos2 (starEach [.Call (.Name y p2) es [] pos1] F.env)).any (·.1)=false):
  Ev F U c (.Call (.Name x p) [.Call (.Name y p2) es [] pos1] [] pos2) (.dat (.list [.tuple [d,e]])) c1:=λG s S=>by
 refine Call_Name rfl (N1 G s S _ λs1 hs1 q1=>callWith_of (P:=F.W.K.In) (by rw [hn2];rfl) p6 (ub (Q0:=λvs s2=>∃z,vs=[.ref z]/\F.W.K.In s2.heap/\wpAny (Mk F.W) F.A (call (.type "list") [.ref z]) (RA F U c1 G s λG=>AVR G (.dat (.list [.tuple [d,e]]))) no s2) (spliced_more ?_) hn2 λvs s2 ⟨z,e,x,y⟩=>by subst e;exact⟨x,y⟩))
 refine Call_Name rfl (N2 G s1 (hs1▸S) _ λs2 hs2 q2=>callWith_of (P:=F.W.K.In) (by rw [hn1];rfl) p6 (sf E (hs2▸hs1▸S) hn1 λvs s3 z=> ?_))
 obtain⟨G3,g3,S3,r3,q3⟩:=z
 refine⟨S3.kin,?_⟩
 obtain⟨xa,xb,rfl,ra,rb⟩:=np r3
 obtain⟨l1,it1,n1,rfl,p1,ra⟩:=ra
 obtain⟨l2,it2,n2,rfl,p2,rb⟩:=rb
 obtain⟨xa,rfl,da⟩:=one_dr ra
 obtain⟨xb,rfl,db⟩:=one_dr rb
 have h1:=S3.sr.prot _ _ (.inl p1)
 have h2:=S3.sr.prot _ _ (.inl p2)
 refine call_zip h1 h2 λh4 B4=>wP ⟨_,rfl,(S3.keeps B4.old).kin,Li S3.fr.st.hnd B4 h1 h2 λh5 c5 os B5 e5 e6=> ?_⟩
 have f6:¬G3.has (s3.heap.objs.size+6):=S3.sr.fresh (ji _ _)
 have ne:s3.heap.objs.size+5≠s3.heap.objs.size+6:=λz=>absurd (yi z) (by decide)
 have f5:=Ic (ob:=tO #[xa,xb]) ne (S3.sr.fresh (ji s3.heap.objs.size 5))
 have g:=(Gr.prot (U:=U) f6).trans (.prot f5 (ob:=lO #[.ref (s3.heap.objs.size+6)] c5))
 have S5:=((S3.keeps B5.old).protect f6 (S3.fr.fresh (ji _ _)) (B5.gt 6 _ e6)).protect f5 (S3.fr.fresh (ji _ _)) (B5.gt 5 _ e5)
 exact⟨_,g3.trans g,S5,⟨_,_,_,rfl,if_pos rfl,_,_,rfl,⟨_,_,_,rfl,(if_neg ne.symm).trans (if_pos rfl),_,_,rfl,DR.mono g.p _ _ da,_,_,rfl,DR.mono g.p _ _ db,rfl⟩,rfl⟩,q1.trans (q2.trans (q3.trans (SS.heap h5 s3.toks)))⟩
variable{K:Nat->Int}{cmp:Nat->Nat->(Bool->Shared->Prop)->Shared->Prop}{p:Array Nat}
noncomputable def ky(K:Nat->Int)(p:Array Nat)(i:Nat):Int:=K (p.getD i 0)
def PN(n:Nat)(p:Array Nat):Prop:=p.Perm (List.range n).toArray
def Al(n:Nat)(K:Nat->Int)(cmp:Nat->Nat->(Bool->Shared->Prop)->Shared->Prop)(s:Shared):Prop:=
 ∀p i j C,PN n p->i<n->j<n->i≠j->(ky K p i<ky K p j->C true s)->(ky K p j<ky K p i->C false s)->cmp (p.getD i 0) (p.getD j 0) C s
def Upw(K:Nat->Int)(p:Array Nat)(m:Nat):Prop:=∀i,i+1<m->ky K p i<ky K p (i+1)
def Dnw(K:Nat->Int)(p:Array Nat)(m:Nat):Prop:=∀i,i+1<m->ky K p (i+1)<ky K p i
theorem PN.size(h:PN n p):p.size=n:=(Array.Perm.size_eq h).trans (xu.trans qx)
theorem Dc{p q:Array Nat}{i j:Nat}(h:p[i]? =q[j]?):ky K p i=ky K q j:=by
 unfold ky
 rw [yu,yu,h]
theorem Upw.snoc{m:Nat}(h:Upw K p m)(g:ky K p (m-1)<ky K p m):Upw K p (m+1):=λi hi=>
 (Nat.lt_or_ge (i+1) m).elim (h i) λl=>have e:i+1=m:=xy (xz hi) l
  by rw [<-e] at g;exact g
theorem Dnw.snoc{m:Nat}(h:Dnw K p m)(g:ky K p m<ky K p (m-1)):Dnw K p (m+1):=λi hi=>
 (Nat.lt_or_ge (i+1) m).elim (h i) λl=>have e:i+1=m:=xy (xz hi) l
  by rw [<-e] at g;exact g
theorem Upw.lt{m i j:Nat}(h:Upw K p m)(l:i<j):j<m->ky K p i<ky K p j:=by
 obtain⟨d,rfl⟩:=Nat.exists_eq_add_of_lt l
 induction d with
 |zero=>exact h i
 |succ d ih=>exactλz=>Int.lt_trans (ih (Nat.lt_succ_of_le (ji i d)) (Nat.lt_of_succ_lt z)) (h _ z)
theorem asc_ok{Q:Nat->Shared->Prop}(A:Al n K cmp s)(hp:PN n p)(k:∀r,1<=r->r<=n->Upw K p r->(r<n->ky K p r<ky K p (r-1))->Q r s)(f:Nat):∀m,1<=m->m+f=n->Upw K p m->(kas_asc p f m).kasWp cmp Q s:=by
 induction f with
 |zero=>exactλm h1 e hu=>k m h1 (jd e) hu λl=>absurd e (qw l)
 |succ f ih=>
  exactλm h1 e hu=>have l:m<n:=e▸ya (qy f);
  A p m (m-1) _ hp l (jq (Nat.sub_le m 1) l) (xf (Nat.sub_lt h1 Nat.one_pos)) (λc=>k m h1 (qk l) hu λ_=>c) λc=>ih (m+1) (qm h1) ((wg m f).trans e) (hu.snoc c)
theorem desc_ok{Q:Array Nat×Nat×Nat->Shared->Prop}(A:Al n K cmp s)(hp:PN n p)(k:∀r,1<=r->r<=n->Dnw K p r->Q (p,r,0) s)(f:Nat):∀m,1<=m->m+f=n->Dnw K p m->(kas_desc f p m 0).kasWp cmp Q s:=by
 induction f with
 |zero=>exactλm h1 e hu=>k m h1 (jd e) hu
 |succ f ih=>
  exactλm h1 e hu=>have l:m<n:=e▸ya (qy f);
  have l1:=jq (Nat.sub_le m 1) l;
  have ne:=xf (Nat.sub_lt h1 Nat.one_pos);
  A p m (m-1) _ hp l l1 ne (λc=>ih (m+1) (qm h1) ((wg m f).trans e) (hu.snoc c))
   λc=>A p (m-1) m _ hp l1 l ne.symm (λ_=>k m h1 (qk l) hu) λc'=>absurd c (Int.lt_asymm c')
theorem ky_rev{m:Nat}(hm:m<=p.size){i:Nat}(h:i<m):ky K (kas_rev p 0 m) i=ky K p (m-1-i):=
 Dc ((getElem?_mirror_all (xs:=p) (i:=0) hm i).trans ((if_pos ⟨jo _,h⟩).trans (by rw [qn])))
theorem ky_rev0{m:Nat}(hm:m<=p.size){i:Nat}(h:m<=i):ky K (kas_rev p 0 m) i=ky K p i:=
 Dc ((getElem?_mirror_all (xs:=p) (i:=0) hm i).trans (if_neg λz=>qr.mpr h z.2))
theorem Dnw.rev{m:Nat}(hm:m<=p.size)(h:Dnw K p m):Upw K (kas_rev p 0 m) m:=λi hi=>by
 rw [ky_rev hm hi,ky_rev hm (Nat.lt_of_succ_lt hi)]
 obtain⟨d,rfl⟩:=Nat.exists_eq_add_of_lt hi
 rw [yo,Nat.add_sub_cancel_left,qh,Nat.add_sub_cancel_left,we 1]
 exact h d (xi (Nat.lt_add_of_pos_left (qy i)))
theorem tail_ok{Q:Nat×Array Nat->Shared->Prop}(A:Al n K cmp s)(hp:PN n p)(k:∀r q,PN n q->1<=r->r<=n->Upw K q r->Q (r,q) s){m:Nat}(h1:1<=m)(hm:m<=n)(h:Dnw K p m):(kas_tail3 m n p).kasWp cmp Q s:=by
 unfold kas_tail3
 rw [KasT.kasWp_bind]
 have hq:PN n (kas_rev p 0 m):=(mirror_perm _ _ _ _).trans hp
 exact asc_ok A hq (λr r1 r2 u _=>k r _ hq r1 r2 u) (n-m) m h1 (yq hm) (h.rev (hp.size▸hm))
theorem Co{Q:Nat×Array Nat->Shared->Prop}(A:Al n K cmp s)(hp:PN n p)(k:∀r q,PN n q->1<=r->r<=n->Upw K q r->Q (r,q) s){m:Nat}(h1:1<=m)(hm:m<n)(h:Dnw K p (m+1)):(kas_descPart m n p).kasWp cmp Q s:=by
 unfold kas_descPart
 rw [KasT.kasWp_bind]
 exact desc_ok A hp (λr r1 r2 d=>tail_ok A hp k r1 r2 d) (n-(m+1)) (m+1) (qm h1) (yq hm) h
theorem count_ok{Q:Nat×Array Nat->Shared->Prop}(A:Al n K cmp s)(hp:PN n p)(hn:1<=n)(k:∀r q,PN n q->1<=r->r<=n->Upw K q r->Q (r,q) s):(kas_count n p).kasWp cmp Q s:=by
 unfold kas_count
 rw [KasT.kasWp_bind]
 refine asc_ok A hp (λr h1 h2 u e=> ?_) (n-1) 1 (jc _) (yq hn) λi hi=>absurd (yb hi) (Nat.not_lt_zero i)
 by_cases q:r=n
 ·rw [if_pos (beq_iff_eq.mpr q)]
  exact k r p hp h1 h2 u
 ·have l:=Nat.lt_of_le_of_ne h2 q
  rw [if_neg λz=>q (beq_iff_eq.mp z)]
  by_cases g:r>1
  ·rw [if_pos g]
   refine A p 0 (r-1) _ hp (kg h1 h2) (jq (Nat.sub_le r 1) l) (qw (Nat.sub_pos_of_lt g)) (λ_=>k r p hp h1 h2 u) λc=>absurd c (Int.lt_asymm ?_)
   exact u.lt (Nat.sub_pos_of_lt g) (Nat.sub_lt h1 Nat.one_pos)
  ·rw [if_neg g]
   have r1:r=1:=xy (xw g) h1
   exact Co A hp k h1 l (Dnw.snoc (λi hi=>by rw [r1] at hi;exact absurd (yb hi) (Nat.not_lt_zero i)) (e l))
theorem place_ok{Q:Nat->Shared->Prop}(A:Al n K cmp s)(hp:PN n p){k:Nat}(hk:k<n)(C:∀x,x<=k->(∀i,i+1=x->ky K p i<ky K p k)->(x<k->ky K p k<ky K p x)->Q x s)(f:Nat):∀l r,r<=l+f->l<=r->r<=k->(∀i,i+1=l->ky K p i<ky K p k)->(r<k->ky K p k<ky K p r)->(kas_place p k f l r).kasWp cmp Q s:=by
 induction f with
 |zero=>exactλl r h0 h1 h2 a b=>C l (ja h1 h2) a ((xy h0 h1:r=l)▸b)
 |succ f ih=>
  intro l r h0 h1 h2 a b
  unfold kas_place
  by_cases q:l≥r
  ·rw [if_pos q]
   exact C l (ja h1 h2) a (xy q h1▸b)
  ·rw [if_neg q]
   have lr:=Nat.lt_of_not_le q
   have m1:l<=(l+r)/2:=(Nat.le_div_iff_mul_le Nat.zero_lt_two).mpr (by rw [Nat.mul_two];exact jv h1 l)
   have m2:(l+r)/2<r:=Nat.div_lt_of_lt_mul (by rw [Nat.two_mul];exact Nat.add_lt_add_right lr r)
   have m3:=kg m2 h2
   exact A p k ((l+r)/2) _ hp hk (Nat.lt_trans m3 hk) (xf m3) (λc=>ih l _ (xz (kg m2 h0)) m1 (qk m3) a λ_=>c)
    λc=>ih _ r (by rw [wg];exact ja h0 (xl m1 _)) m2 h2 (λi e=>Nat.succ.inj e▸c) b
theorem ky_bub{i j d:Nat}(hs:i<p.size)(h:i=j+d)(k:Nat):ky K (bubble p i d) k=if k=j then ky K p i else if j<k/\k<=i then ky K p (k-1) else ky K p k:=by
 have z:i-d=j:=Nat.sub_eq_of_eq_add h
 have e:=getElem?_bubble hs d (h▸Nat.le_add_left d j) k
 rw [z] at e
 by_cases h1:k=j
 ·rw [if_pos h1] at e⊢
  exact Dc e
 ·rw [if_neg h1] at e⊢
  by_cases h2:j<k/\k<=i
  ·rw [if_pos h2] at e⊢
   exact Dc e
  ·rw [if_neg h2] at e⊢
   exact Dc e
theorem bin_ok{Q:Array Nat->Shared->Prop}(A:Al n K cmp s)(C:∀q,PN n q->Upw K q n->Q q s)(f:Nat):∀p k,k+f=n->PN n p->Upw K p k->(kas_bin f p k).kasWp cmp Q s:=by
 induction f with
 |zero=>exactλp k e hp u=>C p hp (e▸u)
 |succ f ih=>
  intro p k e hp u
  have hk:k<n:=e▸ya (qy f)
  unfold kas_bin
  rw [KasT.kasWp_bind]
  refine place_ok A hp hk (λl hl a b=>ih _ _ ((wg k f).trans e) ((bubble_perm _ _ _).trans hp) λi hi=> ?_) k 0 k (jd (qn k).symm) (jo k) (jc k) (λi e=>(by nomatch e)) λz=>absurd z (Nat.lt_irrefl k)
  have g:=ky_bub (K:=K) (hp.size▸hk) (yq hl).symm
  rw [g,g]
  have ik:=yb hi
  rcases Nat.lt_trichotomy i l with z|rfl|z
  ·rw [if_neg (qw z),if_neg λy=>Nat.lt_asymm z y.1]
   by_cases y:i+1=l
   ·rw [if_pos y];exact a i y
   ·rw [if_neg y,if_neg λx=>qr.mpr z x.1]
    exact u i (kg (Nat.lt_of_le_of_ne z y) hl)
  ·rw [if_pos rfl,if_neg (Nat.succ_ne_self i),if_pos ⟨wq i,ik⟩]
   exact b ik
  ·rw [if_neg (xf z),if_pos ⟨z,qk ik⟩,if_neg (xf (Nat.lt_succ_of_lt z)),if_pos ⟨Nat.lt_succ_of_lt z,ik⟩,yo]
   obtain⟨d,rfl⟩:=Nat.exists_eq_add_of_lt z
   exact u (l+d) ik
theorem sort_ok{Q:Array Nat->Shared->Prop}(A:Al n K cmp s)(hn:1<=n)(C:∀q,PN n q->Upw K q n->Q q s):(kas_sort n).kasWp cmp Q s:=by
 unfold kas_sort
 rw [KasT.kasWp_bind]
 refine count_ok A (p:=wy (List.range n)) (Array.Perm.refl _) hn λr q hq h1 h2 u=> ?_
 by_cases z:r<n
 ·rw [if_pos z]
  show(kas_bin (n-max r 1) q (max r 1)).kasWp cmp Q s
  rw [Nat.max_eq_left h1]
  exact bin_ok A C (n-r) q r (yq h2) hq u
 ·rw [if_neg z]
  exact C q hq (xy h2 (xw z)▸u)
end
section
variable{prog:Program}{w:World}{A:Around}{E:Value->Shared->Prop}{s:Shared}{a b n m:Nat}{xs ys:Array Value}{x y:Int}{t u:Tok}
theorem lt_heads{Q:Bool->Shared->Prop}(hu:A.units<cLine)(ha:s.heap.get? a=some (listOf xs n))(hb:s.heap.get? b=some (listOf ys m))(ex:xs[0]? =some (.int x t))(ey:ys[0]? =some (.int y u))(ne:x≠y)(h:Q (decide (x<y)) s):wpAny (model prog w) A (oneLt' true (.ref a) (.ref b)) Q E s:=by
 rw [oneLt'_eq,if_pos rfl]
 have hT:s.TypeIs (.ref a) "list":=⟨_,ha,rfl⟩
 refine wB (wpAny_cRoomFor hu (wB (wpAny_callSpecialIfBound?_slot hT PySem.F.slot_list_lt (wpAny_call (codeAny_call_builtin PySem.F.slot_list_lt.plain PySem.F.entry_list_lt (PySem.F.slot_list_lt.check _ _ _ _ _ _ _ _ hT (PySem.F.args_list_lt_2 _ _) ?_))))))
 refine wB (wP (wB (wpAny_isInstance (show s.TypeIs (.ref b) "list" from⟨_,hb,rfl⟩) AutoSeq1.sub_list_list (wP ⟨plainId_quiet MeetsSeq3.plain_eq_loop _,codeAny_builtin MeetsSeq3.entry_eq_loop ?_⟩))))
 rw [Around.under_plainId MeetsSeq3.plain_eq_loop _]
 refine wB (wB (wpAny_seqItems ha rfl (wP (wB (wB (wpAny_seqItems hb rfl (wP ?_)))))))
 rw [show(xs[(0:Int).toNat]? =_) from ex,show(ys[(0:Int).toNat]? =_) from ey]
 refine wB (wpAny_eqBool_int ?_)
 rw [beq_false_of_ne ne]
 refine wB (wB (wpAny_seqItems ha rfl (wP (wB (wB (wpAny_seqItems hb rfl (wP ?_)))))))
 rw [show(xs[(0:Int).toNat]? =_) from ex,show(ys[(0:Int).toNat]? =_) from ey]
 exact wB (PyProof.Rows.lt_int (wP (wpAny_truthy_bool h)))
variable{l:Nat}{vs:List Value}{K:Nat->Int}{h0 h:Heap}
def LsAt(h:Heap)(vs:List Value)(K:Nat->Int):Prop:=∀i,i<vs.length->∃b items m t,vs.getD i .none= .ref b/\h.get? b=some (listOf items m)/\items[0]? =some (.int (K i) t)
noncomputable def outs(vs:List Value)(p:Array Nat):Array Value:=wy (p.toList.map λi=>vs.getD i Value.none)
def Inj(n:Nat)(K:Nat->Int):Prop:=∀i j,i<n->j<n->i≠j->K i≠K j
theorem Dz{n:Nat}{p:Array Nat}(h:PN n p){i:Nat}(hi:i<n):p.getD i 0<n/\p.toList[i]? =some (p.getD i 0):=by
 have hs:i<p.size:=h.size.symm▸hi
 have e:p[i]? =some p[i]:=yr hs
 have e2:p.getD i 0=p[i]:=by rw [yu,e];rfl
 rw [e2,wp,e]
 exact⟨wd.mp ((yv.mp h).mem_iff.mp (Array.getElem_mem_toList hs)),rfl⟩
theorem pn_inj{n:Nat}{p:Array Nat}(h:PN n p){i j:Nat}(hi:i<n)(hj:j<n)(ne:i≠j):p.getD i 0≠p.getD j 0:=λe=>by
 have nd:p.toList.Nodup:=(yv.mp h).nodup_iff.mpr List.nodup_range
 have a:=(Dz h hi).2
 exact ne ((List.getElem?_inj (by rw [ju,h.size];exact hi) nd).mp (a.trans ((cGx some e).trans (Dz h hj).2.symm)))
theorem asks(hu:A.units<cLine)(B:∀b o,h0.get? b=some o->h.get? b=some o)(H:LsAt h0 vs K)(I:Inj vs.length K):Al vs.length K (kas_cmp prog w A oneType' (pairsOf vs)) (sh s h):=λp i j C hp hi hj ne k1 k2=>by
 rw [<-kas_ask_eq]
 have a:=(Dz hp hi).1
 have b:=(Dz hp hj).1
 obtain⟨b1,i1,m1,t1,e1,g1,x1⟩:=H _ a
 obtain⟨b2,i2,m2,t2,e2,g2,x2⟩:=H _ b
 have ne':=I _ _ a b (pn_inj hp hi hj ne)
 unfold kas_ask
 rw [e1,e2,keyLt'_oneType]
 refine lt_heads (s:=sh s h) hu (B _ _ g1) (B _ _ g2) x1 x2 ne' ?_
 by_cases z:K (p.getD i 0)<K (p.getD j 0)
 ·rw [dTx z];exact k1 z
 ·rw [dFx z];exact k2 (Int.lt_iff_le_and_ne.mpr ⟨Int.not_lt.mp z,ne'.symm⟩)
theorem srt_kind(B:∀b o,h0.get? b=some o->h.get? b=some o)(H:LsAt h0 vs K):wpAny (model prog w) A (if vs.toArray.size<2 then pure general' else keyKind' vs.toArray) (λk s'=>s'=sh s h/\(¬vs.toArray.size<2->k=oneType')) E (sh s h):=by
 by_cases z:vs.toArray.size<2
 ·rw [if_pos z];exact wP ⟨rfl,λn=>absurd z n⟩
 ·rw [if_neg z]
  refine kas_kind (T:= .type "list") (xw z) (λv hm=> ?_) (by decide) (by decide) ⟨rfl,λ_=>rfl⟩
  obtain⟨i,hi,rfl⟩:=List.mem_iff_getElem.mp hm
  obtain⟨b,items,m,t,e1,e2,_⟩:=H i hi
  rw [(List.getElem_eq_getD Value.none).trans e1]
  exact(Looks.ld (B _ _ e2)).andThen .now
theorem srt_run{k:SortKind}(hu:A.units<cLine)(B:∀b o,h0.get? b=some o->h.get? b=some o)(H:LsAt h0 vs K)(I:Inj vs.length K)(h64:vs.length<64)(hk:¬vs.toArray.size<2->k=oneType'):
  wpAny (model prog w) A ((if vs.toArray.size<2 then pure () else sortRuns').run (SortSt.mk' k (vs.toArray.zip vs.toArray) #[] 7 none)) (λr s'=>s'=sh s h/\∃p,PN vs.length p/\Upw K p vs.length/\arrOf r.2=p.map (kas_item (pairsOf vs))/\failedOf r.2=none) E (sh s h):=by
 have e:=kas_range (pairsOf vs)
 rw [pairsOf_size] at e
 by_cases z:vs.toArray.size<2
 ·rw [if_pos z]
  exact wP ⟨rfl,_,Array.Perm.refl _,λi hi=>absurd (kg hi (xz z)) (qr.mpr (jm (jo i))),e.symm,rfl⟩
 ·rw [if_neg z,hk z]
  have run:=kas_runs (E:=E) (n:=vs.length) (G:=λq s'=>s'=sh s h/\PN vs.length q/\Upw K q vs.length) (Q:=λ_ st' s'=>s'=sh s h/\∃p,PN vs.length p/\Upw K p vs.length/\arrOf st'=p.map (kas_item (pairsOf vs))/\failedOf st'=none) (xw z) h64 (λp' st' s' a1 a2 a3 a4=>⟨a4.1,p',a4.2.1,a4.2.2,a2,a3⟩) (sort_ok (asks (prog:=prog) (w:=w) hu B H I) (ja (ko 1) (xw z)) λq hq up=>⟨rfl,hq,up⟩)
  unfold kas_st at run
  rw [e] at run
  exact run
theorem ite_jp{M:Model}{α β:Type}{c:Prop}[Decidable c]{a b:Sem α}{f:α->Sem β}{Q:β->Shared->Prop}(h:wpAny M A ((if c then a else b)>>=f) Q E s):wpAny M A (if c then a>>=f else b>>=f) Q E s:=by
 by_cases z:c
 ·rw [if_pos z] at h⊢;exact h
 ·rw [if_neg z] at h⊢;exact h
theorem list_srt{i:Nat}{os:List Obj}{P:PySem.Fin->Shared->Prop}(hu:A.units<cLine)(B:Hx h0 h os)(e:os[i]? =some (lO vs.toArray n))(h64:vs.length<64)(H:LsAt h0 vs K)(I:Inj vs.length K)
  (k:∀h' c p os',PN vs.length p->Upw K p vs.length->Hx h0 h' os'->os'[i]? =some (lO (outs vs p) c)->P (.done (.ret .none)) (sh s h')):wpAny (model prog w) A (Builtin.«list.sort» ⟨[.ref (h0.objs.size+i)],[]⟩) P E (sh s h):=by
 have z:vs.length<=sizeLine:=ja (qk h64) (by decide)
 have li:i<os.length:=(xh.mp e).1
 have st:∀{os:List Obj} {o:Obj} {r:List Obj},i<os.length->(os.set i o++r)[i]? =some o:=λ{os o r} li=>by
  rw [List.getElem?_append_left (by rw [List.length_set];exact li),yp li]
 rw [list_sort_plain]
 refine wB (listItems_at (s:=sh s h) (B.gt i _ e) rfl (wB (B.usq (n:=n) e rfl z (jo _) λh1 B1=> ?_)))
 refine wB (seqEpoch_at (s:=sh s h1) (B1.gt i _ (yp li)) rfl (wB (B1.new (λh2 B2=>wB (B2.new (λh3 B3=>wpAny_holding ?_) (jo _) rfl)) z rfl)))
 have B4:Hx h0 h3 _:=jy ..▸B3
 refine ite_jp (wB (wM (srt_kind B4.old H) (λkd s' y=> ?_) λ_ _ z=>z))
 rw [y.1]
 refine wB (wM (srt_run hu B4.old H I h64 y.2) (λr s' y=> ?_) λ_ _ z=>z)
 obtain⟨e1,p,hp,up,ea,ef⟩:=y
 have eo:(arrOf r.2).map (·.2)=outs vs p:=by
  apply Array.toList_inj.mp
  rw [ea,Array.map_map,Array.toList_map]
  exact xg λi _=>cGx Prod.snd (kas_item_eq vs i)
 rw [e1]
 refine wB (seqEpoch_at (s:=sh s h3) (B4.gt i _ (st li)) rfl (wB (B4.usq (st li) rfl (jo _) ?_ λh5 B5=> ?_)))
 ·show((arrOf r.2).map (·.2)).size<=_
  rw [eo]
  show(wy _).size<=_
  rw [xu,jb,ju,hp.size]
  exact qm z
 ·rw [ef]
  refine wpAny_ite_split (λz=>absurd z ?_) λ_=>wP (k h5 ?_ p _ hp up B5 ?_)
  ·rw [bne_self_eq_false];decide
  rotate_left
  ·rw [yp (by rw [je,List.length_set];exact kg li (ji _ _))]
   exact cGx (λz=>some (lO z _)) eo
theorem call_srt{Q:Value->Shared->Prop}(hu:A.units+64<cLine)(hl:s.heap.IsList l vs.toArray)(h64:vs.length<64)(H:LsAt s.heap vs K)(I:Inj vs.length K)
  (k:∀h' c p os',PN vs.length p->Upw K p vs.length->Hx s.heap h' os'->os'[1]? =some (lO (outs vs p) c)->Q (.ref (s.heap.objs.size+1)) (sh s h')):wpAny (model prog w) A (call (.builtin "sorted") [.ref l]) Q E s:=by
 have z:vs.length<=sizeLine:=ja (qk h64) (by decide)
 refine Calls.call_function_entry kind_sorted plain_sorted entry_sorted (args_sorted1 _) ?_
 refine wB (m:=checkCount "sorted" 1 1 _) (wP (wB (collect_list hl ?_ z)))
 have B:Hx s.heap _ [lO (#[]++vs.toArray) _]:=((Hx.nil (h:=s.heap)).push (o:=seqObj "list" #[] 0) rfl).upd (i:=0) (f:=Obj.mapSeq (·++vs.toArray)) rfl rfl
 refine wB (B.new (s:=s) (λh2 B2=> ?_) z rfl)
 refine wB (wpAny_holding (wpAny_call_entry slot_list_sort (cf (s:=sh s h2) (B2.gt 1 _ rfl) rfl) entry_list_sort (list_srt (i:=1) (jq (jv (by decide:2<=64) _) hu) B2 rfl h64 H I λh' c p os' hp up B e=>⟨_,rfl,wP ⟨_,rfl,k h' c p os' hp up B e⟩⟩) (args_list_sort _)))
end
section
variable{c:Cx}{F:Fm}{U:Tg->Prop}{a:AV}{L L1 L2:List (List Int)}
theorem inj_map{α:Type}{f:α->Int}{l:List α}:(l.map f).Nodup->∀{a b:α},a∈l->b∈l->f a=f b->a=b:=by
 induction l with
 |nil=>exactλ_ {a b} m=>(by nomatch m)
 |cons x l ih=>
  intro h a b ha hb e
  have h:=kj.mp h
  refine(jh.mp ha).elim (λp=>(jh.mp hb).elim (λq=>p.trans q.symm) λq=>(h.1 ?_).elim) λp=>(jh.mp hb).elim (λq=>(h.1 ?_).elim) λq=>ih h.2 p q e
  ·exact jf.mpr ⟨b,q,by rw [<-p];exact e.symm⟩
  ·exact jf.mpr ⟨a,p,by rw [<-q];exact e⟩
theorem srt_pw(L:List (List Int)):(ma L).Pairwise λx y=>x.headD 0<=y.headD 0:=
 (List.pairwise_mergeSort (le:=λx y:List Int=>decide (x.headD 0<=y.headD 0)) (λa b c h1 h2=>dTx (Int.le_trans (oDx h1) (oDx h2))) (λa b=>(qi ..).mpr ((Int.le_total _ _).imp dTx dTx)) L).imp oDx
theorem Ef(p:L1.Perm L2)(h:HdL L2)(s:L1.Pairwise λx y=>x.headD 0<=y.headD 0):L1=ma L2:=
 List.Perm.eq_of_pairwise (le:=λx y:List Int=>x.headD 0<=y.headD 0) (λa b ha hb h1 h2=>inj_map h.2 (p.mem_iff.mp ha) ((List.mergeSort_perm L2 _).mem_iff.mp hb) (Int.le_antisymm h1 h2)) s (srt_pw L2) (p.trans (List.mergeSort_perm L2 _).symm)
theorem All2.maps{α β γ:Type}{R:β->γ->Prop}{f:α->β}{g:α->γ}{l:List α}:(∀i∈l,R (f i) (g i))->All2 R (l.map f) (l.map g):=by
 induction l with
 |nil=>exactλ_=> .nil
 |cons x l ih=>exactλh=> .cons (h x (.head _)) (ih λi m=>h i (.tail _ m))
theorem Ah{α:Type}{d:α}{l:List α}:(List.range l.length).map (λi=>l.getD i d)=l:=by
 induction l with
 |nil=>rfl
 |cons x l ih=>rw [List.length_cons,List.range_succ_eq_map,jz,jt];exact cGx (x::·) ih
theorem Bm{α:Type}{d:α}{l:List α}{i:Nat}(h:i<l.length):l[i]? =some (l.getD i d):=by
 rw [yt,qo h];rfl
theorem o_srt(hl:Ls c.σ a ((vw L).map .dat))(hz:L.length<64)(hd:HdL L):OpL F U c (λxs=>call (.builtin "sorted") xs []) [a] (.dat (.list (vw (ma L)))) c:=λG s xs S r=>by
 obtain⟨x,rfl,r1⟩:=bv r
 obtain⟨y,items,n,rfl,g,q⟩:=dz S.sr hl r1
 have len:items.toList.length=L.length:=by rw [<-q.length,jb,vw,jb]
 have at_:∀i,i<L.length->AVR G (.dat (.list (zs (L.getD i [])))) (items.toList.getD i .none):=λi hi=>by
  obtain⟨v,e,r⟩:=ir q (j:=i) (a:= .dat (.list (zs (L.getD i [])))) (by rw [vw,jt,jw,Bm hi];rfl)
  rw [show items.toList.getD i .none=v from yt.trans (cGx (Option.getD · Value.none) (wp.trans e))]
  exact r
 refine call_srt (vs:=items.toList) (K:=λi=>(L.getD i []).headD 0) (S.room (jc 64)) (by rw [Array.toArray_toList];exact bw g) (len▸hz) (λi hi=> ?_) (λi j hi hj ne e=>ne ?_) λh' cc p os' hp up B e1=> ?_
 ·rw [len] at hi
  obtain⟨b,its,m,e,pr,d⟩:=at_ i hi
  refine⟨b,its,m,?_⟩
  cases z:L.getD i [] with
  |nil=>exact absurd z (hd.1 _ (xp (Bm hi)))
  |cons x r=>
   rw [z] at d
   obtain⟨y,ys,e2,⟨t,e3⟩,_⟩:=d
   exact⟨t,e,S.sr.prot _ _ (.inl pr),by rw [<-wp,e2,e3];show _=some (Value.int ((L.getD i []).headD 0) t);rw [z];rfl⟩
 ·rw [len] at hi hj
  refine(List.getElem?_inj (by rw [jb];exact hi) hd.2).mp ?_
  rw [jw,jw,Bm (d:=[]) hi,Bm (d:=[]) hj]
  exact cGx some e
 ·rw [len] at hp up
  have hm:∀i∈p.toList,i<L.length:=λi m=>wd.mp ((yv.mp hp).mem_iff.mp m)
  have es:ma L=p.toList.map (L.getD · []):=by
   refine(Ef (((yv.mp hp).map _).trans (.of_eq Ah)) hd (List.pairwise_map.mpr (List.pairwise_iff_getElem.mpr λi j hi hj l=> ?_))).symm
   rw [ju,hp.size] at hi hj
   have k:=Int.le_of_lt (up.lt l hj)
   have e (i:Nat) (h:i<L.length) (z:i<p.toList.length):p.toList[i]=p.getD i 0:=sJx ((qo z).symm.trans (Dz hp h).2)
   rw [e i hi,e j hj]
   exact k
  refine .list (tk:=s.toks) (h':=h') (items:=outs items.toList p) S ?_ B.old (ko _) (B.gt 1 _ e1)
  rw [es,vw,jt,outs]
  exact .of (All2.maps λi m=>at_ i (hm i m))
end
section
variable{prog:Program}{w:World}{A:Around}{E:Value->Shared->Prop}{s:Shared}{h:Heap}{os r:List Obj}{a:Value}{es:Array (Int×Value)}{t:SetTable}{ep:Nat}
noncomputable abbrev sO(es:Array (Int×Value))(ep:Nat)(t:SetTable):Obj:={cls:= .type "set",data:= .set es ep t}
noncomputable def ic(w:World):Bool:=w.params.followText "set-order"
theorem Lj{Q Q₁:Value->Shared->Prop}(hnew:codeAny (model prog w) A.in1 (.call (.builtin "set.__new__") ⟨[.type "set",a],[]⟩) (wants Q₁ E) s)
  (hnext:∀obj s₁,Q₁ obj s₁->s₁.TypeIs obj "set"/\wpAny (model prog w) A.in1.in1 (Builtin.«set.__init__» ⟨[obj,a],[]⟩)
    (λA7 s'=>match A7 with| .done f=>wants (λr s₂=>r= .none/\Q obj s₂) E (.ok f) s'| .again c'=>c'.quiet=true/\codeAny (model prog w) A.in1 c' (wants (λr s₂=>r= .none/\Q obj s₂) E) s')
    (λe s'=>wants (λr s₂=>r= .none/\Q obj s₂) E (.error e) s') s₁):
  wpAny (model prog w) A (call (.type "set") [a]) Q E s:=by
 obtain⟨c,tl,hmro⟩:=PySem.F.called_set.mro
 have hmade:=PySem.F.called_set.made
 have hsub:=PySem.F.called_set.sub
 have hct:=PySem.F.typeCall_set_1 a
 refine wpAny_call (codeAny_of_tree ?_)
 show wpAny _ _ (callAny (.type "set") _) _ _ _
 refine wP ⟨Code.quiet_builtin _ (by decide+kernel),codeAny_builtin PySem.F.entry_type_call ?_⟩
 rw [Around.under_plain (weight_type_call_type "set" [a] []) rfl]
 have h1:=PySem.F.called_set.notType
 have h2:=PySem.F.called_set.canCreate
 repeat (any_goals (first|assumption|wp_step))
 refine codeAny_mono hnew λr s₁ hr=> ?_
 cases r with
 |error e=>exact hr
 |ok fl=>
  cases fl with
  |ret obj=>
   obtain⟨hT,hsi⟩:=hnext _ _ hr
   have hli:=PySem.F.called_set.init.lookup
   have hbi:=PySem.F.called_set.init.bind obj
   repeat (any_goals (first|assumption|wp_step))
   refine codeAny_mono (codeAny_call_builtin PySem.F.called_set.init.plain PySem.F.entry_set_init (check_set_init_1 hT hsi)) λr₂ s₂ hr₂=> ?_
   cases r₂ with
   |error e=>exact hr₂
   |ok fl₂=>
    cases fl₂ with
    |ret r=>
     obtain⟨rfl,hq⟩:=hr₂
     repeat (any_goals (first|assumption|wp_step))
    |_=>exact hr₂.elim
  |_=>exact hr.elim
theorem set_new{Q₁:Value->Shared->Prop}(h:Q₁ (.ref s.heap.objs.size) {s with heap:=s.heap.push (sO #[] 0 (.fresh 0 0 (!ic w)))}):
  codeAny (model prog w) A (.call (.builtin "set.__new__") ⟨[.type "set",a],[]⟩) (wants Q₁ E) s:=by
 refine codeAny_of_tree ?_
 refine wB (wpAny_of_eq (PySem.F.newCall_set_1 a) (wP ⟨plainId_quiet PySem.F.plain_set_new _,codeAny_builtin PySem.F.entry_set_new ?_⟩))
 rw [Around.under_plainId PySem.F.plain_set_new _]
 unfold Builtin.«set.__new__» Builtin.Frozenset.newClass
 have hsub:=sub_set_self
 obtain⟨hp,g,d,tk,os⟩:=s
 dsimp only
 wp_walk
 refine wpAny_askSetting (wP ?_)
 dsimp only
 simp only [newObj]
 refine wB (wpAny_alloc (wP ?_))
 exact wP h
variable{h0 h':Heap}{i n tk:Nat}{v x:Value}{k:Int}
abbrev Lay:=SetTable×Array (Int×Value)
noncomputable def F3(v:Int×Nat):Value:= .int v.1 v.2
noncomputable def fi(p:Lay)(v:Int×Nat):Lay:=((layNew p.1 p.2 (hashInt v.1) (F3 v)).2.1,(layNew p.1 p.2 (hashInt v.1) (F3 v)).1)
noncomputable def stB(p:Lay)(v:Int×Nat):Bool:=p.1.fits p.2.size&&(byScan (F3 v) p.2&&(p.2.toList.all (λe=> !(e.1==hashInt v.1))&&(!(layNew p.1 p.2 (hashInt v.1) (F3 v)).2.2.1&&(!(layNew p.1 p.2 (hashInt v.1) (F3 v)).2.2.2&&((fi p v).1.plain&&(!(fi p v).1.tooFull&&Nat.ble (fi p v).2.size 64))))))
theorem scan_no{adding:Bool}{Q:ScanMet->Shared->Prop}{es:List (Int×Value)}(h:es.all (λe=> !(e.1==k))=true)(hq:Q .absent s):∀{i:Nat},wpAny (model prog w) A (setScanFrom n v k adding es i) Q E s:=by
 induction es with
 |nil=>exactλ{i}=>wP hq
 |cons e es ih=>
  intro i
  have q:=a9 h
  unfold setScanFrom
  rw [if_neg (xv.mp ((yj _).mp q.1))]
  exact ih q.2
noncomputable def tks(s:Shared)(k:Nat):Shared:={s with toks:=k}
theorem set_add0{Q:Bool->Shared->Prop}{es':Array (Int×Value)}{t':SetTable}(B:Hx h0 h os)(e:os[i]? =some (sO es ep t))(hf:t.fits es.size=true)(hb:byScan (.int k tk) es=true)(ha:es.toList.all (λe=> !(e.1==hashInt k))=true)(hr:layNew t es (hashInt k) (.int k tk)=(es',t',false,false))(hp:t'.plain=true)(ht:t'.tooFull=false)(hz:es'.size<=sizeLine)
  (C:∀h',Hx h0 h' (os.set i (sO es' (ep+1) t'))->Q true (sh (tks s (s.toks+1)) h')):wpAny (model prog w) A (setAdd (h0.objs.size+i) (.int k tk)) Q E (sh s h):=by
 refine wpAny_holding (wB (wpAny_pyHash_int ?_))
 show wpAny _ _ _ _ _ (sh (tks s (s.toks+1)) h)
 unfold setAddHashed setAddHashedIn
 refine wpAny_holding (wB (wpAny_setState_of (B.gt i _ e) rfl hf (wpAny_ite_split (λ_=>wB (wB (wpAny_rule (wB (scan_no ha ?_))))) λz=>absurd hb z)))
 rw [hr]
 refine wB (wP (wpAny_ite_split (λ_=>wB ?_) λz=>absurd hp z))
 rw [hashByValue_scannable 8 (x:= .int k tk) rfl]
 refine wP (wB (wpAny_storeSet_of (s:=sh (tks s (s.toks+1)) h) (B.gt i _ e) rfl (wpAny_ite_split (λz=>absurd ((a9 z).2.symm.trans ht) (by decide)) λ_=>wP (wP (C _ (B.upd (f:=Obj.putSet es' t') e rfl)))) hz))
theorem tup4{α β:Type}{r:α×β×Bool×Bool}(d:(!r.2.2.1)=true)(f:(!r.2.2.2)=true):r=(r.1,r.2.1,false,false):=
 cGx (λz=>(r.1,r.2.1,z)) (Prod.ext ((yj _).mp d) ((yj _).mp f))
theorem set_add{Q:Bool->Shared->Prop}{v:Int×Nat}(B:Hx h0 h os)(e:os[i]? =some (sO es ep t))(ok:stB (t,es) v=true)(C:∀h',Hx h0 h' (os.set i (sO (fi (t,es) v).2 (ep+1) (fi (t,es) v).1))->Q true (sh (tks s (s.toks+1)) h')):
  wpAny (model prog w) A (setAdd (h0.objs.size+i) (F3 v)) Q E (sh s h):=
 have a:=a9 ok
 have b:=a9 a.2
 have c:=a9 b.2
 have d:=a9 c.2
 have f:=a9 d.2
 have g:=a9 f.2
 have m:=a9 g.2
 set_add0 B e a.1 b.1 c.1 (tup4 d.1 f.1) g.1 ((yj _).mp m.1) (ja (wx m.2) (by decide)) C
variable{j l:Nat}{o o':Obj}{items:Array Value}{vs:List Value}{p:Lay}
noncomputable def okF:Lay->List (Int×Nat)->Bool
 |_,[]=>true
 |p,v::vs=>stB p v&&okF (fi p v) vs
theorem Hx.same(B:Hx h0 h os)(e:i<os.length)(hs:Heap.SameBut (h0.objs.size+i) h h')(e':h'.get? (h0.objs.size+i)=some o'):Hx h0 h' (os.set i o'):=
 have ne {c:Nat} {o:Obj} (z:h0.get? c=some o):c≠h0.objs.size+i:=qw (kg (Heap.lt_size z) (ji _ _))
 ⟨λc o z=>hs.extBut c o (ne z) (B.old c o z),λj o z=>by
  by_cases q:i=j
  ·rw [<-q,yp e] at z
   rw [<-q,<-sJx z]
   exact e'
  ·rw [List.getElem?_set_ne q] at z
   exact hs.extBut _ o (λz=>q (yi z).symm) (B.gt j o z),
 (hs.1.trans B.sz).trans (cGx (h0.objs.size+·) List.length_set.symm)⟩
theorem upd_loop{R:Result->Shared->Prop}(hh:A.handled=none)(hl:h0.IsList l items)(vs:List (Int×Nat)):∀{i h ep p o k},items.toList.drop i=vs.map F3->Hx h0 h [sO p.2 ep p.1,o]->h.IsListIter (h0.objs.size+1) l i->okF p vs=true->
  (∀k h' ep',(∀c o,h0.get? c=some o->h'.get? c=some o)->h'.get? (h0.objs.size+0)=some (sO (vs.foldl fi p).2 ep' (vs.foldl fi p).1)->R (.ok (.ret .none)) (sh (tks s k) h'))->
  codeAny (model prog w) A (.builtin "set.update.loop" ⟨[.ref (h0.objs.size+0),.ref (h0.objs.size+1)],[]⟩) R (sh (tks s k) h):=by
 induction vs with
 |nil=>
  intro i h ep p o k e B it _ C
  refine codeAny_builtin PyProof.Rows.F.entry_set_update_loop ?_
  rw [Around.under_plainId PyProof.Rows.F.plain_set_update_loop _]
  exact wB (wpAny_pyNext_list_end (s:=sh (tks s k) h) hh it (hl.at λo=>B.old l o) (by rw [<-wp,<-List.head?_drop,e];rfl) λh' hs=>wP (C k h' ep (λc o z=>hs c o (qw (kg (Heap.lt_size z) (ji _ _))) (B.old c o z)) (hs _ _ (λz=>absurd (yi z) (by decide)) (B.gt 0 _ rfl))))
 |cons v vs ih=>
  intro i h ep p o k e B it ok C
  have ok:=a9 ok
  refine codeAny_builtin PyProof.Rows.F.entry_set_update_loop ?_
  rw [Around.under_plainId PyProof.Rows.F.plain_set_update_loop _]
  refine wB (wpAny_pyNext_list_item (s:=sh (tks s k) h) it (hl.at λo=>B.old l o) (by rw [<-wp,<-List.head?_drop,e];rfl) λh1 it1 hs=> ?_)
  obtain⟨o1,e1,q1⟩:=it1
  have B1:Hx h0 h1 [sO p.2 ep p.1,o1]:=B.same (wq 1) hs e1
  refine wB (wpAny_holding (set_add (i:=0) B1 rfl ok.1 λh2 B2=>wP ⟨plainId_quiet PyProof.Rows.F.plain_set_update_loop _,ih (by rw [<-List.tail_drop,e];rfl) B2 ⟨o1,B2.gt 1 _ rfl,q1⟩ ok.2 C⟩))
end
section
variable{prog:Program}{w:World}{A:Around}{E:Value->Shared->Prop}{s:Shared}{h0 h h':Heap}{os:List Obj}{i l n ep:Nat}{o:Obj}{v a:Value}{items:Array Value}{k:Int}{vs:List (Int×Nat)}{p:Lay}
theorem uo{M:Model}{α:Type}{c:Prop}[Decidable c]{a b:Sem α}{Q:α->Shared->Prop}(n:decide c=false)(h:wpAny M A b Q E s):wpAny M A (if c then a else b) Q E s:=by
 rw [if_neg (of_decide_eq_false n)];exact h
theorem Hx.itl{Q:Value->Shared->Prop}(B:Hx h0 h os)(e:h0.IsList l items)(k:∀h',Hx h0 h' (os++[{cls:= .type "list_iterator",data:= .fields #[.ref l,.int 0 0]}])->Q (.ref (h0.objs.size+os.length)) (sh s h')):wpAny (model prog w) A (pyIter (.ref l)) Q E (sh s h):=
 wpAny_pyIter_list (e.at λo=>B.old l o) (B.psh rfl k)
theorem Ll{Q:Value->Shared->Prop}(hh:A.handled=none)(hl:s.heap.IsList l items)(e:items.toList=vs.map F3)(ok:okF (.fresh 0 0 (!ic w),#[]) vs=true)
  (C:∀k h' ep,(∀c o,s.heap.get? c=some o->h'.get? c=some o)->h'.get? s.heap.objs.size=some (sO (vs.foldl fi (.fresh 0 0 (!ic w),#[])).2 ep (vs.foldl fi (.fresh 0 0 (!ic w),#[])).1)->Q (.ref s.heap.objs.size) (sh (tks s k) h')):
  wpAny (model prog w) A (call (.type "set") [.ref l]) Q E s:=by
 refine Lj (Q₁:=λobj s₁=>∃h,obj= .ref (s.heap.objs.size+0)/\s₁=sh s h/\Hx s.heap h [sO #[] 0 (.fresh 0 0 (!ic w))]) (set_new (Hx.nil.psh (h:=s.heap) (s:=s) (Q:=λv s1=>∃h,v= .ref (s.heap.objs.size+0)/\s1=sh s h/\Hx s.heap h _) rfl λh' B=>⟨h',rfl,rfl,B⟩)) λobj s₁ q=> ?_
 obtain⟨h,rfl,rfl,B⟩:=q
 have hT:=cf (s:=sh s h) (B.gt 0 _ rfl) rfl
 refine⟨hT,?_⟩
 have hlT:(sh s h).TypeIs (.ref l) "list":=(hl.at λo=>B.old l o).typeIs (s:=sh s h)
 refine wB (wP (wB (wB (wB (wpAny_typeOf hT (uo rfl (wP (wP (wB (m:=checkCount _ _ _ _) (wP (wB (wP (wB (wB (wpAny_setState_of (s:=sh s h) (B.gt 0 _ rfl) rfl rfl (wP (uo rfl (wB ?_))))))))))))))))))
 refine wB (wB (wpAny_isInstance hlT PySem.F.sub_list_set ((wpAny_isInstance hlT PySem.F.sub_list_frozenset (uo rfl (wB (wpAny_typeOf hlT (uo rfl ?_))))))))
 exact wB (B.itl hl λh1 B1=>wB (wpAny_runValue (upd_loop (A:=A.in1.in1) (s:=s) (k:=s.toks) (p:=(.fresh 0 0 (!ic w),#[])) (i:=0) hh hl vs e B1 ⟨_,B1.gt 1 _ rfl,rfl,rfl⟩ ok λk h' ep old g=>wP (wP ⟨rfl,C k h' ep old g⟩))))
end
section
variable{prog:Program}{w:World}{A:Around}{E:Value->Shared->Prop}{s:Shared}{h:Heap}{i l a ep:Nat}{es:Array (Int×Value)}{t:SetTable}
noncomputable def l5(w:World)(a ep:Nat)(es:Array (Int×Value)):Array (Int×Value):=if ic w=true then pickOrder (w.params.setOrder a ep) es else es
noncomputable def slt(t:SetTable)(i:Nat):Nat:=if i=0 then 0 else t.place.getD (i-1) 0+1
noncomputable def om(w:World)(t:SetTable)(i:Nat):Nat:=if ic w=true then 0 else slt t i
noncomputable def okE(es:Array (Int×Value))(t:SetTable):Bool:=t.fits es.size&&(t.plain&&(List.range (es.size+1)).all λi=>SetTable.below t.place (slt t i)==i)
structure SetOK(w:World)(es:Array (Int×Value))(t:SetTable):Prop where
 e:okE es t=true
 l:ic w=false->t.led=true
theorem si_step{Q:Option (Value×Nat)->Shared->Prop}(hs:s.heap.get? a=some (sO es ep t))(ok:SetOK w es t)(hi:i<=es.size)(h:Q (((l5 w a ep es)[i]?).map λe=>(e.2,om w t (i+1))) s):
  wpAny (model prog w) A (setNext a (om w t i) i ep) Q E s:=by
 have k:=a9 ok.e
 have k2:=a9 k.2
 unfold l5 om at h
 unfold om
 refine wB (wpAny_setState_of hs rfl k.1 (wB (wB (wpAny_askSetting (wP ?_)))))
 by_cases hb:ic w=true
 ·rw [if_pos hb,if_pos hb] at h
  rw [if_pos hb]
  refine wpAny_ite_split (λ_=>wpAny_ite_split (λz=>absurd z (by rw [bne_self_eq_false];decide)) λ_=>wB (wB (wpAny_setState_of hs rfl k.1 (wB (wB (wpAny_askSetting (wP (wpAny_ite_split (λ_=>wB (wpAny_askSetting (wP (wP h)))) λz=>absurd hb z)))))))) λz=>absurd hb z
 ·rw [if_neg hb,if_neg hb] at h
  rw [if_neg hb]
  refine wpAny_ite_split (λz=>absurd z hb) λ_=>wpAny_ite_split (λz=>absurd z ?_) λ_=>wB (wpAny_ite_split (λz=>absurd z ?_) λ_=>wP ?_)
  ·show¬((!t.plain&&decide (es.size>1))=true)
   rw [k2.1];exact jx
  ·show¬((!t.led&& !es.isEmpty)=true)
   rw [ok.l ((Bool.not_eq_true _).mp hb)];exact jx
  ·rw [beq_iff_eq.mp (qf.mp k2.2 i (wd.mpr (Nat.lt_succ_of_le hi)))]
   refine wP ?_
   have e3:t.place.size=es.size:=beq_iff_eq.mp (a9 k.1).1
   rcases Nat.lt_or_ge i es.size with c|c
   ·have c2:i<t.place.size:=e3▸c
    rw [yr c] at h⊢
    rw [yr c2]
    have e4:slt t (i+1)=t.place[i]+1:=cGx (·+1) (by rw [yo,yu,yr c2];rfl)
    rw [e4] at h
    exact h
   ·rw [Array.getElem?_eq_none c] at h⊢
    exact h
variable{h0 h':Heap}{os:List Obj}{n:Nat}{o:Obj}
theorem slot_si_next:Slot "set_iterator" "__next__" "set_iterator.__next__":=
 .of (owner:="set_iterator") (n:="__next__") (by rw [typeLookup_type,builtinLookup_eq_fast];kernel_rfl) (by decide+kernel) (by decide+kernel) (by decide+kernel) (.inl (by decide+kernel)) (by rw [isSubtype_type];kernel_rfl)
theorem vr:entryFor table "set_iterator.__next__"=some Builtin.«set_iterator.__next__»:=entryFor_of_tree (by kernel_rfl)
theorem owner_si:Manifest.owners.lookup (String.ofList ['r','o','t','a','r','e','t','i','_','t','e','s'].reverse)=some Manifest.sig_set_iterator:=by kernel_rfl
theorem An(a:Value):argsOk "set_iterator.__next__" ⟨[a],[]⟩:=by
 unfold argsOk;rw [signature?_of (id:="set_iterator.__next__") (n:=['_','_','t','x','e','n','_','_']) (o:=['r','o','t','a','r','e','t','i','_','t','e','s']) (by kernel_rfl) owner_si];kernel_rfl
theorem u9:entryFor table "set.__iter__"=some Builtin.«frozenset.__iter__»:=entryFor_alias (id':="frozenset.__iter__") (by kernel_rfl) rfl (by decide+kernel) (by kernel_rfl)
noncomputable abbrev siO(a slot i n ep:Nat):Obj:={cls:= .type "set_iterator",data:= .fields #[rawInt slot,rawInt i,.ref a,rawInt n,rawInt ep]}
theorem si_iter{Q:Value->Shared->Prop}(B:Hx h0 h os)(hs:h0.get? a=some (sO es ep t))(ok:SetOK w es t)(k:∀h',Hx h0 h' (os++[siO a 0 0 es.size ep])->Q (.ref (h0.objs.size+os.length)) (sh s h')):wpAny (model prog w) A (pyIter (.ref a)) Q E (sh s h):=by
 have hs:=B.old _ _ hs
 have hT:=cf (s:=sh s h) hs rfl
 have q:=a9 ok.e
 refine wpAny_pyIter_slot hT F.slot_set_iter (wpAny_call_entry F.slot_set_iter hT u9 ?_ (F.args_set_iter_1 _))
 refine wB (wB (wP (wP (wB (wB (wB (wpAny_setState_of (s:=sh s h) hs rfl q.1 (wP (wP ?_)))))))))
 refine wB (wB (wpAny_setState_of (s:=sh s h) hs rfl q.1 (wB (wB (wpAny_askSetting (wP (wP (wpAny_ite_split (λz=>absurd z ?_) λ_=>wB (wP ?_)))))))))
 ·show¬((!w.params.followText "set-order"&&(!t.plain&&decide (es.size>1)))=true)
  rw [(a9 q.2).1,Bool.and_comm]
  exact jx
 ·exact wB (wB (wpAny_setState_of (s:=sh s h) hs rfl q.1 (wP (wB (B.new (λh' B=>wP ⟨_,rfl,"set_iterator",_,cf (s:=sh s h') (B.gt os.length _ (by rw [yk (jc _),Nat.sub_self];rfl)) rfl,slot_si_next.lookup,k h' B⟩) (by size_fits) rfl)))))
variable{r:List Obj}{o':Obj}{x:Value}{c:Nat}
theorem Iq{Q:Option Value->Shared->Prop}(hh:A.handled=none)(B:Hx h0 h [o,siO a (om w t i) i es.size ep])(hs:h0.get? a=some (sO es ep t))(ok:SetOK w es t)(hi:i<=es.size)
  (k:∀x,(l5 w a ep es)[i]? =some x->∀h',Hx h0 h' [o,siO a (om w t (i+1)) (i+1) es.size ep]->Q (some x.2) (sh s h')) (k2:(l5 w a ep es)[i]? =none->∀h' o' r,Hx h0 h' ([o,o']++r)->Q none (sh s h')):wpAny (model prog w) A (pyNext (.ref (h0.objs.size+1))) Q E (sh s h):=by
 have hs:=B.old _ _ hs
 have hT:=cf (s:=sh s h) (B.gt 1 _ rfl) rfl
 unfold pyNext
 refine wB (wpAny_attempt (wpAny_callSpecial?_slot (name:=Str.ofString "__next__") hT slot_si_next (wpAny_call_entry slot_si_next hT vr ?_ (An _))))
 refine wB (wP (wB (wpAny_fieldsOf (s:=sh s h) (B.gt 1 _ rfl) rfl (wB (wB (wpAny_setState_of (s:=sh s h) hs rfl (a9 ok.e).1 (wP (wpAny_ite_split (λz=>absurd z ?_) λ_=>wB ?_))))))))
 ·show¬((((es.size:Int) !=(es.size:Int))=true))
  rw [bne_self_eq_false];exact jx
 refine si_step (ep:=ep) (i:=i) (s:=sh s h) hs ok hi ?_
 revert k k2
 cases(l5 w a ep es)[i]? with
 |some x=>exactλk k2=>wB (B.sfl (i:=1) rfl rfl (xk 4) λ_ (B:Hx h0 _ [o,siO a (om w t (i+1)) i es.size ep])=>wB (B.sfl (i:=1) rfl rfl (xi (xk 3)) λh' B=>wP ⟨x.2,rfl,wP (k x rfl h' B)⟩))
 |none=>exactλk k2=>wB (B.sfl (i:=1) rfl rfl (xi (xi (xk 2))) λh' B=>Ir (A:=A.in1) hh B λh' oe B e=>wB (wpAny_isInstance (T:="StopIteration") (b:=true) (cf (s:=sh s h') (B.gt 3 _ rfl) e) isSubtype_stop (wP (k2 rfl h' _ _ B))))
theorem ext_loop{R:Result->Shared->Prop}{res:Value}(hh:A.handled=none)(hs:h0.get? a=some (sO es ep t))(ok:SetOK w es t)(hz:(l5 w a ep es).size=es.size)(h64:es.size<=64)
  (C:∀h' os c,Hx h0 h' os->os[0]? =some (lO (wy ((l5 w a ep es).toList.map (·.2))) c)->R (.ok (.ret res)) (sh s h')) (m:Nat):∀{i h c},i+m=es.size->Hx h0 h [lO (wy (((l5 w a ep es).toList.take i).map (·.2))) c,siO a (om w t i) i es.size ep]->
  codeAny (model prog w) A (.builtin "list.extend.loop" ⟨[.ref (h0.objs.size+0),.ref (h0.objs.size+1),res],[]⟩) R (sh s h):=by
 induction m with
 |zero=>
  intro i h c (e:i=es.size) B
  refine codeAny_builtin PySem.F.entry_extend_loop ?_
  rw [Around.under_plainId PySem.F.plain_extend_loop _]
  refine wB (Iq hh B hs ok (jd e) (λx z=> ?_) λ_ h' o' r B=>wP (C h' _ c B ?_))
  ·rw [Array.getElem?_eq_none (jd (hz.trans e.symm))] at z
   cases z
  ·rw [List.take_of_length_le (jd (ju.trans (hz.trans e.symm)))]
   rfl
 |succ m ih=>
  intro i h c e B
  have hi:i<es.size:=e▸ya (qy m)
  refine codeAny_builtin PySem.F.entry_extend_loop ?_
  rw [Around.under_plainId PySem.F.plain_extend_loop _]
  refine wB (Iq hh B hs ok (qk hi) (λx z h' B=> ?_) λz=> ?_)
  ·have l:((l5 w a ep es).toList.take i).length<=64:=ja (List.length_take_le i _) (ja (qk hi) h64)
   have e1:(wy (((l5 w a ep es).toList.take i).map (·.2))).push x.2=wy (((l5 w a ep es).toList.take (i+1)).map (·.2)):=by
    rw [List.take_add_one,wp,z,kh,List.push_toArray];rfl
   have l1:(wy (((l5 w a ep es).toList.take i).map (·.2))).size<=64:=by rw [xu,jb];exact l
   refine wB (B.usq (i:=0) rfl rfl (ja l1 (by decide)) (by rw [Array.size_push];exact jm (ja l1 (by decide))) λh2 B2=>wP ⟨plainId_quiet PySem.F.plain_extend_loop _,?_⟩)
   have B3:Hx h0 h2 [lO ((wy (((l5 w a ep es).toList.take i).map (·.2))).push x.2) _,_]:=B2
   rw [e1] at B3
   exact ih (i:=i+1) ((wg i m).trans e) B3
  ·rw [yr (hz▸hi)] at z
   cases z
theorem pick_go{α:Type}(f:Nat->Nat)(n:Nat):∀(k:Nat) (l:List α) (out:Array α),l.length=n->(pickOrder.go f n k l out).toList.Perm (out.toList++l):=by
 induction n with
 |zero=>
  intro k l out h
  rw [List.length_eq_zero_iff.mp h,jk]
  exact .refl _
 |succ n ih=>
  intro k l out h
  have hlt:f k%l.length<l.length:=Nat.mod_lt _ (h▸qy n)
  have e:pickOrder.go f (n+1) k l out=pickOrder.go f n (k+1) (l.eraseIdx (f k%l.length)) (out.push l[f k%l.length]):=by
   show(match l[f k%l.length]? with|some x=>pickOrder.go f n (k+1) (l.eraseIdx (f k%l.length)) (out.push x)|none=>out)=_
   rw [qo hlt]
  rw [e]
  refine(ih (k+1) _ _ (by rw [List.length_eraseIdx_of_lt hlt,h];rfl)).trans ?_
  rw [ye,jy]
  refine List.Perm.append_left _ ?_
  rw [List.eraseIdx_eq_take_drop_succ]
  refine(List.perm_middle (l₁:=l.take (f k%l.length)) (l₂:=l.drop (f k%l.length+1)) (a:=l[f k%l.length])).symm.trans (.of_eq ?_)
  rw [List.getElem_cons_drop,List.take_append_drop]
theorem ordS_perm:(l5 w a ep es).toList.Perm es.toList:=by
 unfold l5
 by_cases z:ic w=true
 ·rw [if_pos z];exact pick_go _ es.size 0 es.toList #[] ju
 ·rw [if_neg z]
theorem hint_set{Q:Bool->Shared->Prop}(hT:s.TypeIs (.ref a) "set")(h:Q false s):wpAny (model prog w) A (Builtin.List.listLengthHint (.ref a)) Q E s:=by
 unfold Builtin.List.listLengthHint
 refine wB (wpAny_specialOf hT PySem.F.slot_set_len.lookup ?_)
 refine wB (wpAny_isInstance (T:="set") (b:=true) hT (by rw [isSubtype_type];kernel_rfl) (uo rfl (wpAny_ite_split (λ_=>wB (wpAny_typeOf hT (wP h))) λz=>absurd (by decide+kernel) z)))
theorem Cm{Q:List Value->Shared->Prop}(hh:A.handled=none)(hs:s.heap.get? a=some (sO es ep t))(ok:SetOK w es t)(h64:es.size<=64)
  (C:∀h' os,Hx s.heap h' os->Q ((l5 w a ep es).toList.map (·.2)) (sh s h')):wpAny (model prog w) A (collect (.ref a)) Q E s:=by
 have hz:(l5 w a ep es).size=es.size:=by rw [<-ju,ordS_perm.length_eq,ju]
 have B:Hx s.heap s.heap []:= .nil
 show wpAny _ _ _ _ _ (sh s s.heap)
 refine wB (wpAny_runValue (codeAny_builtin entry_proto_collect' ?_))
 rw [Around.under_plainId PySem.F.plain_proto_collect _]
 refine wB (B.new (λh1 (B:Hx s.heap h1 [lO #[] 0])=>wP ⟨plainId_quiet PySem.F.plain_list_iadd _,codeAny_builtin entry_list_iadd' ?_⟩) (jo _) rfl)
 rw [Around.under_plainId PySem.F.plain_list_iadd _]
 show wpAny _ _ (Builtin.List.listExtendWith (.ref (s.heap.objs.size+0)) (.ref a) _) _ _ _
 have hT:=cf (s:=sh s h1) (B.old _ _ hs) rfl
 unfold Builtin.List.listExtendWith
 refine wB (wpAny_typeOf hT (wpAny_ite_split (λz=>absurd z ?_) λ_=> ?_))
 ·have g:Builtin.List.listSameRef (.ref (s.heap.objs.size+0)) (.ref a)=false:=beq_false_of_ne λq=>absurd (Heap.lt_size hs) (qr.mpr (jd q))
  rw [g]
  decide
 refine wB (si_iter B hs ok λh2 (B:Hx s.heap h2 [lO #[] 0,siO a 0 0 es.size ep])=>wB (wpAny_holding (hint_set (cf (s:=sh s h2) (B.old _ _ hs) rfl) (wpAny_ite_split (λ_=> ?_) λz=>absurd (by decide+kernel) z))))
 refine wB (wpAny_rule (wB (wB (B.usq (i:=0) (n:=0) rfl rfl (jo _) le1' λ_ (B:Hx s.heap _ [lO #[.none] 1,siO a 0 0 es.size ep])=>B.usq (i:=0) (n:=1) rfl rfl le1 (jo _) λh3 B=>wP ⟨plainId_quiet PySem.F.plain_extend_loop _,?_⟩))))
 have e0:om w t 0=0:=by
  unfold om
  split
  ·rfl
  ·rfl
 refine ext_loop hh hs ok hz h64 (λh' os c B e=> ?_) es.size (i:=0) (c:=2) (qn _) ?_
 ·show wpAny _ _ (load (s.heap.objs.size+0)>>=_) _ _ _
  exact wB (wpAny_load (B.gt 0 _ e) (wP (C h' os B)))
 ·rw [e0]
  exact B
variable{v y:Value}{led:Bool}{tk:Int->Nat}{ps:List (Int×Nat)}{ns:List Int}{p:Lay}
noncomputable def chk4(led:Bool)(ps:List (Int×Nat)):Bool:=okF (.fresh 0 0 led,#[]) ps&&(okE (ps.foldl fi (.fresh 0 0 led,#[])).2 (ps.foldl fi (.fresh 0 0 led,#[])).1&&((ps.foldl fi (.fresh 0 0 led,#[])).1.led==led&&Nat.ble (ps.foldl fi (.fresh 0 0 led,#[])).2.size 63))
noncomputable def sel(b:Bool)(x:Int)(l:List Int):List Int:=cond b (x::l) l
theorem chk_sel(a b c d:Bool):chk4 led ((sel a (-4) (sel b 2 (sel c 3 (sel d 6 [])))).map λn=>(n,tk n))=true:=by
 cases led<;>cases a<;>cases b<;>cases c<;>cases d<;>kernel_rfl
theorem few_sel(h:F4 ns):∃a b c d,ns=sel a (-4) (sel b 2 (sel c 3 (sel d 6 []))):=by
 have s4:List.Pairwise (·<·) ([-4,2,3,6]:List Int):=by decide
 have e:ns=[-4,2,3,6].filter λx=>decide (x∈ns):=List.Perm.eq_of_pairwise (le:=λx y:Int=>x<y) (λa b _ _ h1 h2=>absurd h1 (Int.lt_asymm h2)) h.1 (s4.filter _)
  ((List.perm_ext_iff_of_nodup (h.1.imp xm) ((s4.imp xm).filter _)).mpr λx=>⟨λm=>kr.mpr ⟨h.2 x m,dTx m⟩,λm=>oDx (kr.mp m).2⟩)
 exact⟨decide (-4∈ns),decide (2∈ns),decide (3∈ns),decide (6∈ns),e⟩
theorem tks_of(h:(ps.map (·.1)).Nodup):∃tk:Int->Nat,ps=(ps.map (·.1)).map λn=>(n,tk n):=by
 induction ps with
 |nil=>exact⟨λ_=>0,rfl⟩
 |cons p ps ih=>
  have h:=kj.mp h
  obtain⟨tk,e⟩:=ih h.2
  refine⟨λn=>if n=p.1 then p.2 else tk n,?_⟩
  show p::ps=(p.1,if p.1=p.1 then p.2 else tk p.1)::_
  rw [if_pos rfl]
  exact cGx (p::·) (e.trans (xg λn m=>cGx (Prod.mk n) (if_neg λ(z:n=p.1)=>h.1 (by rw [z] at m;exact m)).symm))
theorem ints2{vs:List Value}(h:IntsAre vs ns):∃ps:List (Int×Nat),vs=ps.map F3/\ps.map (·.1)=ns:=by
 induction h with
 |nil=>exact⟨[],rfl,rfl⟩
 |cons n t _ ih=>exact ih.elim λps q=>⟨(n,t)::ps,cGx (_::·) q.1,cGx (n::·) q.2⟩
theorem chk_few(h:F4 ns)(e:ps.map (·.1)=ns):chk4 led ps=true:=by
 obtain⟨tk,e2⟩:=tks_of (ps:=ps) (e▸h.1.imp xm)
 obtain⟨a,b,c,d,e3⟩:=few_sel h
 rw [e2,e,e3]
 exact chk_sel a b c d
theorem ins_perm{xs:Array (Int×Value)}{p:Nat}{x:Int×Value}:(SetTable.insertAt xs p x).toList.Perm (x::xs.toList):=by
 unfold SetTable.insertAt
 rw [yh,ye,jy]
 have e:(xs.extract 0 p++xs.extract p xs.size)=xs:=Array.extract_append_extract.trans (by rw [Nat.min_eq_left (jo p)];exact Array.extract_eq_self_of_le (Nat.le_max_right ..))
 exact List.perm_middle.trans (List.Perm.cons _ (.of_eq (yh.symm.trans (cGx Array.toList e))))
theorem Mb(v:Int×Nat):((fi p v).2.toList.map (·.2)).Perm (F3 v::p.2.toList.map (·.2)):=by
 have e:(fi p v).2.toList.Perm ((hashInt v.1,F3 v)::p.2.toList):=by
  show(layNew p.1 p.2 (hashInt v.1) (F3 v)).1.toList.Perm _
  unfold layNew
  cases p.1.freeSlot (hashInt v.1) with
  |none=>exact(ye▸List.perm_append_singleton _ _)
  |some q=>exact ins_perm
 exact e.map _
theorem lay_perm:∀{p},((ps.foldl fi p).2.toList.map (·.2)).Perm (ps.map F3++p.2.toList.map (·.2)):=by
 induction ps with
 |nil=>exactλ{p}=> .refl _
 |cons v ps ih=>exactλ{p}=>(ih (p:=fi p v)).trans (((Mb v).append_left _).trans List.perm_middle)
end
section
variable{c:Cx}{F:Fm}{U:Tg->Prop}{a:AV}{W:Wd}{ns:List Int}
def Set4(W:Wd)(ns:List Int)(o:Obj):Prop:=∃ps ep,ps.map (·.1)=ns/\chk4 (!ic W.w) ps=true/\o=sO (ps.foldl fi (.fresh 0 0 (!ic W.w),#[])).2 ep (ps.foldl fi (.fresh 0 0 (!ic W.w),#[])).1
theorem o_set4(hl:Ls c.σ a ((zs ns).map .dat))(h:F4 ns):OpL F U c (λxs=>call (.type "set") xs []) [a] (.raw (Set4 F.W ns)) c:=λG s xs S r=>by
 obtain⟨x,rfl,r1⟩:=bv r
 obtain⟨y,items,n,rfl,g,q⟩:=dz S.sr hl r1
 obtain⟨ps,e,e2⟩:=ints2 (Bd q.dats)
 have ck:=chk_few (led:= !ic F.W.w) h e2
 refine Ll S.fr.st.hnd (bw g) e (a9 ck).1 λk h' ep old hD=> ?_
 have f:=S.sr.fresh (jc s.heap.objs.size)
 exact⟨_,.prot f,(S.keeps old).protect f (S.fr.fresh (jc _)) hD,⟨_,_,rfl,if_pos rfl,ps,ep,e2,ck,rfl⟩,SS.heap h' k⟩
theorem o_srs(h:F4 ns):OpL F U c (λxs=>call (.builtin "sorted") xs []) [.raw (Set4 F.W ns)] (.dat (.list (zs ns))) c:=λG s xs S r=>by
 obtain⟨x,rfl,y,o,rfl,pr,ps,ep,e2,ck,rfl⟩:=bv r
 have hs:=S.sr.prot _ _ (.inl pr)
 have k:=a9 (a9 ck).2
 have k2:=a9 k.2
 have ok:SetOK F.W.w _ _:=⟨k.1,λz=>(beq_iff_eq.mp k2.1).trans (by rw [z];rfl)⟩
 have l64:=wx k2.2
 refine call_function_entry kind_sorted plain_sorted entry_sorted (args_sorted1 _) ?_
 refine wB (m:=checkCount "sorted" 1 1 _) (wP (wB (Cm S.fr.st.hnd hs ok (qm l64) λh1 os1 B1=> ?_)))
 have pm:=ordS_perm (w:=F.W.w) (a:=y) (ep:=ep) (es:=(ps.foldl fi (.fresh 0 0 (!ic F.W.w),#[])).2)
 have pv:=(pm.map (·.2)).trans ((lay_perm (ps:=ps) (p:=(.fresh 0 0 (!ic F.W.w),#[]))).trans (.of_eq (jk _)))
 have l4:((l5 F.W.w y ep (ps.foldl fi (.fresh 0 0 (!ic F.W.w),#[])).2).toList.map (·.2)).length<64:=by rw [jb,pm.length_eq,ju];exact Nat.lt_succ_of_le l64
 revert pv l4
 generalize (l5 F.W.w y ep (ps.foldl fi (.fresh 0 0 (!ic F.W.w),#[])).2).toList.map (·.2)=cv
 intro pv l4
 have hI:=intsAre_map cv λv m=>(jf.mp (pv.mem_iff.mp m)).elim λq z=>⟨q.1,q.2,z.2.symm⟩
 have en:(ps.map F3).map numOf=ns:=by rw [jt];exact e2
 refine wB (B1.new (λh2 B2=> ?_) (ja (qk l4) (by decide)) rfl)
 have ho:=B2.gt os1.length _ (by rw [yk (jc _),Nat.sub_self];rfl)
 refine wB (wpAny_holding (wpAny_call_entry slot_list_sort (cf (s:=sh s h2) ho rfl) entry_list_sort (list_sort_tree ho hI l4 λout ns' a1 a2 a3=>⟨_,rfl,?_⟩) (args_list_sort _)))
 obtain⟨m,hm⟩:=sortedHeap_at (out:=out) ho
 have es:ns'=ns:=lks_uniq ((a2.trans (pv.map numOf)).trans (.of_eq en)) a3 (h.1.imp Int.le_of_lt)
 rw [es] at a1
 exact wP ⟨_,rfl,.list (tk:=s.toks) S (Bw a1) (λb o z=>(sortedHeap_old (qw (kg (Heap.lt_size z) (ji _ _))) (Heap.lt_size (B2.old b o z))).trans (B2.old b o z)) (ji _ _) hm⟩
end
section
variable{W:Wd}{P:Prg}{n i j k l:Nat}{nm:List Str}{c c1:IC}{u:Mo}{τ τ':Tg}{o o':AObj}{a b r v:AV}{as:List AV}{F:Fm}{X:Cx}{U U':Tg->Prop}{d e:PyData}{σ σ':Tg->Option AObj}{x:Str}{m m1 m2 mk:M}{s:Scope}{κ:LK}
theorem q_str{k:Nat}{pos:Pos}(hx:PyData.strOk x=true):EvQ F X (.Constant (.str x) k pos) (.dat (.str x)):=λG s S Q k=>wpAny_mkText (k _ _ ⟨hx,_,Eq.refl _⟩)
theorem q_con{k:Nat}{pos:Pos}{co:Const}(h:eqc co (.str x)=true):EvQ F X (.Constant co k pos) (.dat (.str x)):=
 have q:(decide (co= .str x)&&PyData.strOk x)=true:=h
 (oDx (a9 q).1:co= .str x)▸q_str (a9 q).2
theorem s_setd(V:VOK nm)(h1:OK P n nm m)(hk':OK P n nm mk):OK P n nm (.setd j x τ m mk):=⟨o4,cu,dg,ec,ct,cw,λu c K h I=>(h1.o u c _ h I).casesOn λo c1 E1 i1 r1 k1=>(ae k1).elim λy q=>(gf q.2).elim λτh w=>w.elim λod w=>(ae w.2.2).elim λf g=>by
  obtain⟨q1,H,hn,b',eb,k2⟩:=am g.2
  have a1:=a9 q1
  have a2:=a9 a1.2
  have a3:=a9 a2.2
  have a4:=a9 a3.2
  have a5:=a9 a4.2
  have hq:=lx a3.1
  have e:c1.σ τh=some (.dictS f):=w.2.1.trans (cGx some (dS_eq g.1))
  have fd:=i1 _ _ e
  have e2:(⟨c1.ρ,c1.t,b'⟩:IC).cx nm=⟨(c1.cx nm).ρ,up (up (c1.cx nm).σ τ o) τh (.dictS (a6 f x (.obj τ)))⟩:=by
   unfold IC.cx IC.σ
   dsimp only
   rw [<-eb,bz (du hq.1),bz (du hq.2.1)]
  have f2:Fit P τh (.dictS (a6 f x (.obj τ))):=⟨dq fd.hold (show AV.keeps _ (.obj τ) from a3.1),(λ_ _ e=>(by nomatch e)),(λ_ _ _ e=>(by nomatch e))⟩
  have I2:Inv P (g7 c1.t b'):=by
   rw [<-eb,bz (du hq.1),bz (du hq.2.1)]
   exact(i1.up (uf H (mi a4.1) (mi a5.1))).up f2
  exact rp (w:=λs=>tw λt e p=>bb (λo i q=>nmE s nm j o&&i7 (λc k p=>eqc c (.str x)) i) t&&(ak nm m).o s e) hk' (c1:=⟨c1.ρ,c1.t,b'⟩) (λD hf st w'=>f8 w' λtt ex p' w'=>by
   have w1:=a9 w'
   rw [e2]
   refine bo (Q:=λt=>X1 (D.f P n) (um u) (c.cx nm) (.Assign [t] ex p') .next _) w1.1 λoo ii qq yy=> ?_
   refine Br (Q:=λoo=>X1 (D.f P n) (um u) (c.cx nm) (.Assign [.Subscript oo ii qq] ex p') .next _) (a9 yy).1 λq4 y1 y2' y3=> ?_
   refine pu (Q:=λii=>X1 (D.f P n) (um u) (c.cx nm) (.Assign [.Subscript _ ii qq] ex p') .next _) (a9 yy).2 λcc kk pp zz=> ?_
   exact Ey (E1 D ex w1.2) (Bz ((so V).trans (w.1▸q.1)) y1 y2' y3) (q_con zz) (Af a1.1)
    ⟨(λe=>hq.2.2.1 e.symm),AObj.keeps_mono (λt h=>(lx h).2.2.1) H,λτ' o' n1 n2 e'=>AObj.keeps_mono (λt h z=>n2 (sJx ((lx h).2.2.2.symm.trans (z▸hq.2.2.2)))) (i1 τ' o' e').hold,λx v e=>v4 a2.1 (λ_ h=>ed h) e⟩
    e (oDx a5.2) hn λenv=>sub_sw) I2 k2,dh⟩
theorem M8{p q:Tg->Prop}(h1:a.keeps p)(h2:a.keeps q):a.keeps λt=>p t/\q t:=by
 cases a with
 |obj t=>exact⟨h1,h2⟩
 |_=>trivial
theorem Fn.weak{f:Value}(h:∀τ,U' τ->U τ)(E:Fn W U n f as σ a σ'):Fn W U' n f as σ a σ':=λA G s xs h1 h2 h3 S r=>codeAny_mono (E A G s xs h1 h2 h3 S r) λ_ _ z=>z.casesOn λG' v z e S r q=>⟨G',v,z,e.weak h,S,r,q⟩
theorem okN_of{id:Nat}(h:okN τ id=true):(τ= .house/\id=0)\/(τ= .bank/\id=43):=((qi _ _).mp h).imp (λh=>⟨oDx (a9 h).1,Nat.eq_of_beq_eq_true (a9 h).2⟩) λh=>⟨oDx (a9 h).1,Nat.eq_of_beq_eq_true (a9 h).2⟩
structure Cla(P:Prg)(τ:Tg)(id:Nat):Prop where
 d:P.cl τ=P.C\/P.cl τ=P.B
 h:(P.cl τ=P.C/\τ= .house)\/(P.cl τ=P.B/\τ= .bank)
 i:findIn P.W.K (.ref (P.cl τ)) "__init__"=some (some (.ref (P.fv id)))
 f:id<72
 g:nsIn P.W.K mainGlobals (cnm τ)=some (some (.ref (P.cl τ)))
 t:τ.isTmp=false
theorem cla{id:Nat}(h:okN τ id=true):Cla P τ id:=by
 rcases okN_of h with⟨rfl,rfl⟩|⟨rfl,rfl⟩
 ·exact⟨.inl rfl,.inl ⟨rfl,rfl⟩,(cGx (findIn P.W.K (.ref P.C)) P.ini.1.symm).trans (P.fc 0 (by decide)),by decide,P.ini.2.2.1,rfl⟩
 ·exact⟨.inr rfl,.inr ⟨rfl,rfl⟩,(cGx (findIn P.W.K (.ref P.B)) P.ini.2.1.symm).trans (P.fb 43 (by decide) (by decide)),by decide,P.ini.2.2.2,rfl⟩
theorem new_of{id:Nat}{K:KE}(h:NewC P n id τ u as c K)(I:Inv P c.σ):Cla P τ id/\RF P nm n u (.ref (P.cl τ)) as c K:=by
 obtain⟨n',rfl,md,b',E,hs,h⟩:=h
 obtain⟨q,h⟩:=am h
 have q0:=a9 q
 have L:Cla P τ id:=cla q0.1
 have q1:=a9 q0.2
 have q2:=a9 q1.2
 have q3:=a9 q2.2
 have q4:=a9 q3.2
 have f:Fit P τ (.inst (P.cl τ) []):=⟨(λy m=>(by nomatch m)),(λD as e=>by cases e;exact L.h),λκ f e e'=>(by nomatch e')⟩
 have E0:=E (bz (t:=[]) (B:=c.b) (o:= .inst (P.cl τ) []) (du L.t)▸(Be I).up f)
 rw [bz (du L.t)] at E0
 have hh:=λp (m:p∈c.ρ)=>a9 (qf.mp q4.1 p m)
 have F:=fn_make (U:=λt=>md.u t=true/\t≠τ) (P.mks _ L.d).1 L.i (P.fn id L.f).1 (λz=>z.2 rfl) (λτ' o n e=>hs τ' o n (by
  cases z:τ'.ti with
  |none=>rw [d3 z] at e;exact e
  |some k=>rw [ly z] at e;cases e)) (λa m=>ed (qf.mp q4.2 a m)) (Fn.weak (λt z=>z.elim (·.1) λe=>e▸q3.1) E0.1)
 have I2:Inv P (g7 c.t b'):=Aa I E0.2
 refine⟨L,.obj τ,⟨c.ρ,c.t,b'⟩,λD=> ?_,I2,rfl,h⟩
 have O:=ol_fn (F:=D.f P (n'+1)) (c:=c.cx nm) (uz (t:=c.t) (B:=c.b)▸F) ⟨I.wf,E0.2.wf,λτ o e=>si e,λx v e=>(Ia e).elim λp z=>z.2.2▸AV.keeps_mono (λt w=>w.1.imp (λy=>⟨y,w.2⟩) λz=>z) (M8 (kpU_of (hh p z.1).1) (ed (hh p z.1).2))⟩ (show AV.keeps _ (.obj τ) from L.t)
 rw [show merge Tg.isTmp (c.cx nm).σ (g7 [] b')=g7 c.t b' from Ac] at O
 exact O.weak λt z=>(leU_of q2.1 z).imp (λy=>⟨y,λe=>Af q1.1 (e▸z)⟩) λz=>z
theorem s_new{id:Nat}(h1:OK P n nm m):OK P n nm (.new τ id m):=⟨λu c K h I=>(h1.l u c _ h I).casesOn λas c1 E1 i1 r1 k1=>(new_of k1 i1).2.casesOn λa c2 O i2 r2 k2=>⟨a,c2,λD ex hc=>di hc λx es pos w=>
  have w1:=a9 w
  have L:=(new_of (nm:=nm) k1 i1).1
  lw w1.1 λp x1 x2 x3=>im (n_glob L.g x1 x2) (Fu (P.mks _ L.d).2) (E1 D es w1.2) (O D) λenv=>bm x3,i2,r2.trans r1,k2⟩,cu,dg,ec,ct,cw,ix,dh⟩
theorem zp_of{ds es:List PyData}{Q:PyData->Prop}(h:zp ds es Q):∃x y,ds=[x]/\es=[y]/\Q (.list [.tuple [x,y]]):=by
 cases ds with
 |nil=>exact h.elim
 |cons x ds=>cases ds with
  |cons _ _=>exact h.elim
  |nil=>cases es with
   |nil=>exact h.elim
   |cons y es=>cases es with
    |cons _ _=>exact h.elim
    |nil=>exact⟨x,y,rfl,rfl,h⟩
theorem zip_:bootBuiltins (S "zip")=some (.type "zip")/\S "zip"≠S "__name__"/\S "zip"∈[S "len",S "sorted",S "list",S "tuple",S "zip",S "min",S "max",S "set",S "range",S "int",S "isinstance"]:=by decide+kernel
theorem s_zip(h1:OK P n nm m1)(h2:OK P n nm m2):OK P n nm (.zip m1 m2):=⟨λu c K h I=>(h1.e u c _ h I).casesOn λa c1 E1 i1 r1 k1=>(h2.e _ c1 _ k1 i1).casesOn λb c2 E2 i2 r2 k2=>(ae k2).elim λds q=>(ae q.2).elim λes q'=>(zp_of q'.2).elim λd z=>z.elim λe z=>⟨_,c2,λD ex hc=>di hc λx es pos w=>iz (Q:=λes=>Ev (D.f P n) (um u) (c.cx nm) (.Call x es [] pos) _ _) w λy w=>have w1:=a9 w;lw w1.1 λp x1 x2 x3=>by
  have B:=bnm .list
  have y3:=a9 x3
  refine di (Q:=λy=>Ae y=true->Ev (D.f P n) (um u) (c.cx nm) (.Call (.Name BF.list.nm p) [y] [] pos) _ _) w1.2 (λf2 es2 pos2 w hn=> ?_) y3.1
  refine Bx (Q:=λes=>Ev (D.f P n) (um u) (c.cx nm) (.Call (.Name BF.list.nm p) [.Call f2 es [] pos2] [] pos) _ _) (k:=λa b=>gl D.env.scope (S "zip") f2 [a,b]&&((ak nm m1).e D.env.scope a&&(ak nm m2).e D.env.scope b)) w λea eb w=> ?_
  have w3:=a9 w
  have w4:=a9 w3.2
  refine lw w3.1 λp2 z1 z2 z3=> ?_
  have z4:=a9 z3
  exact e_lzip (bn (P.no _ B.1) B.2.1 B.2.2 x1 x2) (bn (P.no _ zip_.2.2) zip_.1 zip_.2.1 z1 z2) (gb (z.1▸gi q.1▸E1 D ea w4.1) (gb (z.2.1▸gi q'.1▸E2 D eb w4.2) sg (λ_ h=>h) trivial λenv=>cn (a9 z4.2).1) (λ_=>aw) trivial λenv=>cn z4.1) (bm z3) rfl,i2,r2.trans r1,z.2.2⟩,cu,dg,ec,ct,cw,ix,dh⟩
theorem s_srs(h1:OK P n nm m1):OK P n nm (.srs m1):=⟨λu c K h I=>(h1.e u c _ h I).casesOn λa c1 E1 i1 r1 k1=>(Fx k1).elim λns l=>⟨_,c1,λD ex hc=>di hc λx es pos w=>iz (Q:=λes=>Ev (D.f P n) (um u) (c.cx nm) (.Call x es [] pos) _ _) w λy w=>have w1:=a9 w;lw w1.1 λp x1 x2 x3=>by
  have B:=bnm .sorted
  have y3:=a9 x3
  refine di (Q:=λy=>Ae y=true->([y].all Ae)=true->Ev (D.f P n) (um u) (c.cx nm) (.Call (.Name BF.sorted.nm p) [y] [] pos) _ _) w1.2 (λf2 es2 pos2 w hn hn2=> ?_) y3.1 x3
  refine iz (Q:=λes=>Ev (D.f P n) (um u) (c.cx nm) (.Call (.Name BF.sorted.nm p) [.Call f2 es [] pos2] [] pos) _ _) w λe w=> ?_
  have w3:=a9 w
  refine lw w3.1 λp2 z1 z2 z3=> ?_
  exact im (bn (P.no _ B.1) B.2.1 B.2.2 x1 x2) dr (gb (im (bn (P.no _ set_.2.2) set_.1 set_.2.1 z1 z2) p6 (gb (E1 D e w3.2) sg (λ_=>aw) al λenv=>cn (a9 z3).1) (o_set4 l.1 l.2.1) λenv=>bm z3) sg (λ_ h=>h) trivial λenv=>cn hn) (o_srs l.2.1) λenv=>bm hn2,i1,r1,l.2.2⟩,cu,dg,ec,ct,cw,ix,dh⟩
theorem s_srt(h1:OK P n nm m1):OK P n nm (.srt m1):=⟨λu c K h I=>(h1.e u c _ h I).casesOn λa c1 E1 i1 r1 k1=>(iw k1).elim λds q=>q.2.elim λL z=>⟨_,c1,λD ex hc=>di hc λx es pos w=>iz (Q:=λes=>Ev (D.f P n) (um u) (c.cx nm) (.Call x es [] pos) _ _) w λy w=>have w1:=a9 w;lw w1.1 λp x1 x2 x3=>
  have B:=bnm .sorted
  im (bn (P.no _ B.1) B.2.1 B.2.2 x1 x2) dr (gb (E1 D y w1.2) sg (λ_=>aw) al λenv=>cn (a9 x3).1) (o_srt (z.1▸q.1) z.2.1 z.2.2.1) λenv=>bm x3,i1,r1,z.2.2.2⟩,cu,dg,ec,ct,cw,ix,dh⟩
theorem ok(V:VOK nm)(m:M):OK P n nm m:=by
 induction m with
 |var _=>exact s_var V
 |con _=>exact s_con
 |glo _=>exact s_glo
 |att _ _ h1=>exact s_att h1
 |sub _ _ h1 h2=>exact s_sub h1 h2
 |bin _ _ _ h1 h2=>exact s_bin h1 h2
 |cmp _ _ _ h1 h2=>exact s_cmp h1 h2
 |neg _ h1=>exact s_neg h1
 |andv _ _ h1 h2=>exact s_andv h1 h2
 |one _ h1=>exact s_one h1
 |ite _ _ _ h1 h2 h3=>exact s_ite h1 h2 h3
 |tup _ h1=>exact s_tup h1
 |lst _ h1=>exact s_lst h1
 |nil=>exact s_nil
 |cons _ _ h1 h2=>exact s_cons h1 h2
 |pr _ _ _ h1 h2 h3=>exact s_pr h1 h2 h3
 |blt _ _ h1=>exact s_blt h1
 |isl _ h1=>exact s_isl h1
 |lset _ h1=>exact s_lset h1
 |srt _ h1=>exact s_srt h1
 |srs _ h1=>exact s_srs h1
 |zip _ _ h1 h2=>exact s_zip h1 h2
 |fn _ _ h1=>exact s_fn h1
 |met _ _ _ h1 h2=>exact s_met h1 h2
 |lm _ _ _ h1 h2=>exact s_lm h1 h2
 |own _ _ h1=>exact s_own h1
 |slu _ _ h1 h2=>exact s_slu h1 h2
 |slr _ _ h1 h2=>exact s_slr h1 h2
 |comp _ _ _ _ _ h1 h2 h3=>exact s_comp V h1 h2 h3
 |dI=>exact s_dI
 |dL=>exact s_dL
 |dT=>exact s_dT
 |dS _ h1=>exact s_dS h1
 |dN _ h1=>exact s_dN h1
 |fz _ h1=>exact s_fz h1
 |val _ h1=>exact s_val h1
 |not _ h1=>exact s_not h1
 |and _ _ h1 h2=>exact s_and h1 h2
 |or _ _ h1 h2=>exact s_or h1 h2
 |ex _ _ h1 h2=>exact s_ex h1 h2
 |set _ _ _ h1 h2=>exact s_set V h1 h2
 |sett _ _ _ h1 h2=>exact s_sett V h1 h2
 |sets _ _ _ h1 h2=>exact s_sets V h1 h2
 |setm _ _ _ h1 h2=>exact s_setm V h1 h2
 |setc _ _ _ h1 h2=>exact s_setc V h1 h2
 |setw _ _ _ _ h1 h2=>exact s_setw V h1 h2
 |seta _ _ _ _ h1 h2=>exact s_seta V h1 h2
 |setq _ _ _ _ _ h1 h2=>exact s_setq V h1 h2
 |seti _ _ _ _ h1 h2 h3 h4=>exact s_seti h1 h2 h3 h4
 |setl _ _ _ _ _ _ h1 h2=>exact s_setl V h1 h2
 |del _ _ _ h1 h2 h3=>exact s_del h1 h2 h3
 |ifs _ _ _ _ h1 h2 h3 h4=>exact s_ifs h1 h2 h3 h4
 |fori _ _ _ _ _ _ _ h1 h2 h3=>exact s_fori V h1 h2 h3
 |forh _ _ _ _ _ h1 h2 h3=>exact s_forh V h1 h2 h3
 |whl _ _ _ _ h1 h2 h3=>exact s_whl V h1 h2 h3
 |ret _ h1=>exact s_ret h1
 |ret0=>exact s_ret0
 |bad=>exact s_bad
 |rel _ _ h1=>exact s_rel V h1
 |setd _ _ _ _ _ h1 h2=>exact s_setd V h1 h2
 |new _ _ _ h1=>exact s_new h1
end
section
variable{P:Prg}{n i k:Nat}{nm:List Str}{as:List AV}{a v:AV}{b b':Tg->Option AObj}{m:M}{md:Md}{u:Mo}{c:IC}
noncomputable def ar:Nat->List AV->List (Nat×AV)
 |_,[]=>[]
 |j,a::as=>(j,a)::ar (j+1) as
noncomputable def d9(i:Nat)(nm:List Str)(k:Nat)(m:M):Bool:=decide nm.Nodup&&(nm.all λs=>s.cps.all λc=>Nat.blt c 1114112)&&Nat.ble k nm.length&&decide (pg.ps i=nm.take k)&&(ak nm m).b (pg.sc i) (pg.body i)
theorem vok_of(h1:nm.Nodup)(h2:(nm.all λs=>s.cps.all λc=>Nat.blt c 1114112)=true):VOK nm:=⟨h1,λs m k e=>by
 have:=qf.mp h2 s m
 rw [e,Array.all_eq_true] at this
 exact Nat.not_succ_le_self _ (ja (wx (this 0 Nat.zero_lt_one)) (ji _ _))⟩
theorem ar_nm{j:Nat}(h:j+as.length<=nm.length):te nm (ar j as)=((nm.drop j).take as.length).zip as:=by
 induction as generalizing j with
 |nil=>exact List.zip_nil_right.symm
 |cons a as ih=>
  have hj:j<nm.length:=kg (ya (qy _)) h
  rw [List.drop_eq_getElem_cons hj]
  show(vn nm j,a)::te nm (ar (j+1) as)=(nm[j],a)::_
  rw [ih (ja (jd (wg j as.length)) h)]
  unfold vn
  rw [qo hj]
  rfl
theorem Xs.weak{F:Fm}{U U':Tg->Prop}{X Y:Cx}{ss:List Stmt}{fl:Fl}(h:∀τ,U' τ->U τ)(E:Xs F U X ss fl Y):Xs F U' X ss fl Y:=Do.weak h E
noncomputable def A7(a:AV)(b':Tg->Option AObj):KB:=λfl c=>fl.val=a/\c.b=b'
theorem done:A7 a c.b (.ret a) c:=⟨rfl,rfl⟩
theorem b9:A7 (.dat .none) c.b .next c:=⟨rfl,rfl⟩
theorem A5(h:a=v):A7 v c.b (.ret a) c:=⟨h,rfl⟩
theorem rt:true=true:=rfl
theorem enter(hc:d9 i nm k m=true)(hl:Nat.beq as.length k=true)(hi:Nat.blt i 84=true)(h:(af P n m).b (md,[]) ⟨ar 0 as,[],b⟩ (A7 a b')):FnI P (n+1) md i as b a b':=λI=>by
 have hl:=Nat.eq_of_beq_eq_true hl
 have hi:i<84:=wx hi
 have h1:=a9 hc
 have h2:=a9 h1.1
 have h3:=a9 h2.1
 have h4:=a9 h3.1
 obtain⟨fd,D,hs⟩:=P.df i hi
 have hp:pg.ps i=nm.take k:=oDx h2.2
 have hk:k<=nm.length:=wx h3.2
 have lp:(pg.ps i).length=k:=by rw [hp,List.length_take];exact Nat.min_eq_left hk
 have z:te nm (ar 0 as)=(pg.ps i).zip as:=by rw [ar_nm (by rw [hl,qn];exact hk),hp,hl];rfl
 have hz:(⟨ar 0 as,[],b⟩:IC).cx nm=⟨(pg.ps i).zip as,g7 [] b⟩:=cGx (λr=>(⟨r,g7 [] b⟩:Cx)) z
 exact((ok (vok_of (oDx h4.1) h4.2) m).b (md,[]) ⟨ar 0 as,[],b⟩ _ h I).casesOn λfl c1 E i1 k1=>by
  have F:=fn_enter (n:=n) (U:=λτ=>md.u τ=true) (σ:=g7 [] b) D (hl.trans lp.symm) λA L=>Xs.weak (U:=um (md,[])) (λτ h=>Or.inl h) (hz▸E ⟨A,callEnvC fd L (P.fv i),_,D.fn⟩ rfl (pg.body i) (show(ak nm m).b fd.scope (pg.body i)=true from hs▸h1.2))
  rw [show uh Tg.isTmp (c1.cx nm).σ=g7 [] c1.b from uz,k1.1,k1.2] at F
  exact⟨F,k1.2▸Be i1⟩
theorem b7{id:Nat}{K:KE}{ρ:List (Nat×AV)}{t:List (Nat×AObj)}(h:FnI P n md id as b a b')(q:(leU u md&&(ρ.all λp=>kpU md p.2)&&kpn a)=true)(k:K a ⟨ρ,t,b'⟩):FnC P n id u as ⟨ρ,t,b⟩ K:=⟨md,a,b',h,q▸k⟩
theorem a7{α:Type}{x:Option α}{a:α}{Q:α->Prop}(h:x=some a)(q:Q a):rd x Q:=h▸q
theorem Dw{α:Type}{x:Option α}{a:α}{Q:α->Prop}{R:Prop}(h:x=some a)(q:Q a):i9 x Q R:=h▸q
theorem Dx{α:Type}{x:Option α}{Q:α->Prop}{R:Prop}(h:x=none)(q:R):i9 x Q R:=h▸q
theorem b8{b:Bool}{Q R:Prop}(h:b=true)(q:Q):br b Q R:=h▸q
theorem ax{b:Bool}{Q R:Prop}(h:b=false)(q:R):br b Q R:=h▸q
theorem dw{b:Bool}{Q:Prop}(h:b=true)(q:Q):ck b Q:=h▸q
theorem a8{σ σ':Tg->Option AObj}{τ:Tg}{o:AObj}{Q:(Tg->Option AObj)->Prop}(h:up σ τ o=σ')(q:Q σ'):∃b',up σ τ o=b'/\Q b':=⟨σ',h,q⟩
variable{W:Wd}
theorem nl{α β:Type}{f g:α->β}{l:List α}(h:l.map f=l.map g){x:α}(m:x∈l):f x=g x:=List.map_inj_left.mp h x m
theorem cz(h:i<n):i∈List.range n:=wd.mpr h
theorem vals_of(xs:List Value):vals (λi=>xs.getD i .none) xs.length=xs:=Ah
theorem bnot'{b:Bool}(h:(!b)=true):b=false:=(yj _).mp h
theorem KF.def(k:KF W.K)(h:i<84):DefOK W (N8 i) (mkFD i (fdO (oAt W.K (N8 i)))) (pg.body i) (pg.ps i)/\keepIn W.K (.ref (N8 i))=true:=
 have c:=qf.mp k.c i (cz h)
 have c1:=a9 c
 have c2:=a9 c1.2
 have c3:=a9 c2.2
 have c4:=a9 c3.2
 have c5:=a9 c4.2
 have c6:=a9 c5.2
 have c7:=a9 c6.2
 ⟨⟨⟨_,_,_,nl k.a (cz h)⟩,c1.1,rfl,rfl,rfl,rfl,λxs e=>by
  have z:=congrFun (nl k.b (cz h)) λi=>xs.getD i .none
  rw [<-e,vals_of] at z
  exact z,λp m=>qf.mp c2.1 p m,oDx c3.1,oDx c4.1,bnot' c5.1,bnot' c6.1,oDx c7.1⟩,c7.2⟩
theorem KF.cl(k:KF W.K):kcF W.K 352=kcV/\kcF W.K 569=kcV:=List.append_inj k.d rfl
theorem oz{D:Nat}(e:kcF W.K D=kcV)(b:kcB W.K D=true):(ClsOK W D/\∀i,i<30->findIn W.K (.ref D) (an i)=some none)/\makesIn W.K D=true/\keepIn W.K (.ref D)=true:=
 have b1:=a9 b
 have b2:=a9 b1.2
 have b3:=a9 b2.2
 have e1:=List.cons.inj e
 have e2:=List.cons.inj e1.2
 have e3:=List.cons.inj e2.2
 ⟨⟨⟨e1.1,e2.1,b1.1,e3.1,b2.1⟩,λi h=>(nl (e3.2.trans (show List.replicate 30 (some none)=(List.range 30).map λ_=>some none from rfl)) (cz h))⟩,b3.1,b3.2⟩
theorem B6{P:Nat->Option Obj}{d:PyData}{ds:List PyData}{y:Value}{ys:List Value}(h:DR P d y)(g:DRs P ds ys):DRs P (d::ds) (y::ys):=⟨y,ys,rfl,h,g⟩
theorem KF.gd(k:KF W.K)(h:i<5):∃v,nsIn W.K mainGlobals (pg.gd i).1=some (some v)/\∀G:Gh,(∀a o,W.K.lookup a=some o->G.P a=some o)->AVR G (.dat (pg.gd i).2) v:=by
 have e1:=List.cons.inj k.i
 have e2:=List.cons.inj e1.2
 have e3:=List.cons.inj e2.2
 have e4:=List.cons.inj e3.2
 have e5:=List.cons.inj e4.2
 have t (p:Nat×Array Value) (m:p∈tpl):W.K.lookup p.1=some (dc p.2 0):=nl k.t m
 cases i with
 |zero=>exact⟨_,e1.1,λG hG=>⟨_,_,_,rfl,hG _ _ (t _ (.head _)),B6 ⟨by kernel_rfl,_,rfl⟩ (B6 ⟨by kernel_rfl,_,rfl⟩ (B6 ⟨by kernel_rfl,_,rfl⟩ (B6 ⟨by kernel_rfl,_,rfl⟩ rfl)))⟩⟩
 |succ i=>cases i with
  |zero=>exact⟨_,e2.1,λG hG=>⟨by kernel_rfl,_,rfl⟩⟩
  |succ i=>cases i with
   |zero=>exact⟨_,e3.1,λG hG=>⟨_,rfl⟩⟩
   |succ i=>cases i with
    |zero=>exact⟨_,e4.1,λG hG=>⟨_,rfl⟩⟩
    |succ i=>cases i with
     |zero=>
      refine⟨_,e5.1,λG hG=> ?_⟩
      show DR G.P apsD _
      unfold apsD
      exact⟨_,_,_,rfl,hG _ _ (t _ (.tail _ (.head _))),B6 ⟨_,_,_,rfl,hG _ _ (t _ (.tail _ (.tail _ (.head _)))),B6 ⟨_,rfl⟩ (B6 ⟨_,rfl⟩ rfl)⟩ (B6 ⟨_,_,_,rfl,hG _ _ (t _ (.tail _ (.tail _ (.tail _ (.head _))))),B6 ⟨_,rfl⟩ (B6 ⟨_,rfl⟩ rfl)⟩
       (B6 ⟨_,_,_,rfl,hG _ _ (t _ (.tail _ (.tail _ (.tail _ (.tail _ (.head _)))))),B6 ⟨_,rfl⟩ (B6 ⟨_,rfl⟩ rfl)⟩ (B6 ⟨_,_,_,rfl,hG _ _ (t _ (.tail _ (.tail _ (.tail _ (.tail _ (.tail _ (.head _))))))),B6 ⟨_,rfl⟩ (B6 ⟨_,rfl⟩ rfl)⟩
       (B6 ⟨_,_,_,rfl,hG _ _ (t _ (.tail _ (.tail _ (.tail _ (.tail _ (.tail _ (.tail _ (.head _)))))))),B6 ⟨_,rfl⟩ (B6 ⟨_,rfl⟩ rfl)⟩ rfl))))⟩
     |succ i=>exact(Nat.not_lt_of_le (Nat.le_add_left 5 i) h).elim
noncomputable def prg(W:Wd)(k:KF W.K):Prg where
 W:=W
 C:=352
 B:=569
 fv:=N8
 cls:=λD h=>(h.elim (λe=>e▸oz k.cl.1 (a9 (a9 k.f).2).1) λe=>e▸oz k.cl.2 (a9 (a9 k.f).2).2).1
 mks:=λD h=>(h.elim (λe=>e▸oz k.cl.1 (a9 (a9 k.f).2).1) λe=>e▸oz k.cl.2 (a9 (a9 k.f).2).2).2
 fc:=λi h=>(if_pos h▸nl k.e (cz (Nat.lt_trans h (by decide))):)
 fb:=λi h1 h2=>(if_neg (qr.mpr h1)▸nl k.e (cz h2):)
 fn:=λi h=>have q:=a9 (qf.mp (a9 k.f).1 i (cz h));⟨q.1,λj hj=>of_decide_eq_false (bnot' (qf.mp q.2 j (cz hj)))⟩
 ini:=⟨by kernel_rfl,by kernel_rfl,(List.cons.inj k.j).1,(List.cons.inj (List.cons.inj k.j).2).1⟩
 df:=λi h=>⟨_,(k.def h).1,rfl⟩
 kp:=λi h=>(k.def h).2
 gl:=λi h1 h2=>by
  obtain⟨j,rfl⟩:=Nat.exists_eq_add_of_le' h1
  exact nl k.g (cz (Nat.lt_of_add_lt_add_right (h2:j+72<12+72)))
 no:=λx m=>nl k.h m
 gd:=λi h=>k.gd h
end
set_option genCtorIdx false
inductive Why where
 |mk (m:Int)
 |args
inductive Ent where
 |enter (t:Int) (homes:List Int)
 |table (mark:List Int) (t:Option Int)
 |join (small large:Int) (lm lu:Nat) (v:Int)
 |edge (left top:Int)
structure Cor where
 root:Int->Option Int
 mem:Int->Option (List Int)
 use:Int->Option (List Int)
 val:Int->Option Int
 up:Int->Option (Int×Why)
 tab:List Int->Option Int
structure Eng extends Cor where
 queue:List (Int×Int×Why)
 clash:Option (List Int)
 clv:Int
 trail:List Ent
 marks:List Int
structure Bks where
 ops:List Str
 args:List (List Int)
 sorts:List Int
 datas:List PyData
 nam:List PyData
 nar:List PyData
 nre:List PyData
 num:List KI->Option AV
 tru:Int
 fal:Int
noncomputable def iv(i:Int):AV:= .dat (.int i)
noncomputable def vo:Why->PyData
 | .mk m=> .int m
 | .args=> .str (S "arguments")
noncomputable def oiD(o:Option Int):PyData:=(o.map PyData.int).getD .none
noncomputable def u7:Ent->PyData
 | .enter t hs=> .tuple [.str (S "enter"),.int t,.list (zs hs)]
 | .table m t=> .tuple [.str (S "table"),.tuple (zs m),oiD t]
 | .join s l a b v=> .tuple [.str (S "join"),.int s,.int l,.tuple [.int a,.int b,.int 0,.int 0],.int v]
 | .edge a b=> .tuple [.str (S "edge"),.int a,.int b]
noncomputable def clD(o:Option (List Int)):PyData:=(o.map λl=>PyData.list (zs l)).getD .none
noncomputable def qD(q:Int×Int×Why):PyData:= .tuple [.int q.1,.int q.2.1,vo q.2.2]
noncomputable def C6(p:Int×Why):AV:= .dat (.tuple [.int p.1,vo p.2])
noncomputable def my(cl:Option (List Int))(lv:Int):List (Nat×AV):=[(0,.obj .bank),(1,.obj .root),(2,.obj (.dct .mem)),(3,.obj (.dct .use)),(4,.obj .value),(5,.obj (.dct .apt)),(6,.obj (.dct .wat)),(7,.obj .up),(8,.obj .table),(9,.obj .sides),(10,.obj .told),(11,.dat (.list [])),(12,.obj .queue),(13,.dat (clD cl)),(14,iv lv),(15,.obj .trail),(16,.obj .marks)]
noncomputable def A0(K:Bks):List (Nat×AV):=[(17,.obj (.bk 0)),(18,.obj (.bk 1)),(19,.obj (.bk 2)),(20,.obj (.bk 3)),(21,.obj (.bk 4)),(22,iv 0),(23,.obj (.bk 5)),(24,.obj (.bk 6)),(25,.obj (.bk 7)),(26,.obj (.bk 8)),(27,.obj (.bk 9)),(28,iv K.tru),(29,iv K.fal)]
noncomputable def ls(l:List PyData):Option AObj:=some (.list true (l.map .dat))
noncomputable def kin(x:KI)(k:Int->Option (List Int)):Option (List Int):=KI.casesOn x k (λ_=>none) λ_=>none
noncomputable def kints(l:List KI):Option (List Int):=List.casesOn l none λx m=>kin x λa=>List.casesOn m none λy r=>kin y λb=>List.casesOn r (some [a,b]) λ_ _=>none
noncomputable def Ej(f:List Int->Option Int)(k:List KI):Option AV:=(kints k).bind λl=>(f l).map iv
noncomputable def vq(K:Bks):Nat->Option AObj
 |0=>ls [.str (S "Bool"),.str (S "Int"),.str (S "Real")]
 |1=>ls (zs [0,0,0])
 |2=>ls K.nam
 |3=>ls K.nar
 |4=>ls K.nre
 |5=>ls (K.ops.map .str)
 |6=>ls (K.args.map λl=> .tuple (zs l))
 |7=>ls (zs K.sorts)
 |8=>ls K.datas
 |9=>some (.dictT K.num)
 |_=>none
structure Aside where
 ls:LK->Int->Option AObj
 b:Nat->Option AObj
 r:Tg->Option AObj
noncomputable def intF(f:Int->Option Int):AObj:= .dictI true λt=>(f t).map iv
noncomputable def Ff{α:Type}(k:LK)(f:Int->Option α):AObj:= .dictI true λt=>(f t).map λ_=> .obj (.ls k t)
noncomputable def dy(f:Int->Option (List Int))(g:Int->Option AObj)(t:Int):Option AObj:=match f t with
 |some l=>ls (zs l)
 |none=>g t
noncomputable def emb(C B:Nat)(g:Aside)(K:Bks)(E:Eng):Tg->Option AObj
 | .house=>some (.inst C (my E.clash E.clv))
 | .root=>some (intF E.root)
 | .value=>some (intF E.val)
 | .up=>some (.dictI true λt=>(E.up t).map C6)
 | .table=>some (.dictT (Ej E.tab))
 | .sides=>some (.dictI true λ_=>none)
 | .told=>some (.dictI true λ_=>none)
 | .queue=>ls (E.queue.map qD)
 | .trail=>ls (E.trail.map u7)
 | .marks=>ls (zs E.marks)
 | .dct .mem=>some (Ff .mem E.mem)
 | .dct .use=>some (Ff .use E.use)
 | .dct k=>some (Ff k E.root)
 | .ls .mem t=>dy E.mem (g.ls .mem) t
 | .ls .use t=>dy E.use (g.ls .use) t
 | .ls k t=>dy (λt=>(E.root t).map λ_=>[]) (g.ls k) t
 | .bank=>some (.inst B (A0 K))
 | .bk k=>vq K k
 | .tmp _=>none
 | .byr k=>g.b k
 |τ=>g.r τ
theorem b5{σ σ':Tg->Option AObj}{τ:Tg}{o:AObj}(h:∀t,t≠τ->σ t=σ' t)(q:σ' τ=some o):up σ τ o=σ':=funext λt=>by
 by_cases e:t=τ
 ·rw [e,ba,q]
 ·rw [bc e,h t e]
section
open M renaming cons->jC,nil->jN,var->jV,con->jK,att->jA,sub->jS,cmp->jE,ifs->jI,met->jM,ex->jX,set->jT,fn->jF,blt->jB,lm->jL,bin->jO
noncomputable def m0:M:= .seta 0 0 (jV 1) (.setq 0 1 (.root) (.dI) (.setq 0 2 (.dct .mem) (.dI) (.setq 0 3 (.dct .use) (.dI) (.setq 0 4 (.value) (.dI) (.setq 0 5 (.dct .apt) (.dI) (.setq 0 6 (.dct .wat) (.dI) (.setq 0 7 (.up) (.dI) (.setq 0 8 (.table) (.dT) (.setq 0 9 (.sides) (.dI) (.setq 0 10 (.told) (.dI) (.seta 0 11 (.lst jN) (.setq 0 12 (.queue) (.lst jN) (.seta 0 13 (jK .none) (.seta 0 14 (jK (.int 0)) (.setq 0 15 (.trail) (.lst jN) (.setq 0 16 (.marks) (.lst jN) jN))))))))))))))))
noncomputable def n0:List Str:=[S "self",S "bank"]
noncomputable def m2:M:= .ret (jE .isin (jV 1) (jA (jV 0) 1))
noncomputable def n2:List Str:=[S "self",S "t"]
noncomputable def m3:M:= .ret (jE .eq (jS (jA (jV 0) 1) (jV 1)) (jS (jA (jV 0) 1) (jV 2)))
noncomputable def n3:List Str:=[S "self",S "a",S "b"]
noncomputable def m4:M:= .ret (jE .isnot (jM (jV 0) 5 (jC (jV 1) (jC (jV 2) jN))) (jK .none))
noncomputable def n4:List Str:=[S "self",S "a",S "b"]
noncomputable def m5:M:= .sets [3,4] (jC (jS (jA (jV 0) 1) (jV 1)) (jC (jS (jA (jV 0) 1) (jV 2)) jN)) (jI (jE .eq (jV 3) (jV 4)) (.ret (jK .none)) jN (jI (.and (jE .ne (jS (jA (jV 0) 4) (jV 3)) (jK (.int 0))) (jE .ne (jS (jA (jV 0) 4) (jV 4)) (jK (.int 0)))) (.ret (.tup (jC (jS (jA (jV 0) 4) (jV 3)) (jC (jS (jA (jV 0) 4) (jV 4)) (jC (jK (.int 0)) jN))))) jN (.ret (jM (jV 0) 27 (jC (jV 3) (jC (jV 4) jN))))))
noncomputable def n5:List Str:=[S "self",S "a",S "b",S "one",S "other"]
noncomputable def m6:M:= .ret (jS (jA (jV 0) 4) (jS (jA (jV 0) 1) (jV 1)))
noncomputable def n6:List Str:=[S "self",S "t"]
noncomputable def m7:M:=jT 1 (.own (.tmp 0) (.lst jN)) (.fori true [2] true (jA (jV 0) 1) (jI (jE .eq (jS (jA (jV 0) 1) (jV 2)) (jV 2)) (jX (jL (jV 1) .append (jC (jB .sorted (jC (jS (jA (jV 0) 2) (jV 2)) jN)) jN)) jN) jN jN) [0,1] (.ret (.srt (jV 1))))
noncomputable def n7:List Str:=[S "self",S "found",S "t"]
noncomputable def m8:M:= .ret (.ite (jE .isv (jA (jV 0) 13) (jK .none)) (jK .none) (jB .list (jC (jA (jV 0) 13) jN)))
noncomputable def n8:List Str:=[S "self"]
noncomputable def m9:M:=jI (jE .eq (jM (jA (jV 0) 0) 56 (jC (jV 1) jN)) (jK (.str (S "app")))) (.ret (jM (jA (jV 0) 0) 57 (jC (jV 1) jN))) jN (.ret (.tup jN))
noncomputable def n9:List Str:=[S "self",S "t"]
noncomputable def m10:M:=jT 2 (.own (.tmp 0) (.lst (jC (jV 1) jN))) (.whl (jE .gt (jB .len (jC (jV 2) jN)) (jK (.int 0))) (jT 3 (jS (jV 2) (.neg (jK (.int 1)))) (jT 4 (.lst jN) (jI (jE .notin (jV 3) (jA (jV 0) 1)) (.setc 4 (.comp (jV 5) 5 (jM (jV 0) 9 (jC (jV 3) jN)) (jE .notin (jV 5) (jA (jV 0) 1)) [0]) jN) jN (jI (jE .gt (jB .len (jC (jV 4) jN)) (jK (.int 0))) (jX (jL (jV 2) .extend (jC (jV 4) jN)) jN) (jX (jL (jV 2) .pop jN) (jI (jE .notin (jV 3) (jA (jV 0) 1)) (jX (jM (jV 0) 11 (jC (jV 3) jN)) jN) jN jN)) jN)))) [0,1,2] (jX (jM (jV 0) 15 jN) jN))
noncomputable def n10:List Str:=[S "self",S "t",S "stack",S "here",S "missing",S "part"]
noncomputable def m11:M:= .seti (jV 1) (jA (jV 0) 1) (jV 1) (.setl 0 2 1 .mem (.lst (jC (jV 1) jN)) (.setl 0 3 1 .use (.lst jN) (.setl 0 5 1 .apt (.lst jN) (.setl 0 6 1 .wat (.lst jN) (.seti (.ite (jE .isin (jM (jA (jV 0) 0) 56 (jC (jV 1) jN)) (.glo 0)) (jV 1) (jK (.int 0))) (jA (jV 0) 4) (jV 1) (.setc 2 (.comp (jS (jA (jV 0) 1) (jV 3)) 3 (jM (jV 0) 9 (jC (jV 1) jN)) jN [0]) (.fori false [4] true (jV 2) (jX (jL (jS (jA (jV 0) 3) (jV 4)) .append (jC (jV 1) jN)) jN) [0,1,2] (jX (jL (jA (jV 0) 15) .append (jC (.tup (jC (jK (.str (S "enter"))) (jC (jV 1) (jC (jV 2) jN)))) jN)) (jI (jE .gt (jB .len (jC (jV 2) jN)) (jK (.int 0))) (jX (jM (jV 0) 13 (jC (jV 1) jN)) jN) jN jN)))))))))
noncomputable def n11:List Str:=[S "self",S "t",S "homes",S "part",S "home"]
noncomputable def m12:M:= .ret (jO .add (.tup (jC (jM (jA (jV 0) 0) 59 (jC (jV 1) jN)) jN)) (jB .tuple (jC (.comp (jS (jA (jV 0) 1) (jV 2)) 2 (jM (jA (jV 0) 0) 57 (jC (jV 1) jN)) jN [0]) jN)))
noncomputable def n12:List Str:=[S "self",S "t",S "part"]
noncomputable def m13:M:=jT 2 (jM (jV 0) 12 (jC (jV 1) jN)) (jT 3 (jL (jA (jV 0) 8) .get (jC (jV 2) jN)) (jI (jE .isv (jV 3) (jK .none)) (jX (jL (jA (jV 0) 15) .append (jC (.tup (jC (jK (.str (S "table"))) (jC (jV 2) (jC (jK .none) jN)))) jN)) (.seti (jV 1) (jA (jV 0) 8) (jV 2) jN)) (jI (jE .ne (jS (jA (jV 0) 1) (jV 3)) (jS (jA (jV 0) 1) (jV 1))) (jX (jL (jA (jV 0) 12) .append (jC (.tup (jC (jV 1) (jC (jV 3) (jC (.glo 1) jN)))) jN)) jN) jN jN) jN))
noncomputable def n13:List Str:=[S "self",S "t",S "mark",S "other"]
noncomputable def m14:M:=jX (jM (jV 0) 10 (jC (jV 1) jN)) (jX (jM (jV 0) 10 (jC (jV 2) jN)) (jX (jL (jA (jV 0) 12) .append (jC (.tup (jC (jV 1) (jC (jV 2) (jC (jV 3) jN)))) jN)) (jX (jM (jV 0) 15 jN) jN)))
noncomputable def n14:List Str:=[S "self",S "a",S "b",S "reason"]
noncomputable def m15:M:=jT 1 (jK (.int 0)) (.whl (.and (jE .lt (jV 1) (jB .len (jC (jA (jV 0) 12) jN))) (jE .isv (jA (jV 0) 13) (jK .none))) (.sett [2,3,4] (jS (jA (jV 0) 12) (jV 1)) (jT 1 (jO .add (jV 1) (jK (.int 1))) (jI (jE .ne (jS (jA (jV 0) 1) (jV 2)) (jS (jA (jV 0) 1) (jV 3))) (jX (jM (jV 0) 16 (jC (jV 2) (jC (jV 3) (jC (jV 4) jN)))) jN) jN jN))) [0,1] (.setq 0 12 (.queue) (.lst jN) jN))
noncomputable def n15:List Str:=[S "self",S "spot",S "left",S "right",S "why"]
noncomputable def m16:M:=jI (jE .gt (jB .len (jC (jS (jA (jV 0) 2) (jS (jA (jV 0) 1) (jV 1))) jN)) (jB .len (jC (jS (jA (jV 0) 2) (jS (jA (jV 0) 1) (jV 2))) jN))) (.sets [1,2] (jC (jV 2) (jC (jV 1) jN)) jN) jN (.sets [4,5] (jC (jS (jA (jV 0) 1) (jV 1)) (jC (jS (jA (jV 0) 1) (jV 2)) jN)) (jX (jM (jV 0) 22 (jC (jV 1) (jC (jV 2) (jC (jV 3) jN)))) (jT 6 (jB .list (jC (jS (jA (jV 0) 3) (jV 4)) jN)) (.fori false [7] true (jV 6) (jX (jM (jV 0) 19 (jC (jV 7) jN)) jN) [0,1,2,3,4,5,6] (jX (jL (jA (jV 0) 15) .append (jC (.tup (jC (jK (.str (S "join"))) (jC (jV 4) (jC (jV 5) (jC (jM (jV 0) 18 (jC (jV 5) jN)) (jC (jS (jA (jV 0) 4) (jV 5)) jN)))))) jN)) (.fori true [7] true (jS (jA (jV 0) 2) (jV 4)) (.seti (jV 5) (jA (jV 0) 1) (jV 7) jN) [0,1,2,3,4,5,6] (jX (jL (jS (jA (jV 0) 2) (jV 5)) .extend (jC (jS (jA (jV 0) 2) (jV 4)) jN)) (jX (jL (jS (jA (jV 0) 3) (jV 5)) .extend (jC (jS (jA (jV 0) 3) (jV 4)) jN)) (jX (jL (jS (jA (jV 0) 5) (jV 5)) .extend (jC (jS (jA (jV 0) 5) (jV 4)) jN)) (jX (jL (jS (jA (jV 0) 6) (jV 5)) .extend (jC (jS (jA (jV 0) 6) (jV 4)) jN)) (.sets [8,9] (jC (jS (jA (jV 0) 4) (jV 4)) (jC (jS (jA (jV 0) 4) (jV 5)) jN)) (jI (jE .eq (jV 9) (jK (.int 0))) (.seti (jV 8) (jA (jV 0) 4) (jV 5) jN) jN (.fori false [7] true (jV 6) (jX (jM (jV 0) 13 (jC (jV 7) jN)) jN) [0,1,2,3,4,5,6,8,9] (jT 10 (.ite (.and (jE .ne (jV 8) (jK (.int 0))) (jE .ne (jV 9) (jK (.int 0)))) (jM (jV 0) 25 (jC (jV 8) (jC (jV 9) jN))) (jM (jV 0) 20 (jC (jV 4) jN))) (jI (jE .isv (jV 10) (jK .none)) (jX (jM (jV 0) 33 (jC (jV 5) jN)) jN) (jX (jM (jV 0) 17 (jC (jV 10) jN)) jN) jN)))))))))))))))
noncomputable def n16:List Str:=[S "self",S "left",S "right",S "why",S "small",S "large",S "moved",S "t",S "first",S "second",S "reasons"]
noncomputable def m17:M:= .seta 0 13 (jV 1) (.seta 0 14 (jB .len (jC (jA (jV 0) 16) jN)) jN)
noncomputable def n17:List Str:=[S "self",S "reasons"]
noncomputable def m18:M:= .ret (.tup (jC (jB .len (jC (jS (jA (jV 0) 2) (jV 1)) jN)) (jC (jB .len (jC (jS (jA (jV 0) 3) (jV 1)) jN)) (jC (jB .len (jC (jS (jA (jV 0) 5) (jV 1)) jN)) (jC (jB .len (jC (jS (jA (jV 0) 6) (jV 1)) jN)) jN)))))
noncomputable def n18:List Str:=[S "self",S "home"]
noncomputable def m19:M:=jT 2 (jM (jV 0) 12 (jC (jV 1) jN)) (jI (jE .eq (jL (jA (jV 0) 8) .get (jC (jV 2) jN)) (jV 1)) (jX (jL (jA (jV 0) 15) .append (jC (.tup (jC (jK (.str (S "table"))) (jC (jV 2) (jC (jV 1) jN)))) jN)) (.del (jA (jV 0) 8) (jV 2) jN)) jN jN)
noncomputable def n19:List Str:=[S "self",S "t",S "mark"]
noncomputable def m20:M:= .fori true [2,3,4] false (jS (jA (jV 0) 5) (jV 1)) (jI (jE .eq (jS (jA (jV 0) 1) (jV 2)) (jS (jA (jV 0) 1) (jV 3))) (.ret (jM (jV 0) 21 (jC (jM (jV 0) 25 (jC (jV 2) (jC (jV 3) jN))) (jC (jV 4) jN)))) jN jN) [0,1] (.ret (jK .none))
noncomputable def n20:List Str:=[S "self",S "small",S "left",S "right",S "reason"]
noncomputable def m21:M:=jI (.or (jE .eq (jV 2) (jK (.int 0))) (jE .isin (jV 2) (jV 1))) (.ret (jV 1)) jN (.ret (jB .sorted (jC (jO .add (jV 1) (.lst (jC (jV 2) jN))) jN)))
noncomputable def n21:List Str:=[S "self",S "reasons",S "reason"]
noncomputable def m22:M:=jT 4 (jM (jV 0) 23 (jC (jV 1) jN)) (.seti (.tup (jC (jV 2) (jC (jV 3) jN))) (jA (jV 0) 7) (jV 1) (jX (jL (jA (jV 0) 15) .append (jC (.tup (jC (jK (.str (S "edge"))) (jC (jV 1) (jC (jV 4) jN)))) jN)) jN))
noncomputable def n22:List Str:=[S "self",S "left",S "right",S "why",S "top"]
noncomputable def m23:M:= .sets [2,3] (jC (.own (.tmp 0) (.lst jN)) (jC (jV 1) jN)) (.whl (jE .isin (jV 3) (jA (jV 0) 7)) (jT 4 (jS (jA (jV 0) 7) (jV 3)) (jX (jL (jV 2) .append (jC (.tup (jC (jV 3) (jC (jV 4) jN))) jN)) (jT 3 (jS (jV 4) (jK (.int 0))) jN))) [0,1,2,3] (.rel 2 (.fori false [5,4] false (jV 2) (.del (jA (jV 0) 7) (jV 5) jN) [0,1,2,3] (.fori false [5,4] false (jV 2) (.seti (.tup (jC (jV 5) (jC (jS (jV 4) (jK (.int 1))) jN))) (jA (jV 0) 7) (jS (jV 4) (jK (.int 0))) jN) [0,1,2,3] (.ret (jV 3))))))
noncomputable def n23:List Str:=[S "self",S "t",S "chain",S "here",S "edge",S "child"]
noncomputable def m24:M:= .sets [3,4,5] (jC (.own (.tmp 0) (.lst (jC (jV 1) jN))) (jC (.own (.tmp 1) (.dN (.pr (jV 1) (jK (.int 0)) jN))) (jC (jV 1) jN))) (.whl (jE .isin (jV 5) (jA (jV 0) 7)) (jT 5 (jS (jS (jA (jV 0) 7) (jV 5)) (jK (.int 0))) (.seti (jB .len (jC (jV 3) jN)) (jV 4) (jV 5) (jX (jL (jV 3) .append (jC (jV 5) jN)) jN))) [0,1,2,3,4,5] (.sets [6,5] (jC (.own (.tmp 2) (.lst jN)) (jC (jV 2) jN)) (.whl (jE .notin (jV 5) (jV 4)) (jX (jL (jV 6) .append (jC (jV 5) jN)) (jT 5 (jS (jS (jA (jV 0) 7) (jV 5)) (jK (.int 0))) jN)) [0,1,2,3,4,5,6] (.ret (jO .add (.slu (jV 3) (jS (jV 4) (jV 5))) (jV 6))))))
noncomputable def n24:List Str:=[S "self",S "a",S "b",S "line",S "spots",S "here",S "back"]
noncomputable def m25:M:=jI (jE .ne (jS (jA (jV 0) 1) (jV 1)) (jS (jA (jV 0) 1) (jV 2))) (.bad) jN (.sets [3,4,5] (jC (.own (.tmp 0) (.lst (jC (.tup (jC (jV 1) (jC (jV 2) jN))) jN))) (jC (.own (.tmp 1) (.dI)) (jC (.own (.tmp 2) (.dL)) jN))) (.whl (jE .gt (jB .len (jC (jV 3) jN)) (jK (.int 0))) (.sett [6,7] (jL (jV 3) .pop jN) (.fori false [8] true (jM (jV 0) 24 (jC (jV 6) (jC (jV 7) jN))) (jI (jE .notin (jV 8) (jV 4)) (.seti (jK (.bool true)) (jV 4) (jV 8) (.sett [9,10] (jS (jA (jV 0) 7) (jV 8)) (jI (jE .eq (jV 10) (.glo 1)) (jX (jL (jV 3) .extend (jC (.zip (jM (jA (jV 0) 0) 57 (jC (jV 8) jN)) (jM (jA (jV 0) 0) 57 (jC (jV 9) jN))) jN)) jN) (jI (jE .ne (jV 10) (jK (.int 0))) (.seti (jK (.bool true)) (jV 5) (jV 10) jN) jN jN) jN))) jN jN) [0,1,2,3,4,5,6,7] jN)) [0,1,2,3,4,5] (.ret (jB .sorted (jC (jB .list (jC (jV 5) jN)) jN)))))
noncomputable def n25:List Str:=[S "self",S "a",S "b",S "work",S "seen",S "found",S "one",S "other",S "child",S "after",S "why"]
noncomputable def m27:M:= .fori true [3,4,5] false (jS (jA (jV 0) 5) (jV 1)) (jI (.and (jE .eq (jS (jA (jV 0) 1) (jV 3)) (jV 1)) (jE .eq (jS (jA (jV 0) 1) (jV 4)) (jV 2))) (.ret (.tup (jC (jV 3) (jC (jV 4) (jC (jV 5) jN))))) jN (jI (.and (jE .eq (jS (jA (jV 0) 1) (jV 3)) (jV 2)) (jE .eq (jS (jA (jV 0) 1) (jV 4)) (jV 1))) (.ret (.tup (jC (jV 4) (jC (jV 3) (jC (jV 5) jN))))) jN jN)) [0,1,2] (.ret (jK .none))
noncomputable def n27:List Str:=[S "self",S "one",S "other",S "left",S "right",S "reason"]
noncomputable def m28:M:=jT 3 (jM (jV 0) 5 (jC (jV 1) (jC (jV 2) jN))) (jI (jE .isv (jV 3) (jK .none)) (.bad) jN (.ret (jM (jV 0) 29 (jC (jV 1) (jC (jV 2) (jC (jV 3) jN))))))
noncomputable def n28:List Str:=[S "self",S "a",S "b",S "cause"]
noncomputable def m29:M:= .sett [4,5,6] (jV 3) (.ret (jM (jV 0) 21 (jC (jM (jV 0) 30 (jC (jM (jV 0) 25 (jC (jV 1) (jC (jV 4) jN))) (jC (jM (jV 0) 25 (jC (jV 2) (jC (jV 5) jN))) jN))) (jC (jV 6) jN))))
noncomputable def n29:List Str:=[S "self",S "a",S "b",S "cause",S "left",S "right",S "reason"]
noncomputable def m30:M:= .ret (jB .sorted (jC (jO .add (jV 1) (.comp (jV 3) 3 (jV 2) (jE .notin (jV 3) (jV 1)) [1])) jN))
noncomputable def n30:List Str:=[S "self",S "some",S "more",S "reason"]
noncomputable def m33:M:= .fori true [2] true (jS (jA (jV 0) 6) (jV 1)) (jX (jM (jV 0) 34 (jC (jV 2) jN)) jN) [0,1] jN
noncomputable def n33:List Str:=[S "self",S "home",S "t"]
noncomputable def m37:M:=jX (jL (jA (jV 0) 16) .append (jC (jB .len (jC (jA (jV 0) 15) jN)) jN)) jN
noncomputable def n37:List Str:=[S "self"]
noncomputable def m38:M:=jI (jE .le (jV 1) (jK (.int 0))) (.ret0) jN (jT 2 (jS (jA (jV 0) 16) (jO .sub (jB .len (jC (jA (jV 0) 16) jN)) (jV 1))) (.setq 0 16 (.marks) (.slu (jA (jV 0) 16) (jO .sub (jB .len (jC (jA (jV 0) 16) jN)) (jV 1))) (.sets [3,4] (jC (.own (.byr 0) (.lst jN)) (jC (.own (.byr 1) (.lst jN)) jN)) (.whl (jE .gt (jB .len (jC (jA (jV 0) 15) jN)) (jV 2)) (jX (jM (jV 0) 39 (jC (jL (jA (jV 0) 15) .pop jN) (jC (jV 3) (jC (jV 4) jN)))) jN) [0,1,2,3,4] (.setq 0 12 (.queue) (.lst jN) (jI (.and (jE .isnot (jA (jV 0) 13) (jK .none)) (jE .lt (jB .len (jC (jA (jV 0) 16) jN)) (jA (jV 0) 14))) (.seta 0 13 (jK .none) jN) jN (.seta 0 11 (.comp (jV 5) 5 (jA (jV 0) 11) (jE .isin (jV 5) (jA (jV 0) 10)) [0]) (.fori false [5] true (.slr (jV 3) (.neg (jK (.int 1)))) (jX (jM (jV 0) 11 (jC (jV 5) jN)) jN) [0,1,2,3,4] (jX (jM (jV 0) 15 jN) (.fori false [5,6,7] false (.slr (jV 4) (.neg (jK (.int 1)))) (jX (jM (jV 0) 32 (jC (jV 5) (jC (jV 6) (jC (jV 7) jN)))) jN) [0,1,2,3,4] jN))))))))))
noncomputable def n38:List Str:=[S "self",S "n",S "spot",S "entered",S "watched",S "t",S "left",S "right"]
noncomputable def m39:M:=jT 4 (jS (jV 1) (jK (.int 0))) (jI (jE .eq (jV 4) (jK (.str (S "enter")))) (jX (jM (jV 0) 40 (jC (jS (jV 1) (jK (.int 1))) (jC (jS (jV 1) (jK (.int 2))) jN))) (jX (jL (jV 2) .append (jC (jS (jV 1) (jK (.int 1))) jN)) jN)) (jI (jE .eq (jV 4) (jK (.str (S "table")))) (jI (jE .isv (jS (jV 1) (jK (.int 2))) (jK .none)) (.del (jA (jV 0) 8) (jS (jV 1) (jK (.int 1))) jN) (.seti (jS (jV 1) (jK (.int 2))) (jA (jV 0) 8) (jS (jV 1) (jK (.int 1))) jN) jN) (jI (jE .eq (jV 4) (jK (.str (S "join")))) (jX (jM (jV 0) 41 (jC (jS (jV 1) (jK (.int 1))) (jC (jS (jV 1) (jK (.int 2))) (jC (jS (jV 1) (jK (.int 3))) (jC (jS (jV 1) (jK (.int 4))) jN))))) jN) (jI (jE .eq (jV 4) (jK (.str (S "edge")))) (.del (jA (jV 0) 7) (jS (jV 1) (jK (.int 1))) (jX (jM (jV 0) 23 (jC (jS (jV 1) (jK (.int 2))) jN)) jN)) (jI (jE .eq (jV 4) (jK (.str (S "apart")))) (jX (jL (jS (jA (jV 0) 5) (jS (jV 1) (jK (.int 1)))) .pop jN) (jX (jL (jS (jA (jV 0) 5) (jS (jV 1) (jK (.int 2)))) .pop jN) jN)) (jI (jE .eq (jV 4) (jK (.str (S "watch")))) (.sett [5,6] (jS (jA (jV 0) 9) (jS (jV 1) (jK (.int 1)))) (jX (jL (jV 3) .append (jC (.tup (jC (jS (jV 1) (jK (.int 1))) (jC (jV 5) (jC (jV 6) jN)))) jN)) (jX (jM (jV 0) 42 (jC (jS (jV 1) (jK (.int 1))) (jC (jS (jV 1) (jK (.int 2))) (jC (jS (jV 1) (jK (.int 3))) jN)))) jN))) (.del (jA (jV 0) 10) (jS (jV 1) (jK (.int 1))) jN) jN) jN) jN) jN) jN) jN)
noncomputable def n39:List Str:=[S "self",S "entry",S "entered",S "watched",S "kind",S "left",S "right"]
noncomputable def m40:M:= .fori false [3] true (jV 2) (jX (jL (jS (jA (jV 0) 3) (jV 3)) .pop jN) jN) [0,1,2] (.forh 4 (jC (jA (jV 0) 1) (jC (jA (jV 0) 2) (jC (jA (jV 0) 3) (jC (jA (jV 0) 4) (jC (jA (jV 0) 5) (jC (jA (jV 0) 6) jN)))))) (.del (jV 4) (jV 1) jN) [0,1,2] jN)
noncomputable def n40:List Str:=[S "self",S "t",S "homes",S "home",S "held"]
noncomputable def m41:M:= .setl 0 2 2 .mem (.slu (jS (jA (jV 0) 2) (jV 2)) (jS (jV 3) (jK (.int 0)))) (.setl 0 3 2 .use (.slu (jS (jA (jV 0) 3) (jV 2)) (jS (jV 3) (jK (.int 1)))) (.setl 0 5 2 .apt (.slu (jS (jA (jV 0) 5) (jV 2)) (jS (jV 3) (jK (.int 2)))) (.setl 0 6 2 .wat (.slu (jS (jA (jV 0) 6) (jV 2)) (jS (jV 3) (jK (.int 3)))) (.seti (jV 4) (jA (jV 0) 4) (jV 2) (.fori true [5] true (jS (jA (jV 0) 2) (jV 1)) (.seti (jV 1) (jA (jV 0) 1) (jV 5) jN) [0,1,2,3,4] jN)))))
noncomputable def n41:List Str:=[S "self",S "small",S "large",S "lengths",S "value",S "t"]
noncomputable def m43:M:= .setq 0 17 (.bk 0) (.lst (jC (jK (.str (S "Bool"))) (jC (jK (.str (S "Int"))) (jC (jK (.str (S "Real"))) jN)))) (.setq 0 18 (.bk 1) (.lst (jC (jK (.int 0)) (jC (jK (.int 0)) (jC (jK (.int 0)) jN)))) (.setq 0 19 (.bk 2) (.lst jN) (.setq 0 20 (.bk 3) (.lst jN) (.setq 0 21 (.bk 4) (.lst jN) (.seta 0 22 (jK (.int 0)) (.setq 0 23 (.bk 5) (.lst (jC (jK (.str (S ""))) jN)) (.setq 0 24 (.bk 6) (.lst (jC (.tup jN) jN)) (.setq 0 25 (.bk 7) (.lst (jC (.glo 2) jN)) (.setq 0 26 (.bk 8) (.lst (jC (jK (.int 0)) jN)) (.setq 0 27 (.bk 9) (.dT) (.seta 0 28 (jM (jV 0) 62 (jC (jK (.str (S "true"))) (jC (.tup jN) (jC (.glo 2) (jC (jK (.int 0)) jN))))) (.seta 0 29 (jM (jV 0) 62 (jC (jK (.str (S "false"))) (jC (.tup jN) (jC (.glo 2) (jC (jK (.int 0)) jN))))) jN))))))))))))
noncomputable def n43:List Str:=[S "self"]
noncomputable def m49:M:=jX (jL (jA (jV 0) 19) .append (jC (jV 1) jN)) (jX (jL (jA (jV 0) 20) .append (jC (jB .tuple (jC (jV 2) jN)) jN)) (jX (jL (jA (jV 0) 21) .append (jC (jV 3) jN)) (.ret (jO .sub (jB .len (jC (jA (jV 0) 19) jN)) (jK (.int 1))))))
noncomputable def n49:List Str:=[S "self",S "name",S "arg_sorts",S "result"]
noncomputable def m51:M:= .ret (jM (jV 0) 62 (jC (jK (.str (S "app"))) (jC (.tup jN) (jC (jV 2) (jC (jM (jV 0) 49 (jC (jV 1) (jC (.tup jN) (jC (jV 2) jN)))) jN)))))
noncomputable def n51:List Str:=[S "self",S "name",S "s"]
noncomputable def m56:M:= .ret (jS (jA (jV 0) 23) (jV 1))
noncomputable def n56:List Str:=[S "self",S "t"]
noncomputable def m57:M:= .ret (jS (jA (jV 0) 24) (jV 1))
noncomputable def n57:List Str:=[S "self",S "t"]
noncomputable def m58:M:= .ret (jS (jA (jV 0) 25) (jV 1))
noncomputable def n58:List Str:=[S "self",S "t"]
noncomputable def m59:M:= .ret (jS (jA (jV 0) 26) (jV 1))
noncomputable def n59:List Str:=[S "self",S "t"]
noncomputable def m62:M:=jT 5 (.tup (jC (jV 1) (jC (jV 2) (jC (jV 3) (jC (jV 4) jN))))) (jT 6 (jL (jA (jV 0) 27) .get (jC (jV 5) (jC (jK (.int 0)) jN))) (jI (jE .eq (jV 6) (jK (.int 0))) (jT 6 (jB .len (jC (jA (jV 0) 23) jN)) (jX (jL (jA (jV 0) 23) .append (jC (jV 1) jN)) (jX (jL (jA (jV 0) 24) .append (jC (jV 2) jN)) (jX (jL (jA (jV 0) 25) .append (jC (jV 3) jN)) (jX (jL (jA (jV 0) 26) .append (jC (jV 4) jN)) (.seti (jV 6) (jA (jV 0) 27) (jV 5) jN)))))) jN (.ret (jV 6))))
noncomputable def n62:List Str:=[S "self",S "op",S "args",S "sort",S "data",S "key",S "found"]
noncomputable def m67:M:= .ret (jA (jV 0) 28)
noncomputable def n67:List Str:=[S "self"]
noncomputable def m72:M:=jT 2 (jS (jV 0) (jK (.str (S "spot")))) (.seti (jO .add (jV 2) (jK (.int 1))) (jV 0) (jK (.str (S "spot"))) (jI (jE .lt (jV 2) (jB .len (jC (jS (jV 0) (jK (.str (S "cells")))) jN))) (.ret (jO .mod (jB .int (jC (jS (jS (jV 0) (jK (.str (S "cells")))) (jV 2)) jN)) (jV 1))) jN (.ret (jO .mod (jO .mod (jO .add (jO .add (jO .add (jO .mul (jO .mul (jK (.int 7)) (jV 2)) (jV 2)) (jO .mul (jK (.int 3)) (jV 2))) (jO .mul (jK (.int 5)) (jB .len (jC (jS (jV 0) (jK (.str (S "cells")))) jN)))) (jK (.int 2))) (jK (.int 97))) (jV 1)))))
noncomputable def n72:List Str:=[S "feed",S "wide",S "spot"]
noncomputable def m73:M:=jT 1 (jM (jV 0) 49 (jC (jK (.str (S "f"))) (jC (.tup (jC (.glo 3) jN)) (jC (.glo 3) jN)))) (.setc 2 (.comp (jM (jV 0) 51 (jC (jV 3) (jC (.glo 3) jN))) 3 (.tup (jC (jK (.str (S "a"))) (jC (jK (.str (S "b"))) (jC (jK (.str (S "c"))) jN)))) jN [0]) (jT 2 (.own (.tmp 0) (jO .add (jV 2) (.comp (jM (jV 0) 62 (jC (jK (.str (S "num"))) (jC (.tup jN) (jC (.glo 3) (jC (.tup (jC (jV 4) (jC (jK (.int 1)) jN))) jN))))) 4 (jB .range (jC (jK (.int 3)) jN)) jN [0]))) (.fori false [5,6] false (.glo 4) (jX (jL (jV 2) .append (jC (jM (jV 0) 62 (jC (jK (.str (S "app"))) (jC (.tup (jC (jS (jV 2) (jV 5)) jN)) (jC (.glo 3) (jC (jV 1) jN))))) jN)) jN) [0,1,2] (.rel 2 (.ret (jV 2))))))
noncomputable def n73:List Str:=[S "bank",S "call",S "found",S "name",S "k",S "inner",S "place"]
noncomputable def m74:M:= .sets [1,2] (jC (jB .list (jC (jB .range (jC (jK (.int 11)) jN)) jN)) (jC (jK (.bool true)) jN)) (.whl (.val (jV 2)) (jT 2 (jK (.bool false)) (.setw 3 (.tmp 0) (.comp (.tup (jC (jS (jV 4) (jK (.int 0))) (jC (jS (jV 4) (jK (.int 1))) jN))) 4 (jV 0) jN []) (.fori false [5,6] false (.glo 4) (.fori false [7,8] false (.glo 4) (jI (.and (jE .lt (jV 6) (jV 8)) (jE .eq (jS (jV 1) (jV 5)) (jS (jV 1) (jV 7)))) (jX (jL (jV 3) .append (jC (.tup (jC (jV 6) (jC (jV 8) jN))) jN)) jN) jN jN) [0,1,2,3,5,6] jN) [0,1,2,3] (.fori true [9,10] false (jV 3) (.setm [11,12] (jC (jB .min (jC (jS (jV 1) (jV 9)) (jC (jS (jV 1) (jV 10)) jN))) (jC (jB .max (jC (jS (jV 1) (jV 9)) (jC (jS (jV 1) (jV 10)) jN))) jN)) (jI (jE .ne (jV 11) (jV 12)) (.sets [1,2] (jC (.comp (.ite (jE .eq (jV 13) (jV 12)) (jV 11) (jV 13)) 13 (jV 1) jN [11,12]) (jC (jK (.bool true)) jN)) jN) jN jN)) [0,1,2,3] jN)))) [0,1,2] (.ret (jV 1)))
noncomputable def n74:List Str:=[S "facts",S "home",S "is_moving",S "wanted",S "fact",S "inner",S "place",S "within",S "spot",S "u",S "v",S "low",S "high",S "one"]
noncomputable def m75:M:= .setc 2 (.comp (jV 3) 3 (.tup (jC (jK (.int 3)) (jC (jK (.int 4)) (jC (jK (.int 5)) jN)))) (jE .eq (jS (jV 0) (jV 3)) (jS (jV 0) (jV 1))) [0,1]) (.ret (.ite (jE .ne (jV 2) (.lst jN)) (jS (jV 2) (jK (.int 0))) (.neg (jK (.int 1)))))
noncomputable def n75:List Str:=[S "home",S "u",S "found",S "k"]
noncomputable def m76:M:= .ret (jE .lt (.lset (.lst (jC (jS (jV 0) (jK (.int 3))) (jC (jS (jV 0) (jK (.int 4))) (jC (jS (jV 0) (jK (.int 5))) jN))))) (jK (.int 3)))
noncomputable def n76:List Str:=[S "home"]
noncomputable def m77:M:=jT 1 (.lst jN) (.fori true [2] true (jS (jV 0) (jK (.str (S "levels")))) (jT 1 (jO .add (jV 1) (jV 2)) jN) [0,1] (.ret (jV 1)))
noncomputable def n77:List Str:=[S "state",S "found",S "level"]
noncomputable def m78:M:=jT 2 (jF 77 (jC (jV 0) jN)) (jT 3 (.comp (jS (jV 4) (jK (.int 2))) 4 (jV 2) (jE .ne (jS (jV 4) (jK (.int 2))) (jK (.int 0))) []) (jI (.or (.not (.val (.isl (jV 1)))) (jE .ne (jV 1) (.srs (jV 1)))) (.ret (jK .none)) jN (jI (jE .ne (.comp (jV 5) 5 (jV 1) (jE .notin (jV 5) (jV 3)) [3]) (.lst jN)) (.ret (jK .none)) jN (.ret (jF 74 (jC (.comp (jV 4) 4 (jV 2) (.or (jE .eq (jS (jV 4) (jK (.int 2))) (jK (.int 0))) (jE .isin (jS (jV 4) (jK (.int 2))) (jV 1))) [1]) jN))))))
noncomputable def n78:List Str:=[S "state",S "reasons",S "facts",S "marks",S "fact",S "one"]
noncomputable def m79:M:= .fori false [2,3] false (.glo 4) (jI (jE .eq (jV 3) (jV 1)) (jX (jF 79 (jC (jV 0) (jC (jV 2) jN))) jN) jN jN) [0,1] (jI (jE .notin (jV 1) (jS (jV 0) (jK (.str (S "known"))))) (jX (jL (jS (jV 0) (jK (.str (S "known")))) .append (jC (jV 1) jN)) jN) jN jN)
noncomputable def n79:List Str:=[S "state",S "u",S "inner",S "place"]
noncomputable def m80:M:= .sets [4,5] (jC (jS (jV 0) (jK (.str (S "terms")))) (jC (.fz (.comp (jV 6) 6 (jS (jV 0) (jK (.str (S "known")))) (jE .ge (jF 75 (jC (jV 2) (jC (jV 6) jN))) (jK (.int 0))) [2])) jN)) (jI (jE .eq (jV 5) (.lst jN)) (.ret (jK (.bool true))) jN (jT 6 (jS (jV 5) (jO .mod (jV 3) (jB .len (jC (jV 5) jN)))) (jT 7 (jF 75 (jC (jV 2) (jC (jV 6) jN))) (jT 8 (jF 78 (jC (jV 0) (jC (jM (jV 1) 25 (jC (jS (jV 4) (jV 6)) (jC (jS (jV 4) (jV 7)) jN))) jN))) (jI (.or (jE .isv (jV 8) (jK .none)) (jE .ne (jS (jV 8) (jV 6)) (jS (jV 8) (jV 7)))) (.ret (jK (.bool false))) jN (.setc 9 (.comp (jV 10) 10 (jV 5) (jE .ne (jF 75 (jC (jV 2) (jC (jV 10) jN))) (jV 7)) [2,7]) (jI (jE .eq (jV 9) (.lst jN)) (.ret (jK (.bool true))) jN (jT 10 (jS (jV 9) (jO .mod (jO .fdiv (jV 3) (jK (.int 3))) (jB .len (jC (jV 9) jN)))) (.sets [8,11] (jC (jF 78 (jC (jV 0) (jC (jM (jV 1) 28 (jC (jS (jV 4) (jV 6)) (jC (jS (jV 4) (jV 10)) jN))) jN))) (jC (jF 75 (jC (jV 2) (jC (jV 10) jN))) jN)) (.ret (.andv (jE .isnot (jV 8) (jK .none)) (.one (jE .eq (.lst (jC (jF 75 (jC (jV 8) (jC (jV 6) jN))) (jC (jF 75 (jC (jV 8) (jC (jV 10) jN))) jN))) (.lst (jC (jV 7) (jC (jV 11) jN))))))))))))))))
noncomputable def n80:List Str:=[S "state",S "house",S "home",S "turn",S "some",S "valued",S "u",S "k",S "inner",S "others",S "v",S "other"]
noncomputable def m81:M:= .setm [3,4] (jC (jS (jV 0) (jK (.str (S "terms")))) (jC (jS (jV 0) (jK (.str (S "known")))) jN)) (jI (jE .ne (.comp (jM (jV 1) 2 (jC (jV 5) jN)) 5 (jV 3) jN [1]) (.comp (jE .isin (jV 6) (jV 4)) 6 (jB .range (jC (jK (.int 11)) jN)) jN [4])) (.ret (jK (.bool false))) jN (jT 7 (.own (.tmp 0) (.dL)) (.fori true [6] true (jV 4) (.seti (jO .add (jL (jV 7) .get (jC (jS (jV 2) (jV 6)) (jC (.lst jN) jN))) (.lst (jC (jS (jV 3) (jV 6)) jN))) (jV 7) (jS (jV 2) (jV 6)) jN) [0,1,2,3,4,7] (jI (jE .ne (jM (jV 1) 7 jN) (.srt (.fz (.comp (jB .sorted (jC (jS (jV 7) (jV 8)) jN)) 8 (jV 7) jN [7])))) (.ret (jK (.bool false))) jN (.fori true [6] true (jV 4) (jT 8 (jF 75 (jC (jV 2) (jC (jV 6) jN))) (jI (jE .ne (jM (jV 1) 6 (jC (jS (jV 3) (jV 6)) jN)) (.ite (jE .ge (jV 8) (jK (.int 0))) (jS (jV 3) (jV 8)) (jK (.int 0)))) (.ret (jK (.bool false))) jN (.fori false [9] true (jV 4) (jT 10 (jF 75 (jC (jV 2) (jC (jV 9) jN))) (jI (jE .ne (jM (jV 1) 4 (jC (jS (jV 3) (jV 6)) (jC (jS (jV 3) (jV 9)) jN))) (.andv (jE .ge (jV 8) (jK (.int 0))) (.andv (jE .ge (jV 10) (jK (.int 0))) (.one (jE .ne (jV 8) (jV 10)))))) (.ret (jK (.bool false))) jN jN)) [0,1,2,3,4,6,8] jN))) [0,1,2,3,4] (.ret (jK (.bool true))))))))
noncomputable def n81:List Str:=[S "state",S "house",S "home",S "some",S "known",S "t",S "u",S "rows",S "k",S "v",S "other"]
noncomputable def m82(i:Nat):M:= .sets [3,4] (jC (jF 72 (jC (jV 0) (jC (jK (.int 8)) jN))) (jC (jS (jV 1) (jK (.str (S "terms")))) jN)) (jI (jE .eq (jV 3) (jK (.int 5))) (jX (jL (jS (jV 1) (jK (.str (S "levels")))) .append (jC (.own (.lvl i) (.lst .nil)) jN)) (jX (jM (jV 2) 37 jN) jN)) (jI (.and (jE .eq (jV 3) (jK (.int 6))) (jE .gt (jB .len (jC (jS (jV 1) (jK (.str (S "levels")))) jN)) (jK (.int 1)))) (jT 5 (jO .add (jK (.int 1)) (jF 72 (jC (jV 0) (jC (jO .sub (jB .len (jC (jS (jV 1) (jK (.str (S "levels")))) jN)) (jK (.int 1))) jN)))) (jX (jM (jV 2) 38 (jC (jV 5) jN)) (.setd 1 (S "levels") (.levels) (.slu (jS (jV 1) (jK (.str (S "levels")))) (jO .sub (jB .len (jC (jS (jV 1) (jK (.str (S "levels")))) jN)) (jV 5))) jN))) (jI (jE .eq (jV 3) (jK (.int 7))) (jT 6 (jF 72 (jC (jV 0) (jC (jK (.int 11)) jN))) (jX (jF 79 (jC (jV 1) (jC (jV 6) jN))) (jX (jM (jV 2) 10 (jC (jS (jV 4) (jV 6)) jN)) jN))) (jI (jE .ne (jV 3) (jK (.int 6))) (.sets [6,7] (jC (jF 72 (jC (jV 0) (jC (jK (.int 11)) jN))) (jC (jF 72 (jC (jV 0) (jC (jK (.int 11)) jN))) jN)) (jT 8 (jS (.tup (jC (jK (.int 0)) (jC (jK (.int 2)) (jC (jK (.int 3)) (jC (.neg (jK (.int 4))) (jC (jK (.int 2)) (jC (jK (.int 6)) jN))))))) (jF 72 (jC (jV 0) (jC (jK (.int 6)) jN)))) (jX (jL (jS (jS (jV 1) (jK (.str (S "levels")))) (.neg (jK (.int 1)))) .append (jC (.tup (jC (jV 6) (jC (jV 7) (jC (jV 8) jN)))) jN)) (jX (jF 79 (jC (jV 1) (jC (jV 6) jN))) (jX (jF 79 (jC (jV 1) (jC (jV 7) jN))) (jX (jM (jV 2) 14 (jC (jS (jV 4) (jV 6)) (jC (jS (jV 4) (jV 7)) (jC (jV 8) jN)))) jN)))))) jN jN) jN) jN) jN)
noncomputable def n82:List Str:=[S "feed",S "state",S "house",S "deed",S "some",S "many",S "u",S "v",S "mark"]
noncomputable def m83:M:= .sets [1,2] (jC (.own (.feed) (.dS (.pr (jK (.str (S "cells"))) (jB .list (jC (.slu (jV 0) (jK (.int 44))) jN)) (.pr (jK (.str (S "spot"))) (jK (.int 0)) jN)))) (jC (.new (.bank) 43 jN) jN)) (jT 3 (.new (.house) 0 (jC (jV 2) jN)) (jT 4 (.own (.state) (.dS (.pr (jK (.str (S "terms"))) (jF 73 (jC (jV 2) jN)) (.pr (jK (.str (S "levels"))) (.own (.levels) (.lst (jC (.own (.lvl 0) (.lst jN)) jN))) (.pr (jK (.str (S "known"))) (.own (.known) (.lst jN)) jN))))) (.fori false [5] true (jB .range (jC (jO .add (jK (.int 3)) (jF 72 (jC (jV 1) (jC (jK (.int 6)) jN)))) jN)) (jX (jF 82 (jC (jV 1) (jC (jV 4) (jC (jV 3) jN)))) (.sets [6,7] (jC (jF 74 (jC (jF 77 (jC (jV 4) jN)) jN)) (jC (jM (jV 3) 8 jN) jN)) (jI (jE .ne (jE .isnot (jV 7) (jK .none)) (jF 76 (jC (jV 6) jN))) (.ret (jK (.bool false))) jN (jI (jE .isnot (jV 7) (jK .none)) (jT 8 (jF 78 (jC (jV 4) (jC (jV 7) jN))) (jI (.or (jE .isv (jV 8) (jK .none)) (.not (.val (jF 76 (jC (jV 8) jN))))) (.ret (jK (.bool false))) jN (jI (jE .eq (jB .len (jC (jS (jV 4) (jK (.str (S "levels")))) jN)) (jK (.int 1))) (.ret (jK (.bool true))) jN (jX (jM (jV 3) 38 (jC (jK (.int 1)) jN)) (.setd 4 (S "levels") (.levels) (.slu (jS (jV 4) (jK (.str (S "levels")))) (.neg (jK (.int 1)))) (jT 6 (jF 74 (jC (jF 77 (jC (jV 4) jN)) jN)) (jI (jE .isnot (jM (jV 3) 8 jN) (jK .none)) (.ret (jK (.bool false))) jN jN))))))) jN (jI (.or (.not (.val (jF 81 (jC (jV 4) (jC (jV 3) (jC (jV 6) jN)))))) (.not (.val (jF 80 (jC (jV 4) (jC (jV 3) (jC (jV 6) (jC (jO .add (jV 5) (jB .len (jC (jS (jV 4) (jK (.str (S "known")))) jN))) jN)))))))) (.ret (jK (.bool false))) jN jN))))) [0,1,2,3,4] (.ret (.ite (jE .ne (jS (jV 4) (jK (.str (S "known")))) (.lst jN)) (jE .ge (jM (jV 3) 6 (jC (jS (jS (jV 4) (jK (.str (S "terms")))) (jS (jS (jV 4) (jK (.str (S "known")))) (jK (.int 0)))) jN)) (jK (.int 0))) (jE .eq (jM (jV 3) 7 jN) (.lst jN)))))))
noncomputable def n83:List Str:=[S "script",S "feed",S "bank",S "house",S "state",S "lap",S "home",S "clash",S "inner"]
theorem c0:d9 0 n0 2 m0=true:=by kernel_rfl
theorem c2:d9 2 n2 2 m2=true:=by kernel_rfl
theorem c3:d9 3 n3 3 m3=true:=by kernel_rfl
theorem c4:d9 4 n4 3 m4=true:=by kernel_rfl
theorem c5:d9 5 n5 3 m5=true:=by kernel_rfl
theorem c6:d9 6 n6 2 m6=true:=by kernel_rfl
theorem c7:d9 7 n7 1 m7=true:=by kernel_rfl
theorem c8:d9 8 n8 1 m8=true:=by kernel_rfl
theorem c9:d9 9 n9 2 m9=true:=by kernel_rfl
theorem c10:d9 10 n10 2 m10=true:=by kernel_rfl
theorem c11:d9 11 n11 2 m11=true:=by kernel_rfl
theorem c12:d9 12 n12 2 m12=true:=by kernel_rfl
theorem c13:d9 13 n13 2 m13=true:=by kernel_rfl
theorem c14:d9 14 n14 4 m14=true:=by kernel_rfl
theorem c15:d9 15 n15 1 m15=true:=by kernel_rfl
theorem c16:d9 16 n16 4 m16=true:=by kernel_rfl
theorem c17:d9 17 n17 2 m17=true:=by kernel_rfl
theorem c18:d9 18 n18 2 m18=true:=by kernel_rfl
theorem c19:d9 19 n19 2 m19=true:=by kernel_rfl
theorem c20:d9 20 n20 2 m20=true:=by kernel_rfl
theorem c21:d9 21 n21 3 m21=true:=by kernel_rfl
theorem c22:d9 22 n22 4 m22=true:=by kernel_rfl
theorem c23:d9 23 n23 2 m23=true:=by kernel_rfl
theorem c24:d9 24 n24 3 m24=true:=by kernel_rfl
theorem c25:d9 25 n25 3 m25=true:=by kernel_rfl
theorem c27:d9 27 n27 3 m27=true:=by kernel_rfl
theorem c28:d9 28 n28 3 m28=true:=by kernel_rfl
theorem c29:d9 29 n29 4 m29=true:=by kernel_rfl
theorem c30:d9 30 n30 3 m30=true:=by kernel_rfl
theorem c33:d9 33 n33 2 m33=true:=by kernel_rfl
theorem c37:d9 37 n37 1 m37=true:=by kernel_rfl
theorem c38:d9 38 n38 2 m38=true:=by kernel_rfl
theorem c39:d9 39 n39 4 m39=true:=by kernel_rfl
theorem c40:d9 40 n40 3 m40=true:=by kernel_rfl
theorem c41:d9 41 n41 5 m41=true:=by kernel_rfl
theorem c43:d9 43 n43 1 m43=true:=by kernel_rfl
theorem c49:d9 49 n49 4 m49=true:=by kernel_rfl
theorem c51:d9 51 n51 3 m51=true:=by kernel_rfl
theorem c56:d9 56 n56 2 m56=true:=by kernel_rfl
theorem c57:d9 57 n57 2 m57=true:=by kernel_rfl
theorem c58:d9 58 n58 2 m58=true:=by kernel_rfl
theorem c59:d9 59 n59 2 m59=true:=by kernel_rfl
theorem c62:d9 62 n62 5 m62=true:=by kernel_rfl
theorem c67:d9 67 n67 1 m67=true:=by kernel_rfl
theorem c72:d9 72 n72 2 m72=true:=by kernel_rfl
theorem c73:d9 73 n73 1 m73=true:=by kernel_rfl
theorem c74:d9 74 n74 1 m74=true:=by kernel_rfl
theorem c75:d9 75 n75 2 m75=true:=by kernel_rfl
theorem c76:d9 76 n76 1 m76=true:=by kernel_rfl
theorem c77:d9 77 n77 1 m77=true:=by kernel_rfl
theorem c78:d9 78 n78 2 m78=true:=by kernel_rfl
theorem c79:d9 79 n79 2 m79=true:=by kernel_rfl
theorem c80:d9 80 n80 4 m80=true:=by kernel_rfl
theorem c81:d9 81 n81 3 m81=true:=by kernel_rfl
theorem c82(i:Nat):d9 82 n82 3 (m82 i)=true:=by kernel_rfl
theorem c83:d9 83 n83 1 m83=true:=by kernel_rfl
end
section
variable{P:Prg}{n:Nat}{g:Aside}{K:Bks}{E:Eng}{t x d:Int}{md:Md}
noncomputable def hp(P:Prg)(g:Aside)(K:Bks)(E:Eng):Tg->Option AObj:=emb P.C P.B g K E
abbrev Me(P:Prg)(n id:Nat)(md:Md)(as:List AV)(g:Aside)(K:Bks)(E:Eng)(a:AV)(E':Eng):Prop:=FnI P n md id (.obj .house::as) (hp P g K E) a (hp P g K E')
structure Trm(K:Bks)(t:Int)(o:Str)(as:List Int)(d:PyData):Prop where
 o:ao t (K.ops.map λo=>AV.dat (.str o))=some (.dat (.str o))
 a:ao t (K.args.map λl=>AV.dat (.tuple (zs l)))=some (.dat (.tuple (zs as)))
 d:ao t (K.datas.map AV.dat)=some (.dat d)
 l:K.ops.length<=1000000/\K.args.length<=1000000/\K.datas.length<=1000000
theorem p8{α β K:Type}[DecidableEq K]{f:K->Option α}{h:α->β}{k:K}:av (λt=>(f t).map h) k=λt=>(av f k t).map h:=funext λt=>by
 unfold av;split<;>rfl
theorem e9{α β K:Type}[DecidableEq K]{f:K->Option α}{h:α->β}{k:K}{x:α}:a6 (λt=>(f t).map h) k (h x)=λt=>(a6 f k x t).map h:=funext λt=>by
 unfold a6;split<;>rfl
theorem zs_snoc{l:List Int}{x:Int}:(zs l).map AV.dat++[iv x]=(zs (l++[x])).map AV.dat:=by unfold zs;rw [kh,kh];rfl
theorem D9{R:List KI->Option (List Int)->Prop}(h0:∀k,R k none)(h1:∀a b,R [.int a,.int b] (some [a,b]))(k:List KI):R k (kints k):=by
 cases k with
 |nil=>exact h0 _
 |cons x m=>cases x with
  |str _=>exact h0 _
  |tup _=>exact h0 _
  |int a=>cases m with
   |nil=>exact h0 _
   |cons y r=>cases y with
    |str _=>exact h0 _
    |tup _=>exact h0 _
    |int b=>cases r with
     |nil=>exact h1 a b
     |cons _ _=>exact h0 _
theorem tab_ne{f g:List Int->Option Int}{a b:Int}(h:∀x,x≠[a,b]->f x=g x){k:List KI}(e:k≠[.int a,.int b]):Ej f k=Ej g k:=by
 exact D9 (R:=λk o=>k≠[.int a,.int b]->(o.bind λl=>(f l).map iv)=o.bind λl=>(g l).map iv) (λ_ _=>rfl) (λc d e=>cGx (Option.map iv) (h _ λz=>e (by cases z;rfl))) k e
theorem Iv{f:List Int->Option Int}{a b:Int}:av (Ej f) [.int a,.int b]=Ej (av f [a,b]):=funext λk=>by
 by_cases e:k=[.int a,.int b]
 ·rw [e];exact(if_pos rfl).trans (cGx (Option.map iv) (if_pos rfl:av f [a,b] [a,b]=none)).symm
 ·exact(if_neg e).trans (tab_ne (λx n=>(if_neg n:av f [a,b] x=f x).symm) e)
theorem Iw{f:List Int->Option Int}{a b x:Int}:a6 (Ej f) [.int a,.int b] (iv x)=Ej (a6 f [a,b] x):=funext λk=>by
 by_cases e:k=[.int a,.int b]
 ·rw [e];exact(if_pos rfl).trans (cGx (Option.map iv) (if_pos rfl:a6 f [a,b] x [a,b]=some x)).symm
 ·exact(if_neg e).trans (tab_ne (λy n=>(if_neg n:a6 f [a,b] x y=f y).symm) e)
theorem Hr{l:List Ent}{d:List AV}(h:d=(l.map u7).map .dat):up (hp P g K E) .trail (.list true d)=hp P g K {E with trail:=l}:=h▸funext λτ=>by
 cases τ with
 |ls k t=>cases k<;>rfl
 |dct k=>cases k<;>rfl
 |_=>rfl
theorem Hp{l:List (Int×Int×Why)}{d:List AV}(h:d=(l.map qD).map .dat):up (hp P g K E) .queue (.list true d)=hp P g K {E with queue:=l}:=h▸funext λτ=>by
 cases τ with
 |ls k t=>cases k<;>rfl
 |dct k=>cases k<;>rfl
 |_=>rfl
theorem Ho{l:List Int}{d:List AV}(h:d=(zs l).map .dat):up (hp P g K E) .marks (.list true d)=hp P g K {E with marks:=l}:=h▸funext λτ=>by
 cases τ with
 |ls k t=>cases k<;>rfl
 |dct k=>cases k<;>rfl
 |_=>rfl
theorem e_up{v:Int->Option (Int×Why)}{f:Int->Option AV}(h:f=λt=>(v t).map C6):up (hp P g K E) .up (.dictI true f)=hp P g K {E with up:=v}:=h▸funext λτ=>by
 cases τ with
 |ls k t=>cases k<;>rfl
 |dct k=>cases k<;>rfl
 |_=>rfl
theorem e_val{v:Int->Option Int}{f:Int->Option AV}(h:f=λt=>(v t).map iv):up (hp P g K E) .value (.dictI true f)=hp P g K {E with val:=v}:=h▸funext λτ=>by
 cases τ with
 |ls k t=>cases k<;>rfl
 |dct k=>cases k<;>rfl
 |_=>rfl
theorem Hq{v:List Int->Option Int}{f:List KI->Option AV}(h:f=Ej v):up (hp P g K E) .table (.dictT f)=hp P g K {E with tab:=v}:=h▸funext λτ=>by
 cases τ with
 |ls k t=>cases k<;>rfl
 |dct k=>cases k<;>rfl
 |_=>rfl
theorem nw{c:Option (List Int)}{v:Int}{f:List (Nat×AV)}(h:f=my c v):up (hp P g K E) .house (.inst P.C f)=hp P g K {E with clash:=c,clv:=v}:=h▸funext λτ=>by
 cases τ with
 |ls k t=>cases k<;>rfl
 |dct k=>cases k<;>rfl
 |_=>rfl
theorem M9{α β:Type}{f:Int->Option α}{h:β}{t:Int}{x:α}(k:(f t).isSome=true):(λs=>(a6 f t x s).map λ_=>h)=λs=>(f s).map λ_=>h:=funext λs=>by
 unfold a6;split
 ·rename_i e;rw [e];exact(wn.mp k).elim λa e=>by rw [e];rfl
 ·rfl
theorem nv{α:Type}{f:Int->Option α}{κ:LK}{t:Int}{x:α}(k:(f t).isSome=true):Ff κ (a6 f t x)=Ff κ f:=cGx (AObj.dictI true) (funext λs=>by
 unfold a6;split
 ·rename_i e;rw [e];exact(wn.mp k).elim λa e=>by rw [e];rfl
 ·rfl)
theorem ls_set{f:Int->Option (List Int)}{g:Int->Option AObj}{t s:Int}{x:List Int}(n:s≠t):dy (a6 f t x) g s=dy f g s:=by unfold dy a6;rw [if_neg n]
theorem e_root{t x:Int}(k:(E.root t).isSome=true){f:Int->Option AV}(h:f=λs=>(a6 E.root t x s).map iv):up (hp P g K E) .root (.dictI true f)=hp P g K {E with root:=a6 E.root t x}:=h▸funext λτ=>by
 have z:∀s,dy (λs=>(a6 E.root t x s).map λ_=>[]) (g.ls .apt) s=dy (λs=>(E.root s).map λ_=>[]) (g.ls .apt) s/\dy (λs=>(a6 E.root t x s).map λ_=>[]) (g.ls .wat) s=dy (λs=>(E.root s).map λ_=>[]) (g.ls .wat) s:=λs=>by rw [M9 k];exact⟨rfl,rfl⟩
 cases τ with
 |ls k s=>cases k with
  |mem=>rfl
  |use=>rfl
  |apt=>exact(z s).1.symm
  |wat=>exact(z s).2.symm
 |dct k'=>cases k' with
  |mem=>rfl
  |use=>rfl
  |apt=>exact cGx some (nv k).symm
  |wat=>exact cGx some (nv k).symm
 |_=>rfl
theorem e_mem{t:Int}{l:List Int}(k:(E.mem t).isSome=true){d:List AV}(h:d=(zs l).map .dat):up (hp P g K E) (.ls .mem t) (.list true d)=hp P g K {E with mem:=a6 E.mem t l}:=h▸b5 (λτ n=>by
 cases τ with
 |ls k s=>cases k with
  |mem=>exact(ls_set λ(e:s=t)=>n (cGx _ e)).symm
  |_=>rfl
 |dct k'=>cases k' with
  |mem=>exact cGx some (nv k).symm
  |_=>rfl
 |_=>rfl) (by show dy (a6 E.mem t l) _ t=_;unfold dy a6;rw [if_pos rfl];rfl)
theorem Ht{t:Int}{l:List Int}(k:(E.use t).isSome=true){d:List AV}(h:d=(zs l).map .dat):up (hp P g K E) (.ls .use t) (.list true d)=hp P g K {E with use:=a6 E.use t l}:=h▸b5 (λτ n=>by
 cases τ with
 |ls k s=>cases k with
  |use=>exact(ls_set λ(e:s=t)=>n (cGx _ e)).symm
  |_=>rfl
 |dct k'=>cases k' with
  |use=>exact cGx some (nv k).symm
  |_=>rfl
 |_=>rfl) (by show dy (a6 E.use t l) _ t=_;unfold dy a6;rw [if_pos rfl];rfl)
variable{o:Str}{as:List Int}{dd:PyData}
structure BkAt(P:Prg)(K:Bks)(b:Tg->Option AObj):Prop where
 i:b .bank=some (.inst P.B (A0 K))
 k:∀j,b (.bk j)=vq K j
theorem tx:BkAt P K (hp P g K E):=⟨rfl,λ_=>rfl⟩
theorem ai{l:List PyData}{k:Nat}(h:l.length<=k):(l.map AV.dat).length<=k:=ja (jd (jb _)) h
theorem ac{α β:Type}{l:List α}{f:α->β}{k:Nat}(h:l.length<=k):(l.map f).length<=k:=ja (jd (jb _)) h
variable{b:Tg->Option AObj}
theorem b56(T:Trm K t o as dd)(B:BkAt P K b):FnI P (n+1) .all 56 [.obj .bank,iv t] b (.dat (.str o)) b:=by
 refine enter c56 rt rt ?_
 refine a7 (x:=b .bank) B.i (a7 (x:=b (.bk 5)) (B.k 5) ?_)
 exact a7 (a:=AV.dat (.str o)) ((cGx (ao t) (jt ..)).trans T.o) ⟨ai (ac T.l.1),done⟩
theorem b57(T:Trm K t o as dd)(B:BkAt P K b):FnI P (n+1) .all 57 [.obj .bank,iv t] b (.dat (.tuple (zs as))) b:=by
 refine enter c57 rt rt ?_
 refine a7 (x:=b .bank) B.i (a7 (x:=b (.bk 6)) (B.k 6) ?_)
 exact a7 (a:=AV.dat (.tuple (zs as))) ((cGx (ao t) (jt ..)).trans T.a) ⟨ai (ac T.l.2.1),done⟩
theorem l57(T:Trm K t o as dd):FnI P (n+1) .all 57 [.obj .bank,iv t] (hp P g K E) (.dat (.tuple (zs as))) (hp P g K E):=b57 T tx
theorem l59(T:Trm K t o as dd):FnI P (n+1) .all 59 [.obj .bank,iv t] (hp P g K E) (.dat dd) (hp P g K E):=by
 refine enter c59 rt rt ?_
 exact a7 (a:=AV.dat dd) T.d ⟨ai T.l.2.2,done⟩
end
section
theorem ag{K α:Type}[DecidableEq K]{f:K->Option α}{k:K}{u:α}:a6 f k u k=some u:=if_pos rfl
theorem ah{K α:Type}[DecidableEq K]{f:K->Option α}{k x:K}{u:α}(h:x≠k):a6 f k u x=f x:=if_neg h
theorem fdel_eq{K α:Type}[DecidableEq K]{f:K->Option α}{k:K}:av f k k=none:=if_pos rfl
theorem io{K α:Type}[DecidableEq K]{f:K->Option α}{k x:K}(h:x≠k):av f k x=f x:=if_neg h
abbrev Up:=Int->Option (Int×Why)
abbrev b4:=Int×Int×Why
inductive Path(up:Up):Int->List b4->Int->Prop
 |nil (t:Int):Path up t [] t
 |cons {t n z:Int} {y:Why} {l:List b4}:up t=some (n,y)->Path up n l z->Path up t ((t,n,y)::l) z
section
variable{up:Up}{a b c z m:Int}{l l1 l2:List b4}
theorem Path.app(p:Path up a l1 b)(q:Path up b l2 c):Path up a (l1++l2) c:=by
 induction p with
 |nil=>exact q
 |cons h _ ih=>exact .cons h (ih q)
theorem Path.split(p:Path up a (l1++l2) c):∃b,Path up a l1 b/\Path up b l2 c:=by
 induction l1 generalizing a with
 |nil=>exact⟨a,.nil a,p⟩
 |cons e l1 ih=>
  cases p with
  |cons h q=>exact(ih q).imp λb z=>⟨.cons h z.1,z.2⟩
theorem Path.cmp(p:Path up a l1 b)(q:Path up a l2 c):(∃l,l2=l1++l/\Path up b l c)\/(∃l,l1=l2++l/\Path up c l b):=by
 induction p generalizing l2 with
 |nil=>exact .inl ⟨l2,rfl,q⟩
 |cons h p ih=>
  cases q with
  |nil=>exact .inr ⟨_,rfl,.cons h p⟩
  |cons h' q=>
   cases sJx (h.symm.trans h')
   exact(ih q).imp (λz=>z.imp λl z=>⟨cGx (_::·) z.1,z.2⟩) λz=>z.imp λl z=>⟨cGx (_::·) z.1,z.2⟩
theorem Path.stop(p:Path up a l b)(h:up a=none):l=[]/\b=a:=by
 cases p with
 |nil=>exact⟨rfl,rfl⟩
 |cons g _=>rw [h] at g;cases g
theorem Path.ends(p:Path up a l1 b)(q:Path up a l2 c)(hb:up b=none)(hc:up c=none):l1=l2/\b=c:=by
 rcases p.cmp q with⟨l,e,r⟩|⟨l,e,r⟩
 ·obtain⟨rfl,rfl⟩:=r.stop hb
  exact⟨by rw [e,jk],rfl⟩
 ·obtain⟨rfl,rfl⟩:=r.stop hc
  exact⟨by rw [e,jk],rfl⟩
theorem Path.edge(p:Path up a l b){e:b4}(h:e∈l):up e.1=some e.2:=by
 induction p with
 |nil=>cases h
 |cons g _ ih=>
  rcases jh.mp h with rfl|h
  ·exact g
  ·exact ih h
def Topped(up:Up):Prop:=∀t,∃l z,Path up t l z/\up z=none
theorem Topped.loop(T:Topped up)(p:Path up a l a):l=[]:=by
 obtain⟨L,z,q,hz⟩:=T a
 have:=(p.app q).ends q hz hz
 have h:=cGx wj this.1
 rw [je] at h
 exact List.eq_nil_of_length_eq_zero (Nat.add_right_cancel (h.trans (qn _).symm))
theorem Path.at_(p:Path up a l b){e:b4}(h:e∈l):∃l1 l2,l=l1++e::l2/\Path up a l1 e.1/\Path up e.1 (e::l2) b/\Path up e.2.1 l2 b:=by
 obtain⟨l1,l2,rfl⟩:=List.append_of_mem h
 obtain⟨x,p1,p2⟩:=p.split
 cases p2 with
 |cons g q=>exact⟨l1,l2,rfl,p1,.cons g q,q⟩
theorem Path.nodup(T:Topped up)(p:Path up a l b):(l.map (·.1)).Nodup/\b∉l.map (·.1):=by
 induction p with
 |nil=>exact⟨qt,by simp⟩
 | @cons t n z y l h q ih=>
  refine⟨?_,?_⟩
  ·rw [jz,kj]
   refine⟨λz=> ?_,ih.1⟩
   obtain⟨e,he,ee⟩:=jf.mp z
   obtain⟨l1,l2,_,p1,_,_⟩:=q.at_ he
   have:=T.loop (Path.cons (up:=up) h (ee▸p1))
   cases this
  ·rw [jz,jh,not_or]
   refine⟨λe=> ?_,ih.2⟩
   subst e
   have:=T.loop (Path.cons h q)
   cases this
theorem Path.ups(p:Path up a l b):a::l.map (·.2.1)=l.map (·.1)++[b]:=by
 induction p with
 |nil=>rfl
 |cons h q ih=>exact cGx (_::·) ih
theorem fk{α:Type}{l:List α}{x:α}(h:l.Nodup)(g:x∉l):(l++[x]).Nodup:=
 List.nodup_append.mpr ⟨h,kj.mpr ⟨List.not_mem_nil,qt⟩,λa ha b hb e=>g (jg.mp hb▸e▸ha)⟩
theorem Path.nodup2(T:Topped up)(p:Path up a l b):(a::l.map (·.2.1)).Nodup:=by
 rw [p.ups]
 exact fk (p.nodup T).1 (p.nodup T).2
end
theorem d5{α:Type}[DecidableEq α]{l T:List α}(h:l.Nodup)(g:∀x∈l,x∈T):l.length<=T.length:=h.length_le_of_subset g
def InE(es:List b4)(c n:Int)(y:Why):Prop:=(c,n,y)∈es\/(n,c,y)∈es
theorem InE.symm{es:List b4}{c n:Int}{y:Why}(h:InE es c n y):InE es n c y:=Or.symm h
theorem InE.mono{es es':List b4}(k:∀e∈es,e∈es'){c n:Int}{y:Why}(h:InE es c n y):InE es' c n y:=h.imp (k _) (k _)
inductive Con(es:List b4):Int->Int->Prop
 |refl (a:Int):Con es a a
 |step {a n b:Int} {y:Why}:InE es a n y->Con es n b->Con es a b
section
variable{es es':List b4}{a b c:Int}
theorem Con.trans(p:Con es a b)(q:Con es b c):Con es a c:=by
 induction p with
 |refl=>exact q
 |step h _ ih=>exact .step h (ih q)
theorem Con.one{y:Why}(h:InE es a b y):Con es a b:= .step h (.refl _)
theorem Con.symm(p:Con es a b):Con es b a:=by
 induction p with
 |refl=>exact .refl _
 |step h _ ih=>exact ih.trans (.one h.symm)
theorem Con.mono(k:∀e∈es,e∈es')(p:Con es a b):Con es' a b:=by
 induction p with
 |refl=>exact .refl _
 |step h _ ih=>exact .step (h.mono k) ih
theorem Con.keep{R:Int->Int->Prop}(h0:∀x,R x x)(hs:∀x y,R x y->R y x)(ht:∀x y z,R x y->R y z->R x z)(he:∀x n y,(x,n,y)∈es->R x n)(p:Con es a b):R a b:=by
 induction p with
 |refl=>exact h0 _
 |step h _ ih=>
  rcases h with h|h
  ·exact ht _ _ _ (he _ _ _ h) ih
  ·exact ht _ _ _ (hs _ _ (he _ _ _ h)) ih
end
structure Forest(up:Up)(es:List b4):Prop where
 a:∀c n y,up c=some (n,y)->InE es c n y
 b:∀x n y,(x,n,y)∈es->up x=some (n,y)\/up n=some (x,y)
 top:Topped up
section
variable{up:Up}{es p:List b4}{a b c z m:Int}{l l1 l2:List b4}
theorem Forest.con_path(F:Forest up es)(q:Path up a l b):Con es a b:=by
 induction q with
 |nil=>exact .refl _
 |cons h _ ih=>exact .step (F.a _ _ _ h) ih
theorem Forest.con_part(F:Forest up es)(q:Path up a l b)(h:∀e∈l,InE p e.1 e.2.1 e.2.2):Con p a b:=by
 induction q with
 |nil=>exact .refl _
 |cons g _ ih=>exact .step (h _ (.head _)) (ih λe he=>h e (.tail _ he))
theorem Forest.meet(F:Forest up es)(k:∀e∈p,e∈es)(q:Con p a b):∃z la lb,Path up a la z/\Path up b lb z/\(∀e∈la,InE p e.1 e.2.1 e.2.2)/\∀e∈lb,InE p e.1 e.2.1 e.2.2:=by
 refine q.keep (R:=λa b=>∃z la lb,Path up a la z/\Path up b lb z/\(∀e∈la,InE p e.1 e.2.1 e.2.2)/\∀e∈lb,InE p e.1 e.2.1 e.2.2) ?_ ?_ ?_ ?_
 ·exactλx=>⟨x,[],[],.nil x,.nil x,(λ_ h=>by cases h),λ_ h=>by cases h⟩
 ·exactλx y ⟨z,la,lb,h1,h2,h3,h4⟩=>⟨z,lb,la,h2,h1,h4,h3⟩
 ·rintro x y w ⟨z,la,lb,h1,h2,h3,h4⟩ ⟨z',la',lb',h1',h2',h3',h4'⟩
  rcases h2.cmp h1' with⟨l,e,r⟩|⟨l,e,r⟩
  ·refine⟨z',la++l,lb',h1.app r,h2',λf hf=> ?_,h4'⟩
   rcases ke.mp hf with hf|hf
   ·exact h3 f hf
   ·exact h3' f (e▸qc _ hf)
  ·refine⟨z,la,lb'++l,h1,h2'.app r,h3,λf hf=> ?_⟩
   rcases ke.mp hf with hf|hf
   ·exact h4' f hf
   ·exact h4 f (e▸qc _ hf)
 ·intro x n y h
  rcases F.b _ _ _ (k _ h) with g|g
  ·exact⟨n,[(x,n,y)],[],.cons g (.nil _),.nil _,(λe he=>by rw [jg] at he;subst he;exact .inl h),λ_ h=>by cases h⟩
  ·exact⟨x,[],[(n,x,y)],.nil _,.cons g (.nil _),(λ_ h=>by cases h),λe he=>by rw [jg] at he;subst he;exact .inr h⟩
theorem Forest.within(F:Forest up es)(k:∀e∈p,e∈es)(q:Con p a b){L1 L2:List b4}(h1:Path up a L1 m)(h2:Path up b L2 m)(hn:∀e∈L2,∀l,¬Path up a l e.1):
  ∀e,e∈L1\/e∈L2->InE p e.1 e.2.1 e.2.2:=by
 obtain⟨z,la,lb,pa,pb,ea,eb⟩:=F.meet k q
 have q2:∃l,lb=L2++l/\Path up m l z:=by
  rcases pb.cmp h2 with⟨l,e,r⟩|⟨l,e,r⟩
  ·cases r with
   |nil=>exact⟨[],by rw [e,jk,jk],.nil _⟩
   |cons g r=>exact absurd pa (hn _ (by rw [e];exact qc _ (.head _)) _)
  ·exact⟨l,e,r⟩
 obtain⟨l,rfl,r⟩:=q2
 have q1:∃l',la=L1++l':=by
  rcases pa.cmp h1 with⟨l',e,r'⟩|⟨l',e,r'⟩
  ·have:=F.top.loop (r'.app r)
   obtain⟨rfl,rfl⟩:=List.append_eq_nil_iff.mp this
   exact⟨[],by rw [e,jk,jk]⟩
  ·exact⟨l',e⟩
 obtain⟨l',rfl⟩:=q1
 rintro e (h|h)
 ·exact ea e (ki _ h)
 ·exact eb e (ki _ h)
end
structure UpB(up:Up)(T:List Int):Prop where
 key:∀c n y,up c=some (n,y)->c∈T/\n∈T
section
variable{up:Up}{es p:List b4}{T:List Int}{a b c z m:Int}{l l1 l2:List b4}{k:Nat}
theorem Path.short(p:Path up a l b)(h:Topped up)(u:UpB up T):l.length<=T.length:=by
 have:=d5 (T:=T) (p.nodup h).1 λx hx=>by
  obtain⟨e,he,rfl⟩:=jf.mp hx
  exact(u.key e.1 e.2.1 e.2.2 (p.edge he)).1
 simpa using this
end
theorem M6{m:Int}{C A:List Int}(h:m∉A):(A++m::C).idxOf? m=some A.length:=by
 induction A with
 |nil=>rw [List.nil_append,yl,if_pos (beq_self_eq_true m)];rfl
 |cons x A ih=>
  rw [List.cons_append,yl,beq_false_of_ne λ(e:x=m)=>h (e▸List.mem_cons_self),ih λz=>h (.tail _ z)]
  rfl
end
section
variable{P:Prg}{n:Nat}{g:Aside}{K:Bks}{E:Eng}{t x top:Int}{md:Md}{l:List b4}{b:Tg->Option AObj}
noncomputable def edP(e:b4):PyData:= .tuple [.int e.1,.tuple [.int e.2.1,vo e.2.2]]
theorem nq{T:IC->KT->Prop}{B:IC->KB->Prop}{kp:IC->IC}{k:KB}{N:Nat}{c c':IC}(q:wh T B kp k N c')(h:kp c=kp c'):wh T B kp k N c:=by
 cases N with
 |zero=>exact q
 |succ N=>exact(cGx (λx=>T x λb c1=>br b (B c1 (th (wh T B kp k N) k)) (k .next c1)) h).mpr q
theorem turn_w{t0:Int}(p:Path E.up t l top)(h:E.up top=none):∀{acc:List AV},acc.length+l.length<=1000000->∀{k:KB},k .next ⟨[(0,.obj .house),(1,iv t0),(2,.obj (.tmp 0)),(3,iv top)],[(0,.list true (acc++(l.map edP).map .dat))],hp P g K E⟩->
  wh ((af P n (.cmp .isin (.var 3) (.att (.var 0) 7))).t (md,[])) ((af P n (.set 4 (.sub (.att (.var 0) 7) (.var 3)) (.ex (.lm (.var 2) .append (.cons (.tup (.cons (.var 3) (.cons (.var 4) (.nil)))) (.nil))) (.set 3 (.sub (.var 4) (.con (.int 0))) (.nil))))).b (md,[])) (IC.keep [0,1,2,3]) k (l.length+1) ⟨[(0,.obj .house),(1,iv t0),(2,.obj (.tmp 0)),(3,iv t)],[(0,.list true acc)],hp P g K E⟩:=by
 induction p with
 |nil t=>
  intro acc _ k hk
  refine ax (cGx (λo=>(Option.map C6 o).isSome) h) ?_
  exact(jk acc)▸hk
 | @cons t n' z y l e _ ih=>
  intro acc hl k hk
  have hl:acc.length+l.length+1<=1000000:=hl
  refine b8 (cGx (λo=>(Option.map C6 o).isSome) e) ?_
  refine a7 (a:=C6 (n',y)) (cGx (Option.map C6) e) ?_
  refine⟨ja (ji _ _) (qg hl),?_⟩
  exact nq (ih h (acc:=acc++[.dat (edP (t,n',y))]) (by rw [je];exact ja (jd (by rw [wo];rfl)) hl) ((jy acc [.dat (edP (t,n',y))] ((l.map edP).map .dat)).symm▸hk)) rfl
theorem dp{τ:Tg}{w:Bool}:fw τ (.list w []):=λ_ m=>(by nomatch m)
noncomputable def A4(l:List b4)(v:Up):Up:=l.foldl (λf e=>av f e.1) v
noncomputable def Ek(l:List b4)(v:Up):Up:=l.foldl (λf e=>a6 f e.2.1 (e.1,e.2.2)) v
theorem ci{B:IC->KB->Prop}{A:AV->IC->(IC->Prop)->Prop}{kp:IC->IC}{k:KB}{vs:List AV}{c c':IC}(q:lp B A kp k vs c')(h:kp c=kp c'):lp B A kp k vs c:=by
 cases vs with
 |nil=>exact(cGx (k .next) h).mpr q
 |cons v vs=>exact(cGx (λx=>A v x λc1=>B c1 (th (lp B A kp k vs) k)) h).mpr q
theorem turn_d{a b c:AV}:∀{E:Eng},(l.map (·.1)).Nodup->(∀e∈l,(E.up e.1).isSome=true)->∀{k:KB},k .next ⟨[(0,.obj .house),(1,a),(2,b),(3,c)],[],hp P g K {E with up:=A4 l E.up}⟩->
  lp ((af P n (.del (.att (.var 0) 7) (.var 5) (.nil))).b (md,[])) (mj false [5,4]) (IC.keep [0,1,2,3]) k ((l.map edP).map .dat) ⟨[(0,.obj .house),(1,a),(2,b),(3,c)],[],hp P g K E⟩:=by
 induction l with
 |nil=>exactλ_ _ k hk=>hk
 |cons e l ih=>
  intro E nd hs k hk
  have nd:=kj.mp nd
  refine⟨(cGx (kq) (rfl:(E.up e.1).map C6=_)).trans ((wu ..).trans (hs e (.head _))),a8 (e_up (v:=av E.up e.1) p8) ?_⟩
  exact ci (ih (E:={E with up:=av E.up e.1}) nd.2 (λf m=>(cGx kq (io (f:=E.up) λ(q:f.1=e.1)=>nd.1 (jf.mpr ⟨f,m,q⟩))).trans (hs f (.tail _ m))) hk) rfl
theorem turn_t{a b c:AV}(hr:∀e∈l,rng e.2.1=true):∀{E:Eng} {k:KB},k .next ⟨[(0,.obj .house),(1,a),(2,b),(3,c)],[],hp P g K {E with up:=Ek l E.up}⟩->
  lp ((af P n (.seti (.tup (.cons (.var 5) (.cons (.sub (.var 4) (.con (.int 1))) (.nil)))) (.att (.var 0) 7) (.sub (.var 4) (.con (.int 0))) (.nil))).b (md,[])) (mj false [5,4]) (IC.keep [0,1,2,3]) k ((l.map edP).map .dat) ⟨[(0,.obj .house),(1,a),(2,b),(3,c)],[],hp P g K E⟩:=by
 induction l with
 |nil=>exactλhk=>hk
 |cons e l ih=>
  intro E k hk
  refine⟨hr e (.head _),a8 (e_up (v:=a6 E.up e.2.1 (e.1,e.2.2)) (e9 (f:=E.up) (h:=C6) (x:=(e.1,e.2.2)))) ?_⟩
  exact ci (ih (λf m=>hr f (.tail _ m)) (E:={E with up:=a6 E.up e.2.1 (e.1,e.2.2)}) hk) rfl
theorem l23(hn:(l.map (·.1)).Nodup)(hs:∀e∈l,(E.up e.1).isSome=true)(hr:∀e∈l,rng e.2.1=true)(p:Path E.up t l top)(h:E.up top=none)(hl:l.length<=1000000):Me P (n+1) 23 .st [iv t] g K E (iv top) {E with up:=Ek l (A4 l E.up)}:=by
 refine enter c23 rt rt ?_
 refine⟨dp,?_⟩
 refine⟨l.length+1,turn_w (acc:=[]) p h (by rw [List.length_nil,qn];exact hl) ?_⟩
 refine⟨l.map edP,rfl,?_⟩
 refine turn_d hn hs ?_
 exact turn_t (E:={E with up:=A4 l E.up}) hr done
variable{d r:Int}{o:Str}{as:List Int}{dd:PyData}
theorem lay_aa:(lay (.str (S "app"))&&lay (.str (S "app")))=true:=by kernel_rfl
theorem lay_na:(lay (.str (S "num"))&&lay (.str (S "app")))=true:=by kernel_rfl
theorem eq_aa:Cc (.str (S "app")) (.str (S "app"))=true:=by kernel_rfl
theorem eq_na:Cc (.str (S "num")) (.str (S "app"))=false:=by kernel_rfl
variable{b:Tg->Option AObj}{cl:Option (List Int)}{lv:Int}
theorem b9a(T:Trm K t (S "app") as dd)(B:BkAt P K b)(H:b .house=some (.inst P.C (my cl lv))):FnI P (n+2) .all 9 [.obj .house,iv t] b (.dat (.tuple (zs as))) b:=by
 refine enter c9 rt rt ?_
 refine a7 (x:=b .house) H (a7 (x:=b .bank) B.i (b7 (b56 T B) rt (dw lay_aa (b8 eq_aa ?_))))
 exact a7 (x:=b .house) H (a7 (x:=b .bank) B.i (b7 (b57 T B) rt done))
theorem b9n(T:Trm K t (S "num") as dd)(B:BkAt P K b)(H:b .house=some (.inst P.C (my cl lv))):FnI P (n+2) .all 9 [.obj .house,iv t] b (.dat (.tuple [])) b:=by
 refine enter c9 rt rt ?_
 exact a7 (x:=b .house) H (a7 (x:=b .bank) B.i (b7 (b56 T B) rt (dw lay_na (ax eq_na done))))
theorem l12(T:Trm K t o [x] (.int d))(hr:E.root x=some r):Me P (n+2) 12 .all [iv t] g K E (.dat (.tuple [.int d,.int r])) E:=by
 refine enter c12 rt rt ?_
 refine b7 (l59 T) rt ?_
 refine b7 (l57 T) rt ?_
 refine⟨(by decide:1<=1000000),?_⟩
 refine a7 (a:=iv r) (cGx (Option.map iv) hr) ?_
 refine⟨(by decide:1<=1000000),?_⟩
 exact⟨⟨(λh=>(by nomatch h)),(λh=>(by nomatch h))⟩,(by decide:2<=1000),done⟩
variable{r' r'' o':Int}
theorem E6(h:rng t=true):t∈sx 500:=by
 have h:=a9 h
 obtain⟨k,rfl⟩:=Int.eq_ofNat_of_zero_le (oDx h.1)
 exact jf.mpr ⟨k,wd.mpr (qz.mp (oDx h.2)),rfl⟩
theorem tk_ok(h1:rng d=true)(h2:rng r=true):[KI.int d,KI.int r]∈TK:=ki _ (List.mem_flatMap.mpr ⟨d,E6 h1,jf.mpr ⟨r,E6 h2,rfl⟩⟩)
theorem map_snoc{α:Type}{f:α->PyData}{l:List α}{x:α}:(l.map f).map AV.dat++[.dat (f x)]=((l++[x]).map f).map .dat:=by rw [kh,kh];rfl
theorem fe(x:Ent){a:AV}(h:a= .dat (u7 x)):up (hp P g K E) .trail (.list true ((E.trail.map u7).map .dat++[a]))=hp P g K {E with trail:=E.trail++[x]}:=Hr (h▸map_snoc)
theorem u6(x:Int×Int×Why){a:AV}(h:a= .dat (qD x)):up (hp P g K E) .queue (.list true ((E.queue.map qD).map .dat++[a]))=hp P g K {E with queue:=E.queue++[x]}:=Hp (h▸map_snoc)
theorem l19y(T:Trm K t o [x] (.int d))(hr:E.root x=some r)(h:E.tab [d,r]=some t)(hl:E.trail.length<=1000000):Me P (n+3) 19 .st [iv t] g K E (.dat .none) {E with trail:=E.trail++[.table [d,r] (some t)],tab:=av E.tab [d,r]}:=by
 refine enter c19 rt rt ?_
 refine b7 (l12 T hr) rt ?_
 refine Dw (a:=iv t) (cGx (Option.map iv) h) ?_
 refine b8 (dTx rfl) ?_
 refine⟨ai (ac hl),?_⟩
 refine a8 (fe (.table [d,r] (some t)) rfl) ?_
 refine⟨cGx (λo=>(Option.map iv o).isSome) h,?_⟩
 exact a8 (Hq Iv) b9
theorem l19n(T:Trm K t o [x] (.int d))(hr:E.root x=some r)(h:E.tab [d,r]=some o')(hn:o'≠t):Me P (n+3) 19 .st [iv t] g K E (.dat .none) E:=by
 refine enter c19 rt rt ?_
 refine b7 (l12 T hr) rt ?_
 refine Dw (a:=iv o') (cGx (Option.map iv) h) ?_
 exact ax (dFx hn) b9
theorem l13a(T:Trm K t o [x] (.int d))(hr:E.root x=some r)(h:E.tab [d,r]=none)(h1:rng d=true)(h2:rng r=true)(hl:E.trail.length<=1000000):Me P (n+3) 13 .st [iv t] g K E (.dat .none) {E with trail:=E.trail++[.table [d,r] none],tab:=a6 E.tab [d,r] t}:=by
 refine enter c13 rt rt ?_
 refine b7 (l12 T hr) rt ?_
 refine Dx (cGx (Option.map iv) h) ?_
 refine⟨ai (ac hl),?_⟩
 refine a8 (fe (.table [d,r] none) rfl) ?_
 refine⟨tk_ok h1 h2,?_⟩
 exact a8 (Hq Iw) b9
theorem l13b(T:Trm K t o [x] (.int d))(hr:E.root x=some r)(h:E.tab [d,r]=some o')(h1:E.root o'=some r')(h2:E.root t=some r'')(hn:r'≠r'')(hl:E.queue.length<=1000000):Me P (n+3) 13 .st [iv t] g K E (.dat .none) {E with queue:=E.queue++[(t,o',.args)]}:=by
 refine enter c13 rt rt ?_
 refine b7 (l12 T hr) rt ?_
 refine Dw (a:=iv o') (cGx (Option.map iv) h) ?_
 refine a7 (a:=iv r') (cGx (Option.map iv) h1) ?_
 refine a7 (a:=iv r'') (cGx (Option.map iv) h2) ?_
 refine b8 (cGx (!·) (dFx hn)) ?_
 refine⟨ai (ac hl),?_⟩
 exact a8 (u6 (t,o',.args) rfl) b9
theorem l13c(T:Trm K t o [x] (.int d))(hr:E.root x=some r)(h:E.tab [d,r]=some o')(h1:E.root o'=some r')(h2:E.root t=some r'):Me P (n+3) 13 .st [iv t] g K E (.dat .none) E:=by
 refine enter c13 rt rt ?_
 refine b7 (l12 T hr) rt ?_
 refine Dw (a:=iv o') (cGx (Option.map iv) h) ?_
 refine a7 (a:=iv r') (cGx (Option.map iv) h1) ?_
 refine a7 (a:=iv r') (cGx (Option.map iv) h2) ?_
 exact ax (cGx (!·) (dTx rfl)) b9
theorem l22{left right:Int}{w:Why}{E':Eng}(h:Me P n 23 .st [iv left] g K E (iv top) E')(hr:rng left=true)(hl:E'.trail.length<=1000000):Me P (n+1) 22 .st [iv left,iv right,.dat (vo w)] g K E (.dat .none) {E' with up:=a6 E'.up left (right,w),trail:=E'.trail++[.edge left top]}:=by
 refine enter c22 rt rt ?_
 refine b7 h rt ?_
 refine⟨hr,?_⟩
 refine a8 (e_up (v:=a6 E'.up left (right,w)) (e9 (f:=E'.up) (h:=C6) (x:=(right,w)))) ?_
 refine⟨ai (ac hl),?_⟩
 exact a8 (fe (.edge left top) rfl) b9
end
section
variable{P:Prg}{n:Nat}{g:Aside}{K:Bks}{E:Eng}{t x a b h m top:Int}{o:Str}{l L2:List b4}{k:KB}{line:List Int}
noncomputable def sp(L:List Int):Int->Option AV:=λx=>(L.idxOf? x).map λ(i:Nat)=>iv (i:Int)
theorem sp_one:a6 (λ_=>none) a (iv 0)=sp [a]:=funext λx=>by
 unfold a6 sp
 rw [yl]
 by_cases e:x=a
 ·rw [if_pos e,e,beq_self_eq_true];rfl
 ·rw [if_neg e,beq_false_of_ne (Ne.symm e)];rfl
theorem idx_snoc{L:List Int}{y:Int}(q:y∉L):(L++[y]).idxOf? x=if x=y then some L.length else L.idxOf? x:=by
 induction L with
 |nil=>
  rw [List.nil_append,yl]
  by_cases e:x=y
  ·rw [if_pos e,e,beq_self_eq_true];rfl
  ·rw [if_neg e,beq_false_of_ne (Ne.symm e)];rfl
 |cons z L ih=>
  have q:=not_or.mp λw=>q (jh.mpr w)
  rw [List.cons_append,yl,ih q.2,yl]
  by_cases e:(z==x)=true
  ·rw [if_pos e,if_pos e,if_neg λw=>q.1 (w.symm.trans (eq_of_beq e).symm)]
  ·rw [if_neg e,if_neg e]
   by_cases w:x=y
   ·rw [if_pos w,if_pos w];rfl
   ·rw [if_neg w,if_neg w]
theorem sp_snoc{L:List Int}{y:Int}(q:y∉L){v:AV}(hv:v=iv L.length):a6 (sp L) y v=sp (L++[y]):=funext λx=>by
 unfold a6 sp
 rw [idx_snoc q,hv]
 split<;>rfl
theorem sp_in{L:List Int}:(sp L x).isSome=decide (x∈L):=by
 unfold sp
 rw [wu]
 exact Bool.eq_iff_iff.mpr (List.isSome_idxOf?.trans (decide_eq_true_iff).symm)
theorem ei{L:List Int}{k:Nat}(h:L.length<=k):((zs L).map AV.dat).length<=k:=ai (ac h)
theorem i8{L:List Int}:((zs L).map AV.dat).length=L.length:=(jb _).trans (jb _)
theorem betw1(p:Path E.up h l top)(ht:E.up top=none)(hr:∀e∈l,rng e.2.1=true):∀{L:List Int},(L++l.map (·.2.1)).Nodup->L.length+l.length<=1000000->∀{k:KB},
  k .next ⟨[(0,.obj .house),(1,iv a),(2,iv b),(3,.obj (.tmp 0)),(4,.obj (.tmp 1)),(5,iv top)],[(0,.list true ((zs (L++l.map (·.2.1))).map .dat)),(1,.dictI true (sp (L++l.map (·.2.1))))],hp P g K E⟩->
  wh ((af P n (.cmp .isin (.var 5) (.att (.var 0) 7))).t (.all,[])) ((af P n (.set 5 (.sub (.sub (.att (.var 0) 7) (.var 5)) (.con (.int 0))) (.seti (.blt .len (.cons (.var 3) (.nil))) (.var 4) (.var 5) (.ex (.lm (.var 3) .append (.cons (.var 5) (.nil))) (.nil))))).b (.all,[])) (IC.keep [0,1,2,3,4,5]) k (l.length+1) ⟨[(0,.obj .house),(1,iv a),(2,iv b),(3,.obj (.tmp 0)),(4,.obj (.tmp 1)),(5,iv h)],[(0,.list true ((zs L).map .dat)),(1,.dictI true (sp L))],hp P g K E⟩:=by
 induction p with
 |nil t=>
  intro L _ _ k hk
  refine ax (cGx (λo=>(Option.map C6 o).isSome) ht) ?_
  exact(jk L)▸hk
 | @cons t n' z y l e _ ih=>
  intro L hn hl k hk
  have hl:L.length+l.length+1<=1000000:=hl
  have hL:L.length<=1000000:=ja (ji _ _) (qg hl)
  have nn:n'∉L:=λm=>(List.nodup_append.mp hn).2.2 n' m n' (.head _) rfl
  refine b8 (cGx (λo=>(Option.map C6 o).isSome) e) ?_
  refine a7 (a:=C6 (n',y)) (cGx (Option.map C6) e) ?_
  refine⟨ei hL,?_⟩
  refine⟨hr _ (.head _),?_⟩
  refine⟨ei hL,?_⟩
  have s1:a6 (sp L) n' (.dat (.int (((zs L).map AV.dat).length:Int)))=sp (L++[n']):=sp_snoc nn (by rw [i8];rfl)
  have s2:(zs L).map AV.dat++[iv n']=(zs (L++[n'])).map AV.dat:=zs_snoc
  have s3:L++(n'::l.map (·.2.1))=(L++[n'])++l.map (·.2.1):=by rw [jy];rfl
  refine nq (ih ht (λf m=>hr f (.tail _ m)) (L:=L++[n']) (s3▸hn) (by rw [je];exact ja (jd (by rw [wo];rfl)) hl) (s3▸hk)) ?_
  rw [<-s1,<-s2]
  rfl
theorem betw2(p:Path E.up h L2 m)(hm:m∈line)(hn:∀e∈L2,e.1∉line){o3:AObj}:∀{B:List Int},B.length+L2.length<=1000000->∀{k:KB},
  k .next ⟨[(0,.obj .house),(1,iv a),(2,iv b),(3,.obj (.tmp 0)),(4,.obj (.tmp 1)),(5,iv m),(6,.obj (.tmp 2))],[(0,o3),(1,.dictI true (sp line)),(2,.list true ((zs (B++L2.map (·.1))).map .dat))],hp P g K E⟩->
  wh ((af P n (.cmp .notin (.var 5) (.var 4))).t (.all,[])) ((af P n (.ex (.lm (.var 6) .append (.cons (.var 5) (.nil))) (.set 5 (.sub (.sub (.att (.var 0) 7) (.var 5)) (.con (.int 0))) (.nil)))).b (.all,[])) (IC.keep [0,1,2,3,4,5,6]) k (L2.length+1) ⟨[(0,.obj .house),(1,iv a),(2,iv b),(3,.obj (.tmp 0)),(4,.obj (.tmp 1)),(5,iv h),(6,.obj (.tmp 2))],[(0,o3),(1,.dictI true (sp line)),(2,.list true ((zs B).map .dat))],hp P g K E⟩:=by
 induction p with
 |nil t=>
  intro B _ k hk
  refine ax (cGx (!·) (sp_in.trans (dTx hm))) ?_
  exact(jk B)▸hk
 | @cons t n' z y l e _ ih=>
  intro B hl k hk
  have hl:B.length+l.length+1<=1000000:=hl
  refine b8 (cGx (!·) (sp_in.trans (dFx (hn _ (.head _))))) ?_
  refine⟨ei (ja (ji _ _) (qg hl)),?_⟩
  refine a7 (a:=C6 (n',y)) (cGx (Option.map C6) e) ?_
  have s2:(zs B).map AV.dat++[iv t]=(zs (B++[t])).map AV.dat:=zs_snoc
  have s3:B++(t::l.map (·.1))=(B++[t])++l.map (·.1):=by rw [jy];rfl
  refine nq (ih hm (λf m=>hn f (.tail _ m)) (B:=B++[t]) (by rw [je];exact ja (jd (by rw [wo];rfl)) hl) (s3▸hk)) ?_
  rw [<-s2]
  rfl
theorem slOf_take{α:Type}{j:Nat}{vs:List α}:fq none (some (j:Int)) none vs=some (vs.take j):=by unfold fq;rw [if_pos ⟨rfl,rfl⟩];rw [Option.bind_some,if_pos (wz j)];rfl
theorem l24{j:Nat}(p:Path E.up a l top)(ht:E.up top=none)(q:Path E.up b L2 m)(hr:∀e∈l,rng e.2.1=true)(ha:rng a=true)(hn:(a::l.map (·.2.1)).Nodup)(hj:(a::l.map (·.2.1)).idxOf? m=some j)(hm:∀e∈L2,e.1∉a::l.map (·.2.1))(h1:l.length<=1000)(h2:L2.length<=1000):
  Me P (n+1) 24 .all [iv a,iv b] g K E (.dat (.list (zs ((a::l.map (·.2.1)).take j++L2.map (·.1))))) E:=by
 refine enter c24 rt rt ?_
 refine⟨λy z=>(jg.mp z)▸trivial,?_⟩
 refine⟨(jp _ _).mpr ⟨ha,rfl⟩,?_⟩
 refine⟨dq (λ_ _ e=>(by nomatch e)) trivial,?_⟩
 refine⟨l.length+1,?_⟩
 refine nq (betw1 (L:=[a]) p ht hr hn (ja (jv h1 1) (by decide)) ?_) (cGx (λf=>(⟨_,[(0,_),(1,AObj.dictI true f)],_⟩:IC)) sp_one)
 refine⟨dp,?_⟩
 refine⟨L2.length+1,betw2 (B:=[]) q (List.isSome_idxOf?.mp (hj▸rfl)) hm (ja (jv h2 0) (by decide)) ?_⟩
 have hl:(a::l.map (·.2.1)).length<=1001:=jm (ac h1)
 refine a7 (a:=iv j) (cGx (Option.map λ(i:Nat)=>iv (i:Int)) hj) ?_
 refine⟨zs (a::l.map (·.2.1)),rfl,?_⟩
 refine a7 (a:=zs ((a::l.map (·.2.1)).take j)) (slOf_take.trans (cGx some (xj ..).symm)) ?_
 refine⟨ac (ja hl (by decide)),?_⟩
 refine⟨zs (L2.map (·.1)),rfl,?_⟩
 refine⟨?_,A5 (cGx (λl=>AV.dat (.list l)) (kh ..).symm)⟩
 rw [je]
 exact ja (xc (ac (ja (List.length_take_le' ..) hl)) (ac (ac h2))) (by decide)
variable{r o':Int}{u:Mo}{rs:List Int}
theorem nj{f:Int->Option (List Int)}{q:Int->Option AObj}{l:List Int}(h:f t=some l):dy f q t=some (.list true ((zs l).map .dat)):=by unfold dy;rw [h];rfl
theorem em(g:Aside){l:List Int}(h:E.mem t=some l):dy E.mem (g.ls .mem) t=some (.list true ((zs l).map .dat)):=nj h
theorem ga(g:Aside){l:List Int}(h:E.use t=some l):dy E.use (g.ls .use) t=some (.list true ((zs l).map .dat)):=nj h
theorem f9(g:Aside)(h:E.root t=some r):dy (λt=>(E.root t).map λ_=>[]) (g.ls .apt) t=some (.list true []):=nj (f:=λt=>(E.root t).map λ_=>[]) (l:=[]) (cGx (Option.map _) h)
theorem ib(g:Aside)(h:E.root t=some r):dy (λt=>(E.root t).map λ_=>[]) (g.ls .wat) t=some (.list true []):=nj (f:=λt=>(E.root t).map λ_=>[]) (l:=[]) (cGx (Option.map _) h)
theorem put_n{τ:Tg}{o:AObj}{ρ:List (Nat×AV)}{tt:List (Nat×AObj)}{b:Tg->Option AObj}{k:IC->Prop}(q:τ.ti=none):put ⟨ρ,tt,b⟩ τ o k=∃b',up b τ o=b'/\k ⟨ρ,tt,b'⟩:=by unfold put;rw [q]
theorem l2:Me P (n+1) 2 .all [iv t] g K E (.dat (.bool (E.root t).isSome)) E:=by
 refine enter c2 rt rt ?_
 exact A5 (cGx (λb=>AV.dat (.bool b)) (wu ..))
theorem l6(h:E.root t=some r)(hv:E.val r=some x):Me P (n+1) 6 .all [iv t] g K E (iv x) E:=by
 refine enter c6 rt rt ?_
 refine a7 (a:=iv r) (cGx (Option.map iv) h) ?_
 exact a7 (a:=iv x) (cGx (Option.map iv) hv) done
theorem l8(hl:∀l,E.clash=some l->l.length<=1000000):Me P (n+1) 8 .all [] g K E (.dat (clD E.clash)) E:=by
 refine enter c8 rt rt ?_
 cases h:E.clash with
 |none=>
  refine(cGx (λz=>(af P n m8).b (.all,[]) ⟨ar 0 [.obj .house],[],z⟩ (A7 (.dat (clD none)) z)) (?_:hp P g K E=hp P g K {E with clash:=none})).mpr ?_
  ·exact cGx (hp P g K) (by cases E;cases h;rfl)
  ·exact done
 |some l=>
  refine(cGx (λz=>(af P n m8).b (.all,[]) ⟨ar 0 [.obj .house],[],z⟩ (A7 (.dat (clD (some l))) z)) (?_:hp P g K E=hp P g K {E with clash:=some l})).mpr ?_
  ·exact cGx (hp P g K) (by cases E;cases h;rfl)
  ·exact⟨ac (hl l h),done⟩
theorem l17(hm:E.marks.length<=1000000):Me P (n+1) 17 .st [.dat (.list (zs rs))] g K E (.dat .none) {E with clash:=some rs,clv:=E.marks.length}:=by
 refine enter c17 rt rt ?_
 refine a8 (nw (c:=some rs) (v:=E.clv) rfl) ?_
 refine⟨ei hm,?_⟩
 exact a8 (nw (E:={E with clash:=some rs}) (c:=some rs) (v:=E.marks.length) (cGx (λi=>my (some rs) (Nat.cast i)) i8)) b9
theorem l18{lm lu:List Int}(h:E.root t=some r)(hm:E.mem t=some lm)(hu:E.use t=some lu)(h1:lm.length<=1000000)(h2:lu.length<=1000000):Me P (n+1) 18 .all [iv t] g K E (.dat (.tuple [.int lm.length,.int lu.length,.int 0,.int 0])) E:=by
 refine enter c18 rt rt ?_
 refine a7 (a:= .obj (.ls .mem t)) (cGx (Option.map _) hm) ?_
 refine a7 (a:= .list true ((zs lm).map .dat)) (by exact em g hm) ?_
 refine⟨ei h1,?_⟩
 refine a7 (a:= .obj (.ls .use t)) (cGx (Option.map _) hu) ?_
 refine a7 (a:= .list true ((zs lu).map .dat)) (by exact ga g hu) ?_
 refine⟨ei h2,?_⟩
 refine a7 (a:= .obj (.ls .apt t)) (cGx (Option.map _) h) ?_
 refine a7 (a:= .list true []) (by exact f9 g h) ?_
 refine⟨(by decide:0<=1000000),?_⟩
 refine a7 (a:= .obj (.ls .wat t)) (cGx (Option.map _) h) ?_
 refine a7 (a:= .list true []) (by exact ib g h) ?_
 refine⟨(by decide:0<=1000000),?_⟩
 exact A5 (by rw [i8,i8];rfl)
theorem og{τ:Tg}{o o':AObj}{ρ:List (Nat×AV)}{tt:List (Nat×AObj)}{b:Tg->Option AObj}{K:Mo->IC->(IC->(IC->Prop)->Prop)->Prop}(e:(g7 tt b) τ=some o)(z:Fz o o')(q:τ.ti=none)(k:K (u.1,τ::u.2) ⟨ρ,tt,up b τ o'⟩ λc2 k=>c2.σ τ=some o'/\put c2 τ o k):frz u ⟨ρ,tt,b⟩ K:=
 ⟨τ,o,o',e,z,(put_n q).mpr ⟨_,rfl,k⟩⟩
theorem l9{τ:Tg}{o o':AObj}{ρ:List (Nat×AV)}{tt:List (Nat×AObj)}{b:Tg->Option AObj}{k:IC->Prop}(q:τ.ti=none)(e:b τ=some o)(h:k ⟨ρ,tt,b⟩):(⟨ρ,tt,up b τ o'⟩:IC).σ τ=some o'/\put ⟨ρ,tt,up b τ o'⟩ τ o k:=
 ⟨(d3 q).trans ba,(put_n q).mpr ⟨b,b5 (λt n=>bc n) e,h⟩⟩
theorem G9{U:Tg->Prop}:∀v∈([]:List AV),v.keeps U:=λ_ m=>(by nomatch m)
theorem Fk:Fz (.list true []) (.list false []):=fy
theorem l20(h:E.root t=some r):Me P (n+1) 20 .st [iv t] g K E (.dat .none) E:=by
 refine enter c20 rt rt ?_
 refine og (b:=hp P g K E) (τ:= .ls .apt t) (by exact f9 g h) Fk rfl ?_
 refine a7 (a:= .obj (.ls .apt t)) (cGx (Option.map _) h) ?_
 refine a7 (a:= .list false []) (by exact ba) ?_
 refine⟨G9,?_⟩
 exact l9 (b:=hp P g K E) (τ:= .ls .apt t) rfl (by exact f9 g h) done
theorem l33(h:E.root t=some r):Me P (n+1) 33 .st [iv t] g K E (.dat .none) E:=by
 refine enter c33 rt rt ?_
 refine og (b:=hp P g K E) (τ:= .ls .wat t) (by exact ib g h) Fk rfl ?_
 refine a7 (a:= .obj (.ls .wat t)) (cGx (Option.map _) h) ?_
 refine a7 (a:= .list false []) (by exact ba) ?_
 refine⟨G9,?_⟩
 exact l9 (b:=hp P g K E) (τ:= .ls .wat t) rfl (by exact ib g h) b9
theorem l27(h:E.root a=some r):Me P (n+1) 27 .st [iv a,iv b] g K E (.dat .none) E:=by
 refine enter c27 rt rt ?_
 refine og (b:=hp P g K E) (τ:= .ls .apt a) (by exact f9 g h) Fk rfl ?_
 refine a7 (a:= .obj (.ls .apt a)) (cGx (Option.map _) h) ?_
 refine a7 (a:= .list false []) (by exact ba) ?_
 refine⟨G9,?_⟩
 exact l9 (b:=hp P g K E) (τ:= .ls .apt a) rfl (by exact f9 g h) done
theorem l37(h1:E.marks.length<=1000000)(h2:E.trail.length<=1000000):Me P (n+1) 37 .st [] g K E (.dat .none) {E with marks:=E.marks++[(E.trail.length:Int)]}:=by
 refine enter c37 rt rt ?_
 refine⟨ai (ac h2),?_⟩
 refine⟨ei h1,?_⟩
 exact a8 (Ho (l:=E.marks++[(E.trail.length:Int)]) (by rw [<-zs_snoc];exact cGx (λi=>(zs E.marks).map AV.dat++[iv (Nat.cast i)]) ((jb _).trans (jb _)))) b9
theorem l21:Me P (n+1) 21 .all [.dat (.list (zs rs)),iv 0] g K E (.dat (.list (zs rs))) E:=by
 refine enter c21 rt rt ?_
 exact done
variable{d r' ra rb va vb:Int}{more:List Int}
theorem gn{i j:Int}(h:i=j):Cc (.int i) (.int j)=true:=dTx h
theorem de{i j:Int}(h:i≠j):Cc (.int i) (.int j)=false:=dFx h
theorem lz{i j:Int}(h:i=j):(!Cc (.int i) (.int j))=false:=cGx (!·) (gn h)
theorem oj{i j:Int}(h:i≠j):(!Cc (.int i) (.int j))=true:=cGx (!·) (de h)
theorem ch{f:Int->Option Int}(h:f t=some r):(f t).map iv=some (iv r):=cGx (Option.map iv) h
theorem l5a(ha:E.root a=some r)(hb:E.root b=some r):Me P (n+2) 5 .st [iv a,iv b] g K E (.dat .none) E:=by
 refine enter c5 rt rt ?_
 refine a7 (ch ha) (a7 (ch hb) ?_)
 exact b8 (gn rfl) done
theorem l5b(ha:E.root a=some ra)(hb:E.root b=some rb)(hn:ra≠rb)(h1:E.val ra=some va)(h2:E.val rb=some vb)(n1:va≠0)(n2:vb≠0):Me P (n+2) 5 .st [iv a,iv b] g K E (.dat (.tuple [.int va,.int vb,.int 0])) E:=by
 refine enter c5 rt rt ?_
 refine a7 (ch ha) (a7 (ch hb) ?_)
 refine ax (de hn) ?_
 refine a7 (ch h1) (b8 (oj n1) ?_)
 refine a7 (ch h2) (b8 (oj n2) ?_)
 exact a7 (ch h1) (a7 (ch h2) done)
theorem l5c(ka:E.root ra=some r')(ha:E.root a=some ra)(hb:E.root b=some rb)(hn:ra≠rb)(h1:E.val ra=some va)(h2:E.val rb=some vb)(hz:va=0\/vb=0):Me P (n+2) 5 .st [iv a,iv b] g K E (.dat .none) E:=by
 refine enter c5 rt rt ?_
 refine a7 (ch ha) (a7 (ch hb) ?_)
 refine ax (de hn) (a7 (ch h1) ?_)
 by_cases e:va=0
 ·exact ax (lz e) (b7 (l27 ka) rt done)
 ·exact b8 (oj e) (a7 (ch h2) (ax (lz (hz.resolve_left e)) (b7 (l27 ka) rt done)))
theorem l4f(h:Me P n 5 .st [iv a,iv b] g K E (.dat .none) E):Me P (n+1) 4 .st [iv a,iv b] g K E (.dat (.bool false)) E:=by
 refine enter c4 rt rt ?_
 exact b7 h rt done
theorem l4t{c:List PyData}(h:Me P n 5 .st [iv a,iv b] g K E (.dat (.tuple c)) E):Me P (n+1) 4 .st [iv a,iv b] g K E (.dat (.bool true)) E:=by
 refine enter c4 rt rt ?_
 exact b7 h rt done
noncomputable def ox(rs more:List Int):List Int:=sortI (rs++more.filter λx=> !decide (x∈rs))
theorem tv:F8 (zs rs) (.int x)=decide (x∈rs):=by
 unfold F8 zs
 rw [List.any_map]
 induction rs with
 |nil=>rfl
 |cons y l ih=>
  rw [xe,ih]
  show(PyData.eqv (.int y) (.int x)||decide (x∈l))=_
  rw [show PyData.eqv (.int y) (.int x)=decide (y=x) by unfold PyData.eqv;rfl,Bool.eq_iff_iff,qi,decide_eq_true_iff,decide_eq_true_iff,decide_eq_true_iff,jh]
  exact or_congr_left eq_comm
theorem mw{α:Type}{l:List α}{h:α->AV}{T:IC->KT->Prop}{Ee:IC->KE->Prop}{ρ:List (Nat×AV)}{y:Nat}{tt:List (Nat×AObj)}{b:Tg->Option AObj}(f:α->Bool)(e:α->PyData)
  (ht:∀x∈l,∀K:KT,K (f x) ⟨aq ρ y (h x),tt,b⟩->T ⟨aq ρ y (h x),tt,b⟩ K) (he:∀x∈l,∀K:KE,K (.dat (e x)) ⟨aq ρ y (h x),tt,b⟩->Ee ⟨aq ρ y (h x),tt,b⟩ K):∀{ρ0:List (Nat×AV)} {K:KL},(∀ρ',K (((l.filter f).map e).map .dat) ⟨ρ',tt,b⟩)->Fe T Ee ρ y (l.map h) ⟨ρ0,tt,b⟩ K:=by
 induction l with
 |nil=>exactλk=>k _
 |cons x l ih=>
  intro ρ0 K k
  have ih:= @ih (λx m=>ht x (.tail _ m)) (λx m=>he x (.tail _ m))
  refine ht x (.head _) _ ?_
  cases q:f x with
  |true=>exact he x (.head _) _ (show Fe T Ee ρ y (l.map h) _ (λws=>K (.dat (e x)::ws)) from ih λρ'=>by have:=k ρ';rw [xq q] at this;exact this)
  |false=>exact show Fe T Ee ρ y (l.map h) _ K from ih λρ'=>by have:=k ρ';rw [xo (by rw [q];exact jx)] at this;exact this
theorem ig{ds:List PyData}{Q:List PyData->Prop}(h:Q ds):Cn (ds.map .dat) Q:=by
 induction ds generalizing Q with
 |nil=>exact h
 |cons d ds ih=>exact ih (Q:=λds=>Q (d::ds)) h
theorem d8:(zs rs).map AV.dat=rs.map iv:=jt ..
theorem cp:lay (.list (zs rs))=true:=by
 have h1:PyData.canLayAll0 (zs rs)=true:=by
  unfold zs
  induction rs with
  |nil=>rfl
  |cons x l ih=>exact(jp _ _).mpr ⟨rfl,ih⟩
 have h2:PyData.depthAll (zs rs)<=0:=by
  clear h1
  unfold zs
  induction rs with
  |nil=>exact jc _
  |cons x l ih=>exact Nat.max_le.mpr ⟨jc _,ih⟩
 exact(jp _ _).mpr ⟨h1,dTx (ja (jm h2) (by decide))⟩
theorem l30(h1:rs.length<=30)(h2:more.length<=30):Me P (n+1) 30 .all [.dat (.list (zs rs)),.dat (.list (zs more))] g K E (.dat (.list (zs (ox rs more)))) E:=by
 refine enter c30 rt rt ?_
 refine⟨ei (ja h2 (by decide)),?_⟩
 rw [d8]
 refine mw (λx=> !decide (x∈rs)) PyData.int (λx m K k=> ?_) (λx m K k=>k) λρ'=>ig ?_
 ·exact dw ((jp _ _).mpr ⟨cp,rfl⟩) (tv▸k)
 ·have hl:(rs++more.filter λx=> !decide (x∈rs)).length<=60:=by rw [je];exact xc h1 (ja (wm ..) h2)
  have e:zs rs++(more.filter λx=> !decide (x∈rs)).map PyData.int=zs (rs++more.filter λx=> !decide (x∈rs)):=(kh ..).symm
  exact⟨e▸ac (ja hl (by decide)),rs++more.filter λx=> !decide (x∈rs),e,jq hl (by decide),done⟩
theorem l29{ds:List PyData}{x1 x2:List Int}(e1:Me P (n+1) 25 .all [iv a,iv va] g K E (.dat (.list (zs x1))) E)(e2:Me P (n+1) 25 .all [iv b,iv vb] g K E (.dat (.list (zs x2))) E)(h1:x1.length<=30)(h2:x2.length<=30):Me P (n+2) 29 .all [iv a,iv b,.dat (.tuple [.int va,.int vb,.int 0])] g K E (.dat (.list (zs (ox x1 x2)))) E:=by
 refine enter c29 rt rt ?_
 exact b7 e1 rt (b7 e2 rt (b7 (l30 h1 h2) rt (b7 l21 rt done)))
theorem l28{c:List PyData}{x1:List Int}(h:Me P n 5 .st [iv a,iv b] g K E (.dat (.tuple c)) E)(h2:Me P n 29 .all [iv a,iv b,.dat (.tuple c)] g K E (.dat (.list (zs x1))) E):Me P (n+1) 28 .st [iv a,iv b] g K E (.dat (.list (zs x1))) E:=by
 refine enter c28 rt rt ?_
 exact b7 h rt (b7 h2 rt done)
variable{c p q y6 y7:Int}{o2:Str}{dd d2:PyData}{wk:List (Int×Int)}{sn fo:List Int}{w:Why}
noncomputable def tru:AV:= .dat (.bool true)
noncomputable def snF(S:List Int):Int->Option AV:=λx=>if x∈S then some tru else none
noncomputable def foL(S:List Int):List (Int×AV):=S.map λm=>(m,tru)
noncomputable def prD(w:Int×Int):PyData:= .tuple [.int w.1,.int w.2]
theorem Gi:a6 (snF sn) c tru=snF (sn++[c]):=funext λx=>by
 unfold a6 snF
 by_cases e:x=c
 ·rw [if_pos e,if_pos (e▸qc _ (.head _))]
 ·rw [if_neg e]
  by_cases q:x∈sn
  ·rw [if_pos q,if_pos (ki _ q)]
  ·rw [if_neg q,if_neg λm=>(ke.mp m).elim q λm=>e (jg.mp m)]
theorem sn_in:(snF sn c).isSome=decide (c∈sn):=by
 unfold snF
 by_cases q:c∈sn
 ·rw [if_pos q,dTx q];rfl
 ·rw [if_neg q,dFx q];rfl
noncomputable def adF(fo:List Int)(m:Int):List Int:=if m∈fo then fo else fo++[m]
theorem fo_set:lset (foL fo) c tru=foL (adF fo c):=by
 unfold lset foL adF
 by_cases q:c∈fo
 ·rw [if_pos (xt.mpr ⟨(c,tru),jf.mpr ⟨c,q,rfl⟩,dTx rfl⟩),if_pos q,jt]
  exact xg λx _=>by
   show(if(x,tru).1=c then _ else _)=_
   split
   ·rfl
   ·rfl
 ·rw [if_neg λh=>q (by
   obtain⟨y,m,e⟩:=xt.mp h
   obtain⟨z,mz,rfl⟩:=jf.mp m
   exact(oDx e:z=c)▸mz),if_neg q,kh]
  rfl
noncomputable def Hv(wk:List (Int×Int))(sn fo:List Int):List (Nat×AObj):=[(0,.list true ((wk.map prD).map .dat)),(1,.dictI true (snF sn)),(2,.dictL true (foL fo))]
noncomputable def exR(a b y6 y7:Int):List (Nat×AV):=[(0,.obj .house),(1,iv a),(2,iv b),(3,.obj (.tmp 0)),(4,.obj (.tmp 1)),(5,.obj (.tmp 2)),(6,iv y6),(7,iv y7)]
noncomputable def Mi:M:= .ifs (.cmp .notin (.var 8) (.var 4)) (.seti (.con (.bool true)) (.var 4) (.var 8) (.sett [9,10] (.sub (.att (.var 0) 7) (.var 8)) (.ifs (.cmp .eq (.var 10) (.glo 1)) (.ex (.lm (.var 3) .extend (.cons (.zip (.met (.att (.var 0) 0) 57 (.cons (.var 8) (.nil))) (.met (.att (.var 0) 0) 57 (.cons (.var 9) (.nil)))) (.nil))) (.nil)) (.ifs (.cmp .ne (.var 10) (.con (.int 0))) (.seti (.con (.bool true)) (.var 5) (.var 10) (.nil)) (.nil) (.nil)) (.nil)))) (.nil) (.nil)
theorem ex1(h:c∈sn)(hk:∀ρ',IC.keep [0,1,2,3,4,5,6,7] ⟨ρ',Hv wk sn fo,hp P g K E⟩=⟨exR a b y6 y7,Hv wk sn fo,hp P g K E⟩->k .next ⟨ρ',Hv wk sn fo,hp P g K E⟩):(af P n Mi).b (.all,[]) ⟨exR a b y6 y7++[(8,iv c)],Hv wk sn fo,hp P g K E⟩ k:=by
 refine ax (cGx (!·) (sn_in.trans (dTx h))) ?_
 exact hk _ rfl
theorem lay_ia:(lay (.int x)&&lay (.str (S "arguments")))=true:=by
 have h:lay (.str (S "arguments"))=true:=by kernel_rfl
 exact(jp _ _).mpr ⟨rfl,h⟩
theorem eqb_ia:Cc (.int x) (.str (S "arguments"))=false:=by
 show PyData.eqv (.int x) (.str (S "arguments"))=false
 unfold PyData.eqv;rfl
theorem lay_ss:(lay (.str (S "arguments"))&&lay (.str (S "arguments")))=true:=by kernel_rfl
theorem eqb_ss:Cc (.str (S "arguments")) (.str (S "arguments"))=true:=by kernel_rfl
theorem ex2(h:c∉sn)(hr:rng c=true)(hu:E.up c=some (d,.mk r))(hl:fo.length<=1000)
  (hk:∀ρ',IC.keep [0,1,2,3,4,5,6,7] ⟨ρ',Hv wk (sn++[c]) (if r=0 then fo else adF fo r),hp P g K E⟩=⟨exR a b y6 y7,Hv wk (sn++[c]) (if r=0 then fo else adF fo r),hp P g K E⟩->k .next ⟨ρ',Hv wk (sn++[c]) (if r=0 then fo else adF fo r),hp P g K E⟩):(af P n Mi).b (.all,[]) ⟨exR a b y6 y7++[(8,iv c)],Hv wk sn fo,hp P g K E⟩ k:=by
 refine b8 (cGx (!·) (sn_in.trans (dFx h))) ?_
 refine⟨hr,?_⟩
 refine a7 (a:=C6 (d,.mk r)) (cGx (Option.map C6) hu) ?_
 refine dw lay_ia (ax eqb_ia ?_)
 by_cases e:r=0
 ·refine ax (lz e) ?_
  rw [if_pos e] at hk
  exact(cGx (λf=>k .next ⟨_,[(0,_),(1,AObj.dictI true f),(2,_)],_⟩) Gi).mpr (hk _ rfl)
 ·refine b8 (oj e) ?_
  rw [if_neg e] at hk
  refine⟨ja (jd (jb _)) (ja hl (by decide)),?_⟩
  exact(congr (cGx (λf z=>k .next ⟨_,[(0,_),(1,AObj.dictI true f),(2,AObj.dictL true z)],_⟩) Gi) fo_set).mpr (hk _ rfl)
theorem ex3(h:c∉sn)(hr:rng c=true)(hu:E.up c=some (d,.args))(T:Trm K c o [p] dd)(T2:Trm K d o2 [q] d2)(hl:wk.length<=10000)
  (hk:∀ρ',IC.keep [0,1,2,3,4,5,6,7] ⟨ρ',Hv (wk++[(p,q)]) (sn++[c]) fo,hp P g K E⟩=⟨exR a b y6 y7,Hv (wk++[(p,q)]) (sn++[c]) fo,hp P g K E⟩->k .next ⟨ρ',Hv (wk++[(p,q)]) (sn++[c]) fo,hp P g K E⟩):(af P (n+1) Mi).b (.all,[]) ⟨exR a b y6 y7++[(8,iv c)],Hv wk sn fo,hp P g K E⟩ k:=by
 refine b8 (cGx (!·) (sn_in.trans (dFx h))) ?_
 refine⟨hr,?_⟩
 refine a7 (a:=C6 (d,.args)) (cGx (Option.map C6) hu) ?_
 refine dw lay_ss (b8 eqb_ss ?_)
 refine b7 (l57 T) rt (b7 (l57 T2) rt ?_)
 refine⟨Nat.succ_le_of_lt (jq (ai (ac hl)) (by decide)),?_⟩
 have z:(wk.map prD).map AV.dat++[.dat (prD (p,q))]=((wk++[(p,q)]).map prD).map .dat:=map_snoc
 exact(congr (cGx (λf z=>k .next ⟨_,[(0,AObj.list true z),(1,AObj.dictI true f),(2,_)],_⟩) Gi) z).mpr (hk _ rfl)
end
section
noncomputable def bl(up:Up)(l:List b4):Up:=λz=>match l.find? (λe=>e.2.1==z) with
 |some e=>some (e.1,e.2.2)
 |none=>if z∈l.map (·.1) then none else up z
noncomputable def rl(l:List b4):List b4:=(l.map λe=>(e.2.1,e.1,e.2.2)).reverse
section
variable{up up':Up}{es p:List b4}{T:List Int}{a b c z t top:Int}{l l1:List b4}{k:Nat}
theorem dm{l:List b4}(h:z∉l.map (·.2.1)):l.find? (λe=>e.2.1==z)=none:=by
 rw [List.find?_eq_none]
 intro e he g
 exact h (jf.mpr ⟨e,he,by simpa using g⟩)
theorem A8{l:List b4}{e:b4}(h:(l.map (·.2.1)).Nodup)(he:e∈l):l.find? (λf=>f.2.1==e.2.1)=some e:=by
 induction l with
 |nil=>exact(List.not_mem_nil he).elim
 |cons x l ih=>
  have h:=kj.mp h
  rw [xd]
  rcases jh.mp he with rfl|he
  ·rw [beq_self_eq_true]
  ·rw [beq_false_of_ne λ(g:x.2.1=e.2.1)=>h.1 (jf.mpr ⟨e,he,g.symm⟩)]
   exact ih h.2 he
theorem dl_ok{z:Int}:A4 l up z=if z∈l.map (·.1) then none else up z:=by
 induction l generalizing up with
 |nil=>exact(if_neg (λh=>(by nomatch h))).symm
 |cons e l ih=>
  show A4 l (av up e.1) z=_
  rw [ih,jz]
  by_cases q:z∈l.map (·.1)
  ·rw [if_pos q,if_pos (.tail _ q)]
  ·rw [if_neg q]
   by_cases q2:z=e.1
   ·rw [if_pos (jh.mpr (.inl q2)),q2];exact fdel_eq
   ·rw [if_neg λh=>(jh.mp h).elim q2 q];exact io q2
theorem tr_ok{z:Int}(h:(l.map (·.2.1)).Nodup):Ek l up z=match l.find? (λe=>e.2.1==z) with
  |some e=>some (e.1,e.2.2)
  |none=>up z:=by
 induction l generalizing up with
 |nil=>rfl
 |cons e l ih=>
  have h:=kj.mp h
  show Ek l (a6 up e.2.1 (e.1,e.2.2)) z=_
  rw [ih h.2,xd]
  by_cases q:e.2.1=z
  ·rw [dm (q▸h.1),beq_iff_eq.mpr q,<-q];exact ag
  ·rw [beq_false_of_ne q]
   cases l.find? (λe=>e.2.1==z) with
   |some f=>rfl
   |none=>exact ah (Ne.symm q)
theorem rev_is(T0:Topped up)(p:Path up t l top):Ek l (A4 l up)=bl up l:=funext λz=>by
 rw [tr_ok (kj.mp (p.nodup2 T0)).2]
 unfold bl
 cases l.find? (λe=>e.2.1==z) with
 |some f=>rfl
 |none=>exact dl_ok
theorem Iy{P:Prg}{g:Aside}{K:Bks}{E:Eng}{n:Nat}(T0:Topped E.up)(p:Path E.up t l top)(ht:E.up top=none)(hk:l.length<=1000)(hr:∀e∈l,rng e.2.1=true):Me P (n+1) 23 .st [iv t] g K E (iv top) {E with up:=bl E.up l}:=
 rev_is T0 p▸l23 (p.nodup T0).1 (λe he=>by rw [p.edge he];rfl) hr p ht (ja hk (by decide))
theorem E5(T0:Topped up)(p:Path up t l top){e:b4}(he:e∈l):bl up l e.2.1=some (e.1,e.2.2):=by
 have:=p.nodup2 T0
 rw [kj] at this
 unfold bl
 rw [A8 this.2 he]
theorem Io(T0:Topped up)(p:Path up t l top)(ht:up top=none):bl up l t=none:=by
 have:=p.nodup2 T0
 rw [kj] at this
 unfold bl
 rw [dm this.1]
 cases p with
 |nil=>simpa using ht
 |cons h q=>simp
theorem rj(p:Path up t l top)(h:z∉t::l.map (·.2.1)):bl up l z=up z:=by
 unfold bl
 rw [dm λq=>h (.tail _ q)]
 rw [p.ups] at h
 simp only
 rw [if_neg λq=>h (ki _ q)]
theorem rev_none(h:up z=none)(g:z∉l.map (·.2.1)):bl up l z=none:=by
 unfold bl
 rw [dm g]
 simp only
 split
 ·rfl
 ·exact h
theorem Path.rev(p:Path up a l b)(h:∀e∈l,up' e.2.1=some (e.1,e.2.2)):Path up' b (rl l) a:=by
 induction p with
 |nil=>exact .nil _
 | @cons t n z y l g q ih=>
  have:=ih λe he=>h e (.tail _ he)
  show Path up' z ((((t,n,y)::l).map λe=>(e.2.1,e.1,e.2.2)).reverse) t
  rw [jz,yd]
  exact this.app (.cons (h _ (.head _)) (.nil _))
theorem Path.mono(p:Path up a l b)(h:∀e∈l,up' e.1=up e.1):Path up' a l b:=by
 induction p with
 |nil=>exact .nil _
 |cons g _ ih=>exact .cons ((h _ (.head _)).trans g) (ih λe he=>h e (.tail _ he))
theorem Path.hit{N:List Int}(p:Path up a l b):((∀e∈l,e.1∉N)/\b∉N)\/∃l1 w,Path up a l1 w/\w∈N/\∀e∈l1,e.1∉N:=by
 induction p with
 |nil t=>
  by_cases h:t∈N
  ·exact .inr ⟨[],t,.nil _,h,λ_ h=>by cases h⟩
  ·exact .inl ⟨(λ_ h=>by cases h),h⟩
 | @cons t n z y l g q ih=>
  by_cases h:t∈N
  ·exact .inr ⟨[],t,.nil _,h,λ_ h=>by cases h⟩
  ·rcases ih with⟨h1,h2⟩|⟨l1,w,h1,h2,h3⟩
   ·exact .inl ⟨λe he=>(jh.mp he).elim (λq=>q▸h) (h1 e),h2⟩
   ·exact .inr ⟨(t,n,y)::l1,w,.cons g h1,h2,λe he=>(jh.mp he).elim (λq=>q▸h) (h3 e)⟩
theorem Ge(T0:Topped up)(p:Path up t l top)(ht:up top=none):Topped (bl up l):=by
 intro z
 obtain⟨L,r,q,hr⟩:=T0 z
 rcases q.hit (N:=t::l.map (·.2.1)) with⟨h1,h2⟩|⟨l1,w,q1,hw,h3⟩
 ·exact⟨L,r,q.mono λe he=>rj p (h1 e he),by rw [rj p h2];exact hr⟩
 ·have q1:=q1.mono (up':=bl up l) λe he=>rj p (h3 e he)
  have:∃la lb,l=la++lb/\Path up t la w:=by
   rw [p.ups] at hw
   rcases ke.mp hw with hw|hw
   ·obtain⟨e,he,rfl⟩:=jf.mp hw
    obtain⟨x,y,e1,p1,_,_⟩:=p.at_ he
    exact⟨x,_,e1,p1⟩
   ·rw [jg] at hw;subst hw;exact⟨l,[],by simp,p⟩
  obtain⟨la,lb,rfl,pa⟩:=this
  exact⟨_,t,q1.app (pa.rev λe he=>E5 T0 p (ki _ he)),Io T0 p ht⟩
theorem Forest.rev(F:Forest up es)(p:Path up t l top)(ht:up top=none):Forest (bl up l) es:=by
 refine⟨λc n y h=> ?_,λx n y h=> ?_,Ge F.top p ht⟩
 ·by_cases hc:c∈l.map (·.2.1)
  ·obtain⟨e,he,rfl⟩:=jf.mp hc
   rw [E5 F.top p he] at h
   cases h
   exact(F.a _ _ _ (p.edge he)).symm
  ·by_cases h2:c=t
   ·subst h2;rw [Io F.top p ht] at h;cases h
   ·rw [rj p (by rw [jh,not_or];exact⟨h2,hc⟩)] at h
    exact F.a _ _ _ h
 ·have g:∀{x n},up x=some (n,y)->bl up l x=some (n,y)\/bl up l n=some (x,y):=by
   intro x n q
   by_cases hx:x∈l.map (·.1)
   ·obtain⟨e,he,rfl⟩:=jf.mp hx
    have:=p.edge he
    rw [q] at this
    have:=sJx this
    have r:=E5 F.top p he
    rw [<-this] at r
    exact .inr r
   ·refine .inl ?_
    rw [rj p,q]
    rw [p.ups]
    intro z
    rcases ke.mp z with z|z
    ·exact hx z
    ·rw [jg] at z;subst z;rw [ht] at q;cases q
  rcases F.b _ _ _ h with q|q
  ·exact g q
  ·exact(g q).symm
theorem UpB.rev(u:UpB up T)(p:Path up t l top)(T0:Topped up)(ht:up top=none):UpB (bl up l) T:=by
 refine⟨λc n y h=> ?_⟩
 by_cases hc:c∈l.map (·.2.1)
 ·obtain⟨e,he,rfl⟩:=jf.mp hc
  rw [E5 T0 p he] at h
  cases h
  exact(u.key _ _ _ (p.edge he)).symm
 ·by_cases h2:c=t
  ·subst h2;rw [Io T0 p ht] at h;cases h
  ·rw [rj p (by rw [jh,not_or];exact⟨h2,hc⟩)] at h
   exact u.key _ _ _ h
theorem Mj{α:Type}{l:List α}(h:l.Nodup):l.reverse.Nodup:=by
 unfold List.Nodup
 rw [List.pairwise_reverse]
 exact h.imp λq=>Ne.symm q
theorem rev_rev(T0:Topped up)(p:Path up t l top)(ht:up top=none):bl (bl up l) (rl l)=up:=by
 funext z
 have hn:(rl l).map (·.2.1)=(l.map (·.1)).reverse:=by unfold rl;rw [List.map_reverse,jt];rfl
 have hc:(rl l).map (·.1)=(l.map (·.2.1)).reverse:=by unfold rl;rw [List.map_reverse,jt];rfl
 by_cases h:z∈l.map (·.1)
 ·obtain⟨e,he,rfl⟩:=jf.mp h
  have h1:(e.2.1,e.1,e.2.2)∈rl l:=by unfold rl;rw [xx];exact jf.mpr ⟨e,he,rfl⟩
  have:=A8 (l:=rl l) (e:=(e.2.1,e.1,e.2.2)) (by rw [hn];exact Mj (p.nodup T0).1) h1
  conv=>lhs;unfold bl
  simp only at this
  rw [this,p.edge he]
 ·have h0:z∉(rl l).map (·.2.1):=by rw [hn,xx];exact h
  by_cases h2:z∈l.map (·.2.1)
  ·have:z=top:=by
    have:z∈t::l.map (·.2.1):= .tail _ h2
    rw [p.ups] at this
    rcases ke.mp this with q|q
    ·exact absurd q h
    ·simpa using q
   subst this
   conv=>lhs;unfold bl
   rw [dm h0,ht]
   simp only
   rw [if_pos (by rw [hc,xx];exact h2)]
  ·conv=>lhs;unfold bl
   rw [dm h0]
   simp only
   rw [if_neg (by rw [hc,xx];exact h2)]
   rw [dm h2]
   simp only
   rw [if_neg h]
theorem Forest.add{left right:Int}{w:Why}(F:Forest up es)(h0:up left=none)(hn:¬Con es left right):Forest (a6 up left (right,w)) (es++[(left,right,w)]):=by
 refine⟨λc n y h=> ?_,λx n y h=> ?_,λz=> ?_⟩
 ·by_cases e:c=left
  ·subst e;rw [ag] at h;cases h;exact .inl (by simp)
  ·rw [ah e] at h;exact(F.a _ _ _ h).mono λe he=>ki _ he
 ·rcases ke.mp h with h|h
  ·have g:∀{x n},up x=some (n,y)->a6 up left (right,w) x=some (n,y):=by
    intro x n q
    rw [ah λe=>by subst e;rw [h0] at q;cases q]
    exact q
   exact(F.b _ _ _ h).imp g g
  ·rw [jg] at h;cases h;exact .inl ag
 ·have g:∀{z L r},Path up z L r->Path (a6 up left (right,w)) z L r:=λq=>q.mono λe he=>ah λh=>by
   have:=q.edge he;rw [h,h0] at this;cases this
  obtain⟨L,r,q,hr⟩:=F.top z
  by_cases e:r=left
  ·subst e
   obtain⟨L2,r2,q2,hr2⟩:=F.top right
   refine⟨L++(r,right,w)::L2,r2,(g q).app (.cons ag (g q2)),?_⟩
   rw [ah,hr2]
   intro h;subst h
   exact hn (F.con_path q2).symm
  ·exact⟨L,r,g q,by rw [ah e];exact hr⟩
theorem UpB.add{left right:Int}{w:Why}(u:UpB up T)(h1:left∈T)(h2:right∈T):UpB (a6 up left (right,w)) T:=by
 refine⟨λc n y h=> ?_⟩
 by_cases e:c=left
 ·subst e;rw [ag] at h;cases h;exact⟨h1,h2⟩
 ·rw [ah e] at h;exact u.key _ _ _ h
theorem f4{K α:Type}[DecidableEq K]{f:K->Option α}{k:K}{u:α}(h:f k=none):av (a6 f k u) k=f:=by
 funext z
 by_cases e:z=k
 ·subst e;rw [fdel_eq,h]
 ·rw [io e,ah e]
theorem Mu:(rl l).length=l.length:=by unfold rl;simp
theorem hang_ok{P:Prg}{K:Bks}{E:Eng}{left right:Int}{w:Why}(F:Forest E.up es)(u:UpB E.up T)(hT:∀t∈T,rng t=true)(hk:T.length<=1000)(h1:left∈T)(h2:right∈T)(hn:¬Con es left right)(hl:E.trail.length<=1000000):
  ∃up' top,(∀n g,Me P (n+2) 22 .st [iv left,iv right,.dat (vo w)] g K E (.dat .none) {E with up:=up',trail:=E.trail++[.edge left top]})/\Forest up' (es++[(left,right,w)])/\UpB up' T/\(up' left).isSome=true/\
   ∀{n:Nat} {g:Aside} {E2:Eng},E2.up=up'->Me P (n+1) 23 .st [iv top] g K {E2 with up:=av E2.up left} (iv left) {E2 with up:=E.up}:=by
 obtain⟨l,top,p,ht⟩:=F.top left
 have hr:∀e∈l,rng e.2.1=true:=λe he=>hT _ (u.key _ _ _ (p.edge he)).2
 have hs:=ja (p.short F.top u) hk
 have F1:=F.rev p ht
 have u1:=u.rev p F.top ht
 have t1:=Io F.top p ht
 refine⟨a6 (bl E.up l) left (right,w),top,λn g=>l22 (Iy F.top p ht hs hr) (hT _ h1) hl,F1.add t1 hn,u1.add h1 h2,by rw [ag];rfl,λ{n g E2} h=> ?_⟩
 rw [h,f4 t1]
 have q:Path (bl E.up l) top (rl l) left:=p.rev λe he=>E5 F.top p he
 have:=Iy (P:=P) (g:=g) (K:=K) (n:=n) (E:={E2 with up:=bl E.up l}) F1.top q t1 (ja (jd Mu) hs) λe he=>hT _ (u1.key _ _ _ (q.edge he)).2
 rw [rev_rev F.top p ht] at this
 exact this
end
end
section
section
variable{P:Prg}{g:Aside}{K:Bks}{E:Eng}{n:Nat}{up:Up}{es p:List b4}{T:List Int}{a b c z m:Int}{l l1 l2:List b4}
theorem Fb(F:Forest E.up es)(u:UpB E.up T)(q:Con es a b)(hT:∀t∈T,rng t=true)(ha:rng a=true)(hk:T.length<=1000):
  ∃L1 L2 m,Path E.up a L1 m/\Path E.up b L2 m/\(∀g,Me P (n+1) 24 .all [iv a,iv b] g K E (.dat (.list (zs (L1.map (·.1)++L2.map (·.1))))) E)/\(∀p,(∀e∈p,e∈es)->Con p a b->∀e,e∈L1\/e∈L2->InE p e.1 e.2.1 e.2.2):=by
 obtain⟨La,za,pa,ta⟩:=F.top a
 obtain⟨Lb,zb,pb,tb⟩:=F.top b
 have hz:zb=za:=by
  obtain⟨z,la,lb,qa,qb,_,_⟩:=F.meet (λ_ h=>h) q
  have g:∀{x L t l},Path E.up x L t->E.up t=none->Path E.up x l z->∃l',Path E.up z l' t:=by
   intro x L t l h1 h2 h3
   rcases h1.cmp h3 with⟨l',e,r⟩|⟨l',e,r⟩
   ·obtain⟨rfl,rfl⟩:=r.stop h2;exact⟨[],.nil _⟩
   ·exact⟨_,r⟩
  obtain⟨l1,g1⟩:=g pa ta qa
  obtain⟨l2,g2⟩:=g pb tb qb
  exact((g1.ends g2 ta tb).2).symm
 subst hz
 have hzl:zb∈a::La.map (·.2.1):=by rw [pa.ups];exact qc _ (.head _)
 obtain⟨L2,m,h1,h2,h3⟩:∃L2 m,Path E.up b L2 m/\m∈a::La.map (·.2.1)/\∀e∈L2,e.1∉a::La.map (·.2.1):=(pb.hit (N:=a::La.map (·.2.1))).elim (λh=>absurd hzl h.2) id
 have hm:∃L1 L3,La=L1++L3/\Path E.up a L1 m/\Path E.up m L3 zb:=by
  have h2':=h2
  rw [pa.ups] at h2'
  rcases ke.mp h2' with h2|h2
  ·obtain⟨e,he,rfl⟩:=jf.mp h2
   obtain⟨l1,l2,e1,p1,p2,_⟩:=pa.at_ he
   exact⟨l1,_,e1,p1,p2⟩
  ·exact⟨La,[],(jk _).symm,jg.mp h2▸pa,jg.mp h2▸ .nil _⟩
 obtain⟨L1,L3,e0,p1,p3⟩:=hm
 have line:a::La.map (·.2.1)=L1.map (·.1)++m::L3.map (·.2.1):=by
  rw [pa.ups,p3.ups,e0,kh,jy]
 have M:=λg=>l24 (P:=P) (g:=g) (K:=K) (n:=n) (j:=(L1.map (·.1)).length) pa ta h1 (λe he=>hT _ (u.key _ _ _ (pa.edge he)).2) ha (pa.nodup2 F.top) (by rw [line];exact M6 (p1.nodup F.top).2) h3 (ja (pa.short F.top u) hk) (ja (h1.short F.top u) hk)
 refine⟨L1,L2,m,p1,h1,?_,λp hp hq=>F.within hp hq p1 h1 λe he l hl=>h3 e he ?_⟩
 ·rw [line,List.take_left'] at M
  ·exact M
  ·rfl
 ·
  rw [pa.ups]
  rcases hl.cmp pa with⟨l',e',r⟩|⟨l',e',r⟩
  ·rw [e']
   cases r with
   |nil=>exact qc _ (.head _)
   |cons g r=>exact ki _ (jf.mpr ⟨_,qc _ (.head _),rfl⟩)
  ·exact qc _ (jg.mpr (r.stop ta).2)
end
noncomputable def TT:List Int:=[3,4,5,6,7,8,9,10,11,12,13]
noncomputable def argL:List (Int×Int):=[(9,3),(10,4),(11,6),(12,7),(13,9)]
noncomputable def VV:List Int:=[6,7,8]
def Ap(t x:Int):Prop:=(t,x)∈argL
theorem s9{t x y:Int}(h:Ap t x)(g:Ap t y):x=y:=(by decide:∀p∈argL,∀q∈argL,p.1=q.1->p.2=q.2) _ h _ g rfl
theorem pz{t x:Int}(h:Ap t x):t∈TT/\x∈TT/\x<t:=(by decide:∀p∈argL,p.1∈TT/\p.2∈TT/\p.2<p.1) _ h
theorem rk:∀t∈TT,rng t=true:=by decide
structure BK(K:Bks):Prop where
 a:∀t x,Ap t x->Trm K t (S "app") [x] (.int 0)
 v:∀t∈VV,∃d,Trm K t (S "num") [] d
 c:∀t∈[3,4,5],∃d,Trm K t (S "app") [] d
def Cl(R:Int->Int->Prop)(a b:Int):Prop:=∀(α:Type) (f:Int->α),(∀x y,R x y->f x=f y)->(∀a b x y,Ap a x->Ap b y->f x=f y->f a=f b)->f a=f b
abbrev az:=Int×Int×Int
def Fs(fs:List az)(M:List Int)(a b:Int):Prop:=∃m,(a,b,m)∈fs/\(m=0\/m∈M)
def Jst(fs:List az)(R:Int->Int->Prop)(x z:Int):Why->Prop
 | .mk m=>(x,z,m)∈fs\/(z,x,m)∈fs
 | .args=>∃a b,Ap x a/\Ap z b/\R a b
theorem Jst.mono{fs fs':List az}{R R':Int->Int->Prop}{x z:Int}{y:Why}(hf:∀f∈fs,f∈fs')(h:∀a b,R a b->R' a b)(j:Jst fs R x z y):Jst fs' R' x z y:=match y,j with
 | .mk _,j=>j.imp (hf _) (hf _)
 | .args,⟨a,b,h1,h2,h3⟩=>⟨a,b,h1,h2,h a b h3⟩
theorem Jst.symm{fs:List az}{R:Int->Int->Prop}{x z:Int}{y:Why}(h:∀a b,R a b->R b a)(j:Jst fs R x z y):Jst fs R z x y:=match y,j with
 | .mk _,j=>Or.symm j
 | .args,⟨a,b,h1,h2,h3⟩=>⟨b,a,h2,h1,h a b h3⟩
def EJ(fs:List az)(es:List b4):Prop:=∀p e q,es=p++e::q->Jst fs (Con p) e.1 e.2.1 e.2.2
structure Ex where
 work:List (Int×Int)
 seen:List Int
 found:List Int
structure Proofs(fs:List az)(up:Up)(es:List b4):Prop where
 F:Forest up es
 u:UpB up TT
 j:EJ fs es
section
variable{fs:List az}{E:Eng}{es:List b4}{a b a0 b0:Int}{x:Ex}{rest:List Int}{P:Prg}{g:Aside}{K:Bks}{n:Nat}{y6 y7:Int}
theorem EJ.of(j:EJ fs es){c n:Int}{y:Why}(h:InE es c n y):Jst fs (Con es) c n y:=by
 have g:∀{c n:Int},(c,n,y)∈es->Jst fs (Con es) c n y:=λh=>(List.append_of_mem h).elim λp q=>q.elim λq e=>(j p _ q e).mono (λ_ h=>h) λa b c=>c.mono λe' he=>by rw [e];exact ki _ he
 exact h.elim g λh=>(g h).symm λ_ _=>Con.symm
inductive Cov(up:Up)(es:List b4)(a b:Int)(S:Int->Prop):Prop
 |mk (L1 L2:List b4) (m:Int) (p1:Path up a L1 m) (p2:Path up b L2 m) (hin:∀p,(∀e∈p,e∈es)->Con p a b->∀e,e∈L1\/e∈L2->InE p e.1 e.2.1 e.2.2) (hs:∀e,e∈L1\/e∈L2->S e.1)
theorem Cov.mono{up:Up}{S S':Int->Prop}(h:∀c,S c->S' c)(c:Cov up es a b S):Cov up es a b S':=c.casesOn λL1 L2 m p1 p2 hi hs=>⟨L1,L2,m,p1,p2,hi,λe q=>h _ (hs e q)⟩
def Wk(E:Eng)(es:List b4)(rest:List Int)(x:Ex)(p q:Int):Prop:=(p,q)∈x.work\/Cov E.up es p q λc=>c∈x.seen\/c∈rest
def Tel(found:List Int)(W:Int->Int->Prop)(c n:Int):Why->Prop
 | .mk m=>m=0\/m∈found
 | .args=>∃a b,Ap c a/\Ap n b/\W a b
theorem Tel.mono{f f':List Int}{W W':Int->Int->Prop}{c n:Int}{y:Why}(hf:∀m∈f,m∈f')(h:∀a b,W a b->W' a b)(t:Tel f W c n y):Tel f' W' c n y:=match y,t with
 | .mk _,t=>t.imp id (hf _)
 | .args,⟨a,b,h1,h2,h3⟩=>⟨a,b,h1,h2,h a b h3⟩
structure InvX(fs:List az)(E:Eng)(es:List b4)(a0 b0:Int)(rest:List Int)(x:Ex):Prop where
 s1:x.seen.Nodup/\∀c∈x.seen,c∈TT
 s2:x.found.Nodup/\x.found.length<=x.seen.length/\∀m∈x.found,m≠0/\∃u v,(u,v,m)∈fs
 s3:∀w∈x.work,Con es w.1 w.2/\w.1∈TT/\w.2∈TT
 s5:∀c∈x.seen,∀n y,E.up c=some (n,y)->Tel x.found (Wk E es rest x) c n y
 s6:Wk E es rest x a0 b0
noncomputable def Ex.mu(x:Ex):Nat:=x.work.length+(11-x.seen.length)
noncomputable def adE(fo:List Int)(r:Int):List Int:=if r=0 then fo else adF fo r
theorem adE_mem{fo:List Int}{r z:Int}(h:z∈adE fo r):z∈fo\/(z=r/\r≠0):=by
 unfold adE adF at h
 split at h
 ·exact .inl h
 ·rename_i e
  split at h
  ·exact .inl h
  ·exact(ke.mp h).imp id λm=>⟨jg.mp m,e⟩
theorem adE_old{fo:List Int}{r z:Int}(h:z∈fo):z∈adE fo r:=by
 unfold adE adF
 split
 ·exact h
 ·split
  ·exact h
  ·exact ki _ h
theorem adE_new{fo:List Int}{r:Int}:r=0\/r∈adE fo r:=by
 unfold adE adF
 split
 ·rename_i e;exact .inl e
 ·split
  ·rename_i h;exact .inr h
  ·exact .inr (qc _ (.head _))
theorem adE_nd{fo:List Int}{r:Int}(h:fo.Nodup):(adE fo r).Nodup/\(adE fo r).length<=fo.length+1:=by
 unfold adE adF
 split
 ·exact⟨h,ko _⟩
 ·split
  ·exact⟨h,ko _⟩
  ·rename_i q;exact⟨fk h q,jd je⟩
noncomputable def exC(P:Prg)(g:Aside)(K:Bks)(E:Eng)(a b y6 y7:Int)(x:Ex):IC:=⟨exR a b y6 y7,Hv x.work x.seen x.found,hp P g K E⟩
theorem cm{α:Type}{l:List α}{x y:α}(h:x∈l++[y]):x∈l\/x=y:=(ke.mp h).imp id jg.mp
theorem InvX.skip{c:Int}{cs:List Int}(I:InvX fs E es a0 b0 (c::cs) x)(hc:c∈x.seen):InvX fs E es a0 b0 cs x:=
 have mo:∀p q,Wk E es (c::cs) x p q->Wk E es cs x p q:=λ_ _=> .imp id (Cov.mono λd q=>q.elim .inl λq=>(jh.mp q).elim (λe=> .inl (e▸hc)) .inr)
 ⟨I.s1,I.s2,I.s3,λd hd n y h=>(I.s5 d hd n y h).mono (λ_ h=>h) mo,mo _ _ I.s6⟩
theorem InvX.step{c m:Int}{cs fo:List Int}{y:Why}{wk:List (Int×Int)}(I:InvX fs E es a0 b0 (c::cs) x)(hc:c∉x.seen)(hT:c∈TT)(hu:E.up c=some (m,y))(f1:fo.Nodup/\fo.length<=x.found.length+1)(f2:∀m∈fo,m∈x.found\/m≠0/\∃u v,(u,v,m)∈fs)(f3:∀m∈x.found,m∈fo)(w1:∀w∈wk,w∈x.work\/Con es w.1 w.2/\w.1∈TT/\w.2∈TT)(w2:∀w∈x.work,w∈wk)
  (t:Tel fo (λp q=>(p,q)∈wk) c m y):InvX fs E es a0 b0 cs ⟨wk,x.seen++[c],fo⟩:=
 have mo:∀p q,Wk E es (c::cs) x p q->Wk E es cs ⟨wk,x.seen++[c],fo⟩ p q:=λ_ _=> .imp (w2 _) (Cov.mono λd q=>q.elim (λq=> .inl (ki _ q)) λq=>(jh.mp q).elim (λe=> .inl (e▸qc _ (.head _))) .inr)
 ⟨⟨fk I.s1.1 hc,λd hd=>(cm hd).elim (I.s1.2 d) λe=>e▸hT⟩,⟨f1.1,ja f1.2 (ja (jm I.s2.2.1) (jd (je (as:=x.seen) (bs:=[c])).symm)),λz h=>(f2 z h).elim (I.s2.2.2 z) id⟩,λw h=>(w1 w h).elim (I.s3 w) id,
  λd hd n w h=>(cm hd).elim (λhd=>(I.s5 d hd n w h).mono f3 mo) λe=>by
   rw [e,hu] at h
   have h:=Prod.mk.inj (sJx h)
   rw [e,<-h.1,<-h.2]
   exact t.mono (λ_ h=>h) λ_ _=> .inl,mo _ _ I.s6⟩
theorem seen_lt{c:Int}{s:List Int}(h:s.Nodup/\∀d∈s,d∈TT)(hc:c∉s)(hT:c∈TT):s.length+1<=11:=
 d5 (l:=c::s) (T:=TT) (kj.mpr ⟨hc,h.1⟩) λd hd=>(jh.mp hd).elim (λe=>e▸hT) (h.2 d)
theorem Lv(hB:BK K)(R:Proofs fs E.up es):∀{x:Ex},InvX fs E es a0 b0 rest x->(∀c∈rest,∃e,E.up c=some e)->x.mu<=1000->∃x':Ex,InvX fs E es a0 b0 [] x'/\x'.mu<=x.mu/\∀{g:Aside} {k:KB},k .next (exC P g K E a b y6 y7 x')->
  lp ((af P (n+1) Mi).b (.all,[])) (mj true [8]) (IC.keep [0,1,2,3,4,5,6,7]) k (rest.map iv) (exC P g K E a b y6 y7 x):=by
 induction rest with
 |nil=>exactλI _ _=>⟨_,I,jc _,λhk=>hk⟩
 |cons c cs ih=>
  intro x I hr hm
  have hr':=λd (hd:d∈cs)=>hr d (.tail _ hd)
  by_cases hc:c∈x.seen
  ·refine(ih (I.skip hc) hr' hm).imp λx' h=>⟨h.1,h.2.1,λ{g k} hk=>ex1 hc λρ' e=> ?_⟩
   exact ci (h.2.2 hk) e
  ·refine(hr c (.head _)).elim λe hu=> ?_
   have hcT:=R.u.key _ _ _ hu
   have hJ:=R.j.of (R.F.a _ _ _ hu)
   have hsl:=seen_lt I.s1 hc hcT.1
   have hsz:(x.seen++[c]).length=x.seen.length+1:=je
   have hf:=I.s2.2.1
   have hw:x.work.length<=1000:=ja (ji _ _) hm
   cases e with|mk d y=>cases y with
   |mk m=>
    have hm':(⟨x.work,x.seen++[c],adE x.found m⟩:Ex).mu<=x.mu:=by
     show x.work.length+(11-(x.seen++[c]).length)<=x.work.length+_;rw [hsz];exact jv (Nat.sub_le_sub_left (ko _) _) _
    refine(ih (I.step (y:= .mk m) hc hcT.1 hu (adE_nd I.s2.1) (λz hz=>(adE_mem hz).imp id λ(e:z=m/\m≠0)=>e.1▸⟨e.2,hJ.elim (λh=>⟨_,_,h⟩) λh=>⟨_,_,h⟩⟩) (λ_=>adE_old) (λ_=> .inl) (λ_ h=>h) adE_new) hr' (ja hm' hm)).imp λx' h=>
     ⟨h.1,ja h.2.1 hm',λ{g k} hk=>ex2 hc (rk c hcT.1) hu (ja hf (ja (qg hsl) (by decide))) λρ' e=> ?_⟩
    exact ci (h.2.2 hk) e
   |args=>
    refine hJ.elim λp hJ=>hJ.elim λq hJ=> ?_
    have hm':(⟨x.work++[(p,q)],x.seen++[c],x.found⟩:Ex).mu<=x.mu:=by
     show(x.work++[(p,q)]).length+(11-(x.seen++[c]).length)<=x.work.length+(11-x.seen.length)
     rw [hsz,je];show x.work.length+1+_<=_;rw [qh,we 1];exact jv (Nat.sub_lt_sub_left hsl (wq _)) _
    refine(ih (I.step (y:= .args) hc hcT.1 hu ⟨I.s2.1,ko _⟩ (λ_=> .inl) (λ_ h=>h) (λw hw=>(cm hw).imp id λ(e:w=(p,q))=>e▸⟨hJ.2.2,(pz hJ.1).2.1,(pz hJ.2.1).2.1⟩) (λ_=>ki _) ⟨p,q,hJ.1,hJ.2.1,qc _ (.head _)⟩) hr' (ja hm' hm)).imp λx' h=>
     ⟨h.1,ja h.2.1 hm',λ{g k} hk=>ex3 hc (rk c hcT.1) hu (hB.a _ _ hJ.1) (hB.a _ _ hJ.2.1) (ja hw (by decide)) λρ' e=> ?_⟩
    exact ci (h.2.2 hk) e
noncomputable def exW(P:Prg)(g:Aside)(K:Bks)(E:Eng)(a b:Int)(x:Ex):IC:=⟨[(0,.obj .house),(1,iv a),(2,iv b),(3,.obj (.tmp 0)),(4,.obj (.tmp 1)),(5,.obj (.tmp 2))],Hv x.work x.seen x.found,hp P g K E⟩
theorem By{l:List (Int×Int)}:((l.map prD).map AV.dat).length=l.length:=(jb _).trans (jb _)
theorem Lu(hB:BK K)(R:Proofs fs E.up es):∀{N:Nat} {x:Ex},InvX fs E es a0 b0 [] x->x.mu<=1000->x.mu<N->∃x',InvX fs E es a0 b0 [] x'/\x'.work=[]/\∀{g:Aside} {k:KB},k .next (exW P g K E a b x')->
  wh ((af P (n+1) (.cmp .gt (.blt .len (.cons (.var 3) (.nil))) (.con (.int 0)))).t (.all,[])) ((af P (n+1) (.sett [6,7] (.lm (.var 3) .pop (.nil)) (.fori false [8] true (.met (.var 0) 24 (.cons (.var 6) (.cons (.var 7) (.nil)))) Mi [0,1,2,3,4,5,6,7] (.nil)))).b (.all,[])) (IC.keep [0,1,2,3,4,5]) k N (exW P g K E a b x):=by
 intro N
 induction N with
 |zero=>exactλ_ _ h=>absurd h (Nat.not_lt_zero _)
 |succ N ih=>
  intro x I hm hN
  have hwl:x.work.length<=1000:=ja (ji _ _) hm
  have s0:((x.work.map prD).map AV.dat).length<=1000000:=ja (jd By) (ja hwl (by decide))
  refine(List.eq_nil_or_concat x.work).elim (λhw=>⟨x,I,hw,λ{g k} hk=>⟨s0,ax (dFx (by rw [By,hw];decide)) hk⟩⟩) λhw=>hw.elim λwl hw=>hw.elim λw hw=> ?_
  rw [List.concat_eq_append] at hw
  have hlen:x.work.length=wl.length+1:=hw▸je
  have hc:=I.s3 w (hw▸qc _ (.head _))
  obtain⟨L1,L2,m,p1,p2,M,hp'⟩:=Fb (P:=P) (K:=K) (n:=n) R.F R.u hc.1 rk (rk _ hc.2.1) (by decide)
  have ww:∀p q,Wk E es [] x p q->Wk E es (L1.map (·.1)++L2.map (·.1)) ⟨wl,x.seen,x.found⟩ p q:=λp q h=>h.elim (λh=>(cm (hw▸h)).imp id λh=>by
   cases h
   exact⟨L1,L2,m,p1,p2,hp',λe he=> .inr (he.elim (λhe=>ki _ (List.mem_map_of_mem he)) λhe=>qc _ (List.mem_map_of_mem he))⟩) λh=> .inr (h.mono λd q=>q.imp id λq=>(by nomatch q))
  have I':InvX fs E es a0 b0 (L1.map (·.1)++L2.map (·.1)) ⟨wl,x.seen,x.found⟩:=
   ⟨I.s1,I.s2,λw' h=>I.s3 w' (hw▸ki _ h),λd hd n' y h=>(I.s5 d hd n' y h).mono (λ_ h=>h) ww,ww _ _ I.s6⟩
  have hmu:(⟨wl,x.seen,x.found⟩:Ex).mu+1=x.mu:=by
   show wl.length+(11-x.seen.length)+1=x.work.length+_;rw [hlen];exact wo ..
  refine(Lv (P:=P) (K:=K) (n:=n) (a:=a) (b:=b) (y6:=w.1) (y7:=w.2) hB R I' (λc hc=>(ke.mp hc).elim (λhc=>(jf.mp hc).elim λe he=>he.2▸⟨_,p1.edge he.1⟩) λhc=>(jf.mp hc).elim λe he=>he.2▸⟨_,p2.edge he.1⟩) (ja (ko _) (ja (jd hmu) hm))).elim λx1 h1=> ?_
  have hx:=h1.2.1
  refine(ih h1.1 (ja hx (ja (ko _) (ja (jd hmu) hm))) (jq hx (yb (jq (jd hmu) hN)))).imp λx' h2=>⟨h2.1,h2.2.1,λ{g k} hk=>⟨s0,?_⟩⟩
  refine b8 (dTx (by rw [By,hlen];exact Int.natCast_pos.mpr (qy _))) ?_
  refine⟨(wl.map prD).map .dat,.dat (prD w),by rw [hw];exact map_snoc.symm,ja (jd By) (ja (qg (hlen▸hwl)) (by decide)),?_⟩
  refine b7 (M g) rt ?_
  show lp ((af P (n+1) Mi).b (.all,[])) (mj true [8]) (IC.keep [0,1,2,3,4,5,6,7]) _ ((zs (L1.map (·.1)++L2.map (·.1))).map AV.dat) _
  rw [d8]
  exact h1.2.2 (nq (h2.2.2 hk) rfl)
theorem Path.lab{α:Type}{f:Int->α}{up:Up}{m:Int}{L:List b4}(p:Path up a L m)(h:∀e∈L,f e.1=f e.2.1):f a=f m:=by
 induction p with
 |nil=>rfl
 |cons g _ ih=>exact(h _ (.head _)).trans (ih λe he=>h e (.tail _ he))
theorem Cov.lab{α:Type}{f:Int->α}{S:Int->Prop}{p:List b4}{up:Up}(c:Cov up es a b S)(hp:∀e∈p,e∈es)(q:Con p a b)(h:∀c n y,S c->up c=some (n,y)->InE p c n y->f c=f n):f a=f b:=c.casesOn λL1 L2 m p1 p2 hi hs=>
 (p1.lab λe he=>h _ _ _ (hs e (.inl he)) (p1.edge he) (hi p hp q e (.inl he))).trans (p2.lab λe he=>h _ _ _ (hs e (.inr he)) (p2.edge he) (hi p hp q e (.inr he))).symm
theorem InvX.edges{α:Type}{f:Int->α}(P:Proofs fs E.up es)(I:InvX fs E es a0 b0 [] x)(hw:x.work=[])(h1:∀u v,Fs fs x.found u v->f u=f v)(h2:∀a b x y,Ap a x->Ap b y->f x=f y->f a=f b){r:List b4}:∀(p:List b4),es=r.reverse++p->∀c n y,(c∈x.seen\/c∈([]:List Int))->E.up c=some (n,y)->InE r.reverse c n y->f c=f n:=by
 induction r with
 |nil=>exactλ_ _ _ _ _ _ _ h=>h.elim (λh=>(by nomatch h)) λh=>(by nomatch h)
 |cons e r ih=>
  intro p he c n y hc hu h
  rw [yd] at h
  rw [yd,jy] at he
  have hc':c∈x.seen:=hc.elim id λh=>(by nomatch h)
  have J:∀{c n},(c,n,y)∈r.reverse++[e]->InE r.reverse c n y\/Jst fs (Con r.reverse) c n y:=λh=>(cm h).imp .inl λq=>by
   have:=P.j _ _ _ he;rw [<-q] at this;exact this
  refine(h.elim J λh=>(J h).imp Or.symm λh=>h.symm λ_ _=>Con.symm).elim (ih _ he c n y hc hu) λJ=> ?_
  have t:=I.s5 c hc' n y hu
  cases y with
  |mk m=>exact J.elim (λg=>h1 _ _ ⟨m,g,t⟩) λg=>(h1 _ _ ⟨m,g,t⟩).symm
  |args=>exact J.elim λa J=>J.elim λb J=>t.elim λa' t=>t.elim λb' t=>h2 c n a b J.1 J.2.1 (by
    rw [s9 J.1 t.1,s9 J.2.1 t.2.1] at*
    exact t.2.2.elim (λz=>by rw [hw] at z;exact(by nomatch z)) λc=>c.lab (λf hf=>by rw [he];exact ki _ hf) J.2.2 (ih _ he))
def Told(fs:List az)(a b:Int)(l:List Int):Prop:=∃found:List Int,l=sortI found/\found.Nodup/\found.length<=11/\(∀m∈found,m≠0/\∃u v,(u,v,m)∈fs)/\Cl (Fs fs found) a b
theorem fo_keys(l:List Int):(foL l).map (·.1)=l:=(jt ..).trans (List.map_id l)
theorem uc(hB:BK K)(R:Proofs fs E.up es){r:Int}(ha:E.root a=some r)(hb:E.root b=some r)(hc:Con es a b)(haT:a∈TT)(hbT:b∈TT):∃l,(∀g,Me P (n+2) 25 .all [iv a,iv b] g K E (.dat (.list (zs l))) E)/\Told fs a b l:=by
 have I:InvX fs E es a b [] {work:=[(a,b)],seen:=[],found:=[]}:=
  ⟨⟨qt,(λ_ h=>(by nomatch h))⟩,⟨qt,jc _,(λ_ h=>(by nomatch h))⟩,λw hw=>jg.mp hw▸⟨hc,haT,hbT⟩,(λ_ h=>(by nomatch h)),.inl (.head _)⟩
 refine(Lu (P:=P) (n:=n) (K:=K) (a:=a) (b:=b) (N:=52) hB R I (by decide:1+(11-0)<=1000) (by decide:1+(11-0)<52)).elim λx h=> ?_
 have hf:x.found.length<=11:=ja h.1.s2.2.1 (d5 (T:=TT) h.1.s1.1 h.1.s1.2)
 refine⟨sortI x.found,λg=> ?_,⟨x.found,rfl,h.1.s2.1,hf,h.1.s2.2.2,λα f h1 h2=> ?_⟩⟩
 ·refine enter c25 rt rt ?_
  refine a7 (ch ha) (a7 (ch hb) ?_)
  refine ax (lz rfl) ?_
  refine⟨λy z=>(jg.mp z)▸trivial,?_⟩
  refine⟨(λ_ _ e=>(by nomatch e)),?_⟩
  refine⟨(λ_ m=>(by nomatch m)),?_⟩
  refine⟨52,nq (h.2.2 ?_) rfl⟩
  refine⟨ja (jd (jb _)) (ja hf (by decide)),?_⟩
  exact⟨x.found,cGx zs (fo_keys x.found),jq hf (by decide),done⟩
 ·have e:es=es.reverse.reverse++[]:=by rw [List.reverse_reverse,jk]
  exact h.1.s6.elim (λz=>by rw [h.2.1] at z;exact(by nomatch z)) λc=>c.lab (λ_ h=>h) hc λc n y hs hu hi=>h.1.edges R h.2.1 h1 h2 [] e c n y hs hu (by rw [List.reverse_reverse];exact hi)
end
end
section
variable{P:Prg}{n:Nat}{g:Aside}{K:Bks}{E:Eng}{t x v r s:Int}{k:KB}{κ:LK}
theorem I9{f f':Int->Option (List Int)}{q:Int->Option AObj}(h:f' s=f s):dy f' q s=dy f q s:=by unfold dy;rw [h]
theorem dct_new{α:Type}{f:Int->Option α}{y:α}:(some (.dictI true (a6 (λs=>(f s).map λ_=>AV.obj (.ls κ s)) t (.obj (.ls κ t)))):Option AObj)=some (Ff κ (a6 f t y)):=cGx (λf=>some (AObj.dictI true f)) (funext λs=>by
 unfold a6
 split
 ·rename_i e;rw [e];rfl
 ·rfl)
noncomputable abbrev Eng.ent(E:Eng)(t v:Int):Eng:={E with root:=a6 E.root t t,mem:=a6 E.mem t [t],use:=a6 E.use t [],val:=a6 E.val t v}
theorem r9(h:E.root t=none):up (up (up (up (up (up (up (up (up (up (hp P g K E) .root (.dictI true (a6 (λs=>(E.root s).map iv) t (iv t)))) (.ls .mem t) (.list true [iv t])) (.dct .mem) (.dictI true (a6 (λs=>(E.mem s).map λ_=> .obj (.ls .mem s)) t (.obj (.ls .mem t)))))
  (.ls .use t) (.list true [])) (.dct .use) (.dictI true (a6 (λs=>(E.use s).map λ_=> .obj (.ls .use s)) t (.obj (.ls .use t))))) (.ls .apt t) (.list true [])) (.dct .apt) (.dictI true (a6 (λs=>(E.root s).map λ_=> .obj (.ls .apt s)) t (.obj (.ls .apt t)))))
  (.ls .wat t) (.list true [])) (.dct .wat) (.dictI true (a6 (λs=>(E.root s).map λ_=> .obj (.ls .wat s)) t (.obj (.ls .wat t))))) .value (.dictI true (a6 (λs=>(E.val s).map iv) t (iv v)))=hp P g K (E.ent t v):=funext λτ=>by
 have nf:∀{κ:LK} {a b:Int},a≠b->Tg.ls κ a≠ .ls κ b:=λn e=>n (ls_inj e)
 cases τ with
 |root=>exact cGx (λf=>some (AObj.dictI true f)) e9
 |value=>exact cGx (λf=>some (AObj.dictI true f)) e9
 |dct k=>cases k<;>exact dct_new
 |ls k s=>
  by_cases e:s=t
  ·subst e
   cases k with
   |mem=>exact Eq.trans (ba (τ:= .ls .mem s)) (nj (l:=[s]) ag).symm
   |use=>exact Eq.trans (ba (τ:= .ls .use s)) (nj (l:=[]) ag).symm
   |apt=>exact Eq.trans (ba (τ:= .ls .apt s)) (nj (f:=λx=>(a6 E.root s s x).map λ_=>[]) (l:=[]) (cGx (Option.map _) ag)).symm
   |wat=>exact Eq.trans (ba (τ:= .ls .wat s)) (nj (f:=λx=>(a6 E.root s s x).map λ_=>[]) (l:=[]) (cGx (Option.map _) ag)).symm
  ·cases k with
   |mem=>exact Eq.trans (if_neg (nf (κ:= .mem) e):(if Tg.ls .mem s=Tg.ls .mem t then some (AObj.list true [iv t]) else hp P g K E (.ls .mem s))=hp P g K E (.ls .mem s)) (I9 (ah e)).symm
   |use=>exact Eq.trans (if_neg (nf (κ:= .use) e):(if Tg.ls .use s=Tg.ls .use t then some (AObj.list true []) else hp P g K E (.ls .use s))=hp P g K E (.ls .use s)) (I9 (ah e)).symm
   |apt=>exact Eq.trans (if_neg (nf (κ:= .apt) e):(if Tg.ls .apt s=Tg.ls .apt t then some (AObj.list true []) else hp P g K E (.ls .apt s))=hp P g K E (.ls .apt s)) (I9 (f:=λx=>(E.root x).map λ_=>[]) (f':=λx=>(a6 E.root t t x).map λ_=>[]) (cGx (Option.map _) (ah e))).symm
   |wat=>exact Eq.trans (if_neg (nf (κ:= .wat) e):(if Tg.ls .wat s=Tg.ls .wat t then some (AObj.list true []) else hp P g K E (.ls .wat s))=hp P g K E (.ls .wat s)) (I9 (f:=λx=>(E.root x).map λ_=>[]) (f':=λx=>(a6 E.root t t x).map λ_=>[]) (cGx (Option.map _) (ah e))).symm
 |_=>rfl
theorem lay_nv:(lay (.tuple [.str (S "num"),.str (S "bvnum"),.str (S "true"),.str (S "false")])&&lay (.str (S "num")))=true:=by kernel_rfl
theorem any_nv:F8 [.str (S "num"),.str (S "bvnum"),.str (S "true"),.str (S "false")] (.str (S "num"))=true:=by kernel_rfl
theorem lay_av:(lay (.tuple [.str (S "num"),.str (S "bvnum"),.str (S "true"),.str (S "false")])&&lay (.str (S "app")))=true:=by kernel_rfl
theorem any_av:F8 [.str (S "num"),.str (S "bvnum"),.str (S "true"),.str (S "false")] (.str (S "app"))=false:=by kernel_rfl
variable{d:PyData}{l:List Int}{E1:Eng}
theorem l11n(T:Trm K t (S "num") [] d)(h:E.root t=none)(hr:rng t=true)(hl:E.trail.length<=1000000):Me P (n+3) 11 .st [iv t] g K E (.dat .none) {E.ent t t with trail:=E.trail++[.enter t []]}:=by
 refine enter c11 rt rt ?_
 refine⟨hr,a8 rfl ?_⟩
 refine⟨λy z=>(jg.mp z)▸trivial,hr,_,rfl,?_⟩
 refine⟨dp,hr,_,rfl,?_⟩
 refine⟨dp,hr,_,rfl,?_⟩
 refine⟨dp,hr,_,rfl,?_⟩
 refine b7 (b56 T ⟨rfl,λ_=>rfl⟩) rt (dw lay_nv (b8 any_nv ?_))
 refine⟨hr,a8 (r9 (v:=t) h) ?_⟩
 refine b7 (b9n T tx rfl) rt ?_
 refine⟨(by decide:0<=1000000),?_⟩
 refine⟨ai (ac hl),a8 (fe (E:=E.ent t t) (.enter t []) rfl) ?_⟩
 refine⟨(by decide:0<=1000000),?_⟩
 exact b9
theorem l11c(T:Trm K t (S "app") [] d)(h:E.root t=none)(hr:rng t=true)(hl:E.trail.length<=1000000):Me P (n+3) 11 .st [iv t] g K E (.dat .none) {E.ent t 0 with trail:=E.trail++[.enter t []]}:=by
 refine enter c11 rt rt ?_
 refine⟨hr,a8 rfl ?_⟩
 refine⟨λy z=>(jg.mp z)▸trivial,hr,_,rfl,?_⟩
 refine⟨dp,hr,_,rfl,?_⟩
 refine⟨dp,hr,_,rfl,?_⟩
 refine⟨dp,hr,_,rfl,?_⟩
 refine b7 (b56 T ⟨rfl,λ_=>rfl⟩) rt (dw lay_av (ax any_av ?_))
 refine⟨hr,a8 (r9 (v:=0) h) ?_⟩
 refine b7 (b9a T tx rfl) rt ?_
 refine⟨(by decide:0<=1000000),?_⟩
 refine⟨ai (ac hl),a8 (fe (E:=E.ent t 0) (.enter t []) rfl) ?_⟩
 refine⟨(by decide:0<=1000000),?_⟩
 exact b9
theorem l11a(T:Trm K t (S "app") [x] d)(h:E.root t=none)(hr:rng t=true)(hx:(E.ent t 0).root x=some r)(hu:(E.ent t 0).use r=some l)(h1:l.length<=1000000)(hl:E.trail.length<=1000000)
  (M:Me P (n+2) 13 .st [iv t] g K {E.ent t 0 with use:=a6 (E.ent t 0).use r (l++[t]),trail:=E.trail++[.enter t [r]]} (.dat .none) E1):Me P (n+3) 11 .st [iv t] g K E (.dat .none) E1:=by
 refine enter c11 rt rt ?_
 refine⟨hr,a8 rfl ?_⟩
 refine⟨λy z=>(jg.mp z)▸trivial,hr,_,rfl,?_⟩
 refine⟨dp,hr,_,rfl,?_⟩
 refine⟨dp,hr,_,rfl,?_⟩
 refine⟨dp,hr,_,rfl,?_⟩
 refine b7 (b56 T ⟨rfl,λ_=>rfl⟩) rt (dw lay_av (ax any_av ?_))
 refine⟨hr,a8 (r9 (v:=0) h) ?_⟩
 refine b7 (b9a T tx rfl) rt ?_
 refine⟨(by decide:1<=1000000),?_⟩
 refine a7 (ch hx) ?_
 refine a7 (x:=((E.ent t 0).use r).map λ_=>AV.obj (.ls .use r)) (cGx (Option.map _) hu) ?_
 refine a7 (x:=dy (E.ent t 0).use (g.ls .use) r) (ga (E:=E.ent t 0) g hu) (a7 (x:=dy (E.ent t 0).use (g.ls .use) r) (ga (E:=E.ent t 0) g hu) ?_)
 refine⟨ei h1,a8 (Ht (E:=E.ent t 0) (by rw [hu];rfl) zs_snoc) ?_⟩
 refine⟨ai (ac hl),a8 (fe (E:={E.ent t 0 with use:=a6 (E.ent t 0).use r (l++[t])}) (.enter t [r]) rfl) ?_⟩
 refine⟨(by decide:1<=1000000),?_⟩
 exact b7 M rt b9
variable{l:List Int}
noncomputable def Aside.put(g:Aside)(t:Int)(σ:Tg->Option AObj):Aside:={g with ls:=λκ s=>if s=t then σ (.ls κ s) else g.ls κ s}
noncomputable abbrev Cor.del(E:Cor)(t:Int):Cor:={E with root:=av E.root t,mem:=av E.mem t,use:=av E.use t,val:=av E.val t}
theorem Bl{f:Int->Option (List Int)}{q:LK->Int->Option AObj}{σ:Tg->Option AObj}(h:σ (.ls κ s)=dy f (q κ) s):dy (av f t) (λs=>if s=t then σ (.ls κ s) else q κ s) s=σ (.ls κ s):=by
 unfold dy av
 by_cases e:s=t
 ·rw [if_pos e];exact if_pos e
 ·rw [if_neg e,h]
  unfold dy
  cases f s with
  |some l=>rfl
  |none=>exact if_neg e
noncomputable def lv1(P:Prg)(g:Aside)(K:Bks)(E:Eng)(t:Int):=up (hp P g K E) .root (.dictI true (av (λs=>(E.root s).map iv) t))
noncomputable def lv2(P:Prg)(g:Aside)(K:Bks)(E:Eng)(t:Int):=up (lv1 P g K E t) (.dct .mem) (.dictI true (av (λs=>(E.mem s).map λ_=> .obj (.ls .mem s)) t))
noncomputable def lv3(P:Prg)(g:Aside)(K:Bks)(E:Eng)(t:Int):=up (lv2 P g K E t) (.dct .use) (.dictI true (av (λs=>(E.use s).map λ_=> .obj (.ls .use s)) t))
noncomputable def lv4(P:Prg)(g:Aside)(K:Bks)(E:Eng)(t:Int):=up (lv3 P g K E t) .value (.dictI true (av (λs=>(E.val s).map iv) t))
noncomputable def lv5(P:Prg)(g:Aside)(K:Bks)(E:Eng)(t:Int):=up (lv4 P g K E t) (.dct .apt) (.dictI true (av (λs=>(E.root s).map λ_=> .obj (.ls .apt s)) t))
theorem Mc:up (lv5 P g K E t) (.dct .wat) (.dictI true (av (λs=>(E.root s).map λ_=> .obj (.ls .wat s)) t))=hp P (g.put t (hp P g K E)) K {E with toCor:=E.toCor.del t}:=funext λτ=>by
 have dd:∀{α:Type} {f:Int->Option α} {κ:LK},(some (.dictI true (av (λs=>(f s).map λ_=>AV.obj (.ls κ s)) t)):Option AObj)=some (Ff κ (av f t)):=λ{α f κ}=>cGx (λf=>some (AObj.dictI true f)) (funext λs=>by unfold av;split<;>rfl)
 have aa:(λs=>(av E.root t s).map λ_=>([]:List Int))=av (λs=>(E.root s).map λ_=>[]) t:=funext λs=>by unfold av;split<;>rfl
 cases τ with
 |root=>exact cGx (λf=>some (AObj.dictI true f)) p8
 |value=>exact cGx (λf=>some (AObj.dictI true f)) p8
 |dct k=>cases k<;>exact dd
 |ls k s=>cases k with
  |mem=>exact(Bl (σ:=hp P g K E) (κ:= .mem) rfl).symm
  |use=>exact(Bl (σ:=hp P g K E) (κ:= .use) rfl).symm
  |apt=>exact Eq.trans (Bl (σ:=hp P g K E) (κ:= .apt) rfl).symm (cGx (λf=>dy f _ s) aa).symm
  |wat=>exact Eq.trans (Bl (σ:=hp P g K E) (κ:= .wat) rfl).symm (cGx (λf=>dy f _ s) aa).symm
 |_=>rfl
theorem isM{α β:Type}{f:Option α}{h:α->β}(q:f.isSome=true):(f.map h).isSome=true:=(wu ..).trans q
theorem A3{τ:Tg}{f:Int->Option AV}{vs:List AV}{b:Tg->Option AObj}{a2:AV}{K':KB}(q:τ.ti=none)(e:b τ=some (.dictI true f))(h:(f t).isSome=true)(k:lp ((af P n (.del (.var 4) (.var 1) (.nil))).b (.st,[])) (mj true [4]) (IC.keep [0,1,2]) K' vs ⟨[(0,.obj .house),(1,iv t),(2,a2)],[],up b τ (.dictI true (av f t))⟩):
  lp ((af P n (.del (.var 4) (.var 1) (.nil))).b (.st,[])) (mj true [4]) (IC.keep [0,1,2]) K' (.obj τ::vs) ⟨[(0,.obj .house),(1,iv t),(2,a2)],[],b⟩:=by
 refine a7 (x:=g7 [] b τ) ((d3 q).trans e) ?_
 refine⟨h,?_⟩
 exact(put_n q).mpr ⟨_,rfl,ci k rfl⟩
theorem l40b{a2:AV}{K':KB}(h0:(E.root t).isSome=true)(h1:(E.mem t).isSome=true)(h2:(E.use t).isSome=true)(h3:(E.val t).isSome=true)(hk:K' .next ⟨[(0,.obj .house),(1,iv t),(2,a2)],[],hp P (g.put t (hp P g K E)) K {E with toCor:=E.toCor.del t}⟩):(af P n (.forh 4 (.cons (.att (.var 0) 1) (.cons (.att (.var 0) 2) (.cons (.att (.var 0) 3) (.cons (.att (.var 0) 4) (.cons (.att (.var 0) 5) (.cons (.att (.var 0) 6) (.nil))))))) (.del (.var 4) (.var 1) (.nil)) [0,1,2] (.nil))).b (.st,[]) ⟨[(0,.obj .house),(1,iv t),(2,a2)],[],hp P g K E⟩ K':=by
 refine A3 (P:=P) (n:=n) (b:=hp P g K E) (τ:= .root) (f:=λs=>(E.root s).map iv) rfl rfl (isM h0) ?_
 refine A3 (P:=P) (n:=n) (b:=lv1 P g K E t) (τ:= .dct .mem) (f:=λs=>(E.mem s).map λ_=> .obj (.ls .mem s)) rfl rfl (isM h1) ?_
 refine A3 (P:=P) (n:=n) (b:=lv2 P g K E t) (τ:= .dct .use) (f:=λs=>(E.use s).map λ_=> .obj (.ls .use s)) rfl rfl (isM h2) ?_
 refine A3 (P:=P) (n:=n) (b:=lv3 P g K E t) (τ:= .value) (f:=λs=>(E.val s).map iv) rfl rfl (isM h3) ?_
 refine A3 (P:=P) (n:=n) (b:=lv4 P g K E t) (τ:= .dct .apt) (f:=λs=>(E.root s).map λ_=> .obj (.ls .apt s)) rfl rfl (isM h0) ?_
 refine A3 (P:=P) (n:=n) (b:=lv5 P g K E t) (τ:= .dct .wat) (f:=λs=>(E.root s).map λ_=> .obj (.ls .wat s)) rfl rfl (isM h0) ?_
 exact(cGx (λb=>K' .next ⟨[(0,.obj .house),(1,iv t),(2,a2)],[],b⟩) Mc).mpr hk
theorem l40f{a2:AV}{c:IC}(e:c=⟨[(0,.obj .house),(1,iv t),(2,a2)],[],hp P g K E⟩){K':KB}(h0:(E.root t).isSome=true)(h1:(E.mem t).isSome=true)(h2:(E.use t).isSome=true)(h3:(E.val t).isSome=true)(hk:K' .next ⟨[(0,.obj .house),(1,iv t),(2,a2)],[],hp P (g.put t (hp P g K E)) K {E with toCor:=E.toCor.del t}⟩):
  th (λc=>(af P n (.forh 4 (.cons (.att (.var 0) 1) (.cons (.att (.var 0) 2) (.cons (.att (.var 0) 3) (.cons (.att (.var 0) 4) (.cons (.att (.var 0) 5) (.cons (.att (.var 0) 6) (.nil))))))) (.del (.var 4) (.var 1) (.nil)) [0,1,2] (.nil))).b (.st,[]) c K') K' .next c:=(cGx (λc=>(af P n (.forh 4 (.cons (.att (.var 0) 1) (.cons (.att (.var 0) 2) (.cons (.att (.var 0) 3) (.cons (.att (.var 0) 4) (.cons (.att (.var 0) 5) (.cons (.att (.var 0) 6) (.nil))))))) (.del (.var 4) (.var 1) (.nil)) [0,1,2] (.nil))).b (.st,[]) c K') e).mpr (l40b h0 h1 h2 h3 hk)
noncomputable abbrev Eng.gone(E:Eng)(t:Int):Eng:={E with toCor:=E.toCor.del t}
theorem l40n(h0:(E.root t).isSome=true)(h1:(E.mem t).isSome=true)(h2:(E.use t).isSome=true)(h3:(E.val t).isSome=true):FnI P (n+1) .st 40 [.obj .house,iv t,.dat (.list (zs []))] (hp P g K E) (.dat .none) (hp P (g.put t (hp P g K E)) K (E.gone t)):=by
 refine enter c40 rt rt ?_
 exact l40f rfl h0 h1 h2 h3 b9
theorem l40a(hu:E.use r=some (l++[x]))(hl:l.length<=1000000)(h0:(E.root t).isSome=true)(h1:(E.mem t).isSome=true)(h2:((a6 E.use r l) t).isSome=true)(h3:(E.val t).isSome=true):FnI P (n+1) .st 40 [.obj .house,iv t,.dat (.list (zs [r]))] (hp P g K E) (.dat .none) (hp P (g.put t (hp P g K {E with use:=a6 E.use r l})) K (Eng.gone {E with use:=a6 E.use r l} t)):=by
 refine enter c40 rt rt ?_
 refine a7 (x:=(E.use r).map λ_=>AV.obj (.ls .use r)) (cGx (Option.map _) hu) ?_
 refine a7 (x:=dy E.use (g.ls .use) r) (ga g hu) (a7 (x:=dy E.use (g.ls .use) r) (ga g hu) ?_)
 refine⟨(zs l).map .dat,iv x,zs_snoc.symm,ai (ac hl),a8 (Ht (l:=l) (by rw [hu];rfl) rfl) ?_⟩
 exact l40f (E:={E with use:=a6 E.use r l}) rfl h0 h1 h2 h3 b9
theorem e_setm(k:(E.mem t).isSome=true){d:List AV}(h:d=(zs l).map .dat):up (up (hp P g K E) (.ls .mem t) (.list true d)) (.dct .mem) (.dictI true (a6 (λs=>(E.mem s).map λ_=> .obj (.ls .mem s)) t (.obj (.ls .mem t))))=hp P g K {E with mem:=a6 E.mem t l}:=
 (cGx (λb=>up b (.dct .mem) _) (e_mem k h)).trans (b5 (λ_ _=>rfl) dct_new.symm)
theorem e_setu(k:(E.use t).isSome=true){d:List AV}(h:d=(zs l).map .dat):up (up (hp P g K E) (.ls .use t) (.list true d)) (.dct .use) (.dictI true (a6 (λs=>(E.use s).map λ_=> .obj (.ls .use s)) t (.obj (.ls .use t))))=hp P g K {E with use:=a6 E.use t l}:=
 (cGx (λb=>up b (.dct .use) _) (Ht k h)).trans (b5 (λ_ _=>rfl) dct_new.symm)
theorem e_seta(h:E.root t=some r):up (up (hp P g K E) (.ls .apt t) (.list true [])) (.dct .apt) (.dictI true (a6 (λs=>(E.root s).map λ_=> .obj (.ls .apt s)) t (.obj (.ls .apt t))))=hp P g K E:=
 (cGx (λb=>up b (.dct .apt) _) (b5 (σ':=hp P g K E) (τ:= .ls .apt t) (o:= .list true []) (λ_ _=>rfl) (by exact f9 g h))).trans (b5 (λ_ _=>rfl) ((dct_new (y:=r)).trans (cGx some (nv (cGx kq h)))).symm)
theorem e_setw(h:E.root t=some r):up (up (hp P g K E) (.ls .wat t) (.list true [])) (.dct .wat) (.dictI true (a6 (λs=>(E.root s).map λ_=> .obj (.ls .wat s)) t (.obj (.ls .wat t))))=hp P g K E:=
 (cGx (λb=>up b (.dct .wat) _) (b5 (σ':=hp P g K E) (τ:= .ls .wat t) (o:= .list true []) (λ_ _=>rfl) (by exact ib g h))).trans (b5 (λ_ _=>rfl) ((dct_new (y:=r)).trans (cGx some (nv (cGx kq h)))).symm)
theorem L7{b:Tg->Option AObj}{τ τ':Tg}{o o':AObj}(n:τ≠τ'):up (up b τ o) τ' o'=up (up b τ' o') τ o:=b5 (λs e=>by
 by_cases q:s=τ
 ·rw [q,ba,ba]
 ·rw [bc q,bc q,bc e]) ((bc n.symm).trans ba)
noncomputable def g8(l:List Int)(x:Int)(f:Int->Option Int):Int->Option Int:=l.foldl (λf t=>a6 f t x) f
theorem Db{f:Int->Option Int}{t x v:Int}(h:(f v).isSome=true):(a6 f t x v).isSome=true:=by
 unfold a6;split
 ·rfl
 ·exact h
theorem l41r{small large m:Int}{l':AObj}{d v:AV}:∀{l:List Int},(∀t∈l,rng t=true)->∀{E:Eng},(∀t∈l,(E.root t).isSome=true)->∀{k:KB},k .next ⟨[(0,.obj .house),(1,iv small),(2,iv large),(3,d),(4,v)],[],up (hp P g K {E with root:=g8 l small E.root}) (.ls .mem m) l'⟩->
  lp ((af P n (.seti (.var 1) (.att (.var 0) 1) (.var 5) (.nil))).b (.st,[.ls .mem m])) (mj true [5]) (IC.keep [0,1,2,3,4]) k ((zs l).map .dat) ⟨[(0,.obj .house),(1,iv small),(2,iv large),(3,d),(4,v)],[],up (hp P g K E) (.ls .mem m) l'⟩:=by
 intro l hr
 induction l with
 |nil=>exactλ_ k hk=>hk
 |cons t l ih=>
  intro E hs k hk
  refine⟨hr t (.head _),a8 ((L7 (Tg.noConfusion)).trans (cGx (λb=>up b (.ls .mem m) l') (e_root (t:=t) (x:=small) (hs t (.head _)) e9))) ?_⟩
  exact ci (ih (λs q=>hr s (.tail _ q)) (E:={E with root:=a6 E.root t small}) (λs q=>Db (hs s (.tail _ q))) hk) rfl
theorem take_zs{j:Nat}:((zs l).map AV.dat).take j=(zs (l.take j)).map AV.dat:=by unfold zs;rw [<-xj,<-xj]
theorem hk_zs{τ:Tg}{w:Bool}{j:Nat}:fw τ (.list w (((zs l).map AV.dat).take j)):=take_zs▸λ_ m=>(jf.mp m).elim λ_ e=>e.2▸trivial
theorem o0{U:Tg->Prop}:∀v∈(zs l).map AV.dat,v.keeps U:=λ_ m=>(jf.mp m).elim λ_ e=>e.2▸trivial
theorem l41{small large:Int}{lm lu ls:List Int}{a b:Nat}(hr:E.root large=some r)(hm:E.mem large=some lm)(hu:E.use large=some lu)(hg:rng large=true)(hs:(a6 E.mem large (lm.take a)) small=some ls)(rg:∀t∈ls,rng t=true/\(E.root t).isSome=true)(b1:lm.length<=1000000)(b2:lu.length<=1000000):
  Me P (n+1) 41 .st [iv small,iv large,.dat (.tuple [.int a,.int b,.int 0,.int 0]),iv v] g K E (.dat .none) {E with mem:=a6 E.mem large (lm.take a),use:=a6 E.use large (lu.take b),val:=a6 E.val large v,root:=g8 ls small E.root}:=by
 refine enter c41 rt rt ?_
 refine a7 (x:=(E.mem large).map λ_=>AV.obj (.ls .mem large)) (cGx (Option.map _) hm) ?_
 refine a7 (x:=dy E.mem (g.ls .mem) large) (em g hm) (a7 (a:=(true,(zs lm).map AV.dat)) rfl (a7 (x:=fq none (some (a:Int)) none ((zs lm).map AV.dat)) slOf_take ⟨ai (ac b1),?_⟩))
 refine⟨hk_zs,hg,a8 (e_setm (by rw [hm];rfl) take_zs) ?_⟩
 refine a7 (x:=(E.use large).map λ_=>AV.obj (.ls .use large)) (cGx (Option.map _) hu) ?_
 refine a7 (x:=dy E.use (g.ls .use) large) (ga g hu) (a7 (a:=(true,(zs lu).map AV.dat)) rfl (a7 (x:=fq none (some (b:Int)) none ((zs lu).map AV.dat)) slOf_take ⟨ai (ac b2),?_⟩))
 refine⟨hk_zs,hg,a8 (e_setu (E:={E with mem:=a6 E.mem large (lm.take a)}) (by rw [hu];rfl) take_zs) ?_⟩
 refine a7 (x:=(E.root large).map λ_=>AV.obj (.ls .apt large)) (cGx (Option.map _) hr) ?_
 refine a7 (x:=dy (λt=>(E.root t).map λ_=>[]) (g.ls .apt) large) (f9 g hr) (a7 (a:=(true,[])) rfl (a7 (x:=fq none (some ((0:Nat):Int)) none ([]:List AV)) slOf_take ⟨(by decide:0<=1000000),?_⟩))
 refine⟨dp,hg,a8 (e_seta (E:={E with mem:=a6 E.mem large (lm.take a),use:=a6 E.use large (lu.take b)}) hr) ?_⟩
 refine a7 (x:=(E.root large).map λ_=>AV.obj (.ls .wat large)) (cGx (Option.map _) hr) ?_
 refine a7 (x:=dy (λt=>(E.root t).map λ_=>[]) (g.ls .wat) large) (ib g hr) (a7 (a:=(true,[])) rfl (a7 (x:=fq none (some ((0:Nat):Int)) none ([]:List AV)) slOf_take ⟨(by decide:0<=1000000),?_⟩))
 refine⟨dp,hg,a8 (e_setw (E:={E with mem:=a6 E.mem large (lm.take a),use:=a6 E.use large (lu.take b)}) hr) ?_⟩
 refine⟨hg,a8 (e_val (E:={E with mem:=a6 E.mem large (lm.take a),use:=a6 E.use large (lu.take b)}) e9) ?_⟩
 refine og (b:=hp P g K {E with mem:=a6 E.mem large (lm.take a),use:=a6 E.use large (lu.take b),val:=a6 E.val large v}) (τ:= .ls .mem small) (by exact em (E:={E with mem:=a6 E.mem large (lm.take a)}) g hs) fy rfl ?_
 refine a7 (x:=((a6 E.mem large (lm.take a)) small).map λ_=>AV.obj (.ls .mem small)) (cGx (Option.map _) hs) ?_
 refine a7 (a:= .list false ((zs ls).map .dat)) (by exact ba) ?_
 refine⟨o0,?_⟩
 show lp _ _ _ _ ((zs ls).map .dat) _
 refine ci (l41r (E:={E with mem:=a6 E.mem large (lm.take a),use:=a6 E.use large (lu.take b),val:=a6 E.val large v}) (λt m=>(rg t m).1) (λt m=>(rg t m).2) ?_) rfl
 exact l9 (b:=hp P g K {E with mem:=a6 E.mem large (lm.take a),use:=a6 E.use large (lu.take b),val:=a6 E.val large v,root:=g8 ls small E.root}) (τ:= .ls .mem small) rfl (by exact em (E:={E with mem:=a6 E.mem large (lm.take a)}) g hs) b9
variable{g':Aside}{E':Eng}{a b o:Int}{en hs:List Int}
noncomputable def Aside.by(g:Aside)(en:List Int):Aside:={g with b:=λk=>if k=0 then Mine.Internal.ls (zs en) else if k=1 then Mine.Internal.ls [] else g.b k}
theorem e_byr:up (hp P (g.by en) K E) (.byr 0) (.list true ((zs en).map .dat++[iv t]))=hp P (g.by (en++[t])) K E:=b5 (λτ h=>by
 cases τ with
 |byr k=>exact(if_neg λe=>h (cGx _ e)).trans (if_neg λe=>h (cGx _ e)).symm
 |ls k t=>cases k<;>rfl
 |dct k=>cases k<;>rfl
 |_=>rfl) (cGx (λl=>some (AObj.list true l)) zs_snoc.symm)
abbrev U39(P:Prg)(n:Nat)(x:Ent)(b b':Tg->Option AObj):Prop:=FnI P n .st 39 [.obj .house,.dat (u7 x),.obj (.byr 0),.obj (.byr 1)] b (.dat .none) b'
variable{u:Mo}{c:IC}{m m' kk:M}{s1 s2:Str}{K':KB}{ds:List PyData}{Q:KE}
theorem uj(h:c.ρ.lookup 4=some (.dat (.str s1)))(l:(lay (.str s1)&&lay (.str s2))=true)(e:Cc (.str s1) (.str s2)=false)(q:(af P n m').b u c (th (λc2=>(af P n kk).b u c2 K') K')):(af P n (.ifs (.cmp .eq (.var 4) (.con (.str s2))) m m' kk)).b u c K':=
 a7 h (dw l (ax e q))
theorem D3(h:c.ρ.lookup 4=some (.dat (.str s1)))(l:(lay (.str s1)&&lay (.str s2))=true)(e:Cc (.str s1) (.str s2)=true)(q:(af P n m).b u c (th (λc2=>(af P n kk).b u c2 K') K')):(af P n (.ifs (.cmp .eq (.var 4) (.con (.str s2))) m m' kk)).b u c K':=
 a7 h (dw l (b8 e q))
theorem vc{i:Nat}(q:(af P n m).e u c λa c1=>(af P n kk).b u (c1.set i a) K'):(af P n (.set i m kk)).b u c K':=q
theorem Eh{d:PyData}(h:c.ρ.lookup 1=some (.dat (.tuple (d::ds))))(q:Q (.dat d) c):(af P n (.sub (.var 1) (.con (.int 0)))).e u c Q:=a7 h q
theorem l39e(h:FnI P n .st 40 [.obj .house,iv t,.dat (.list (zs hs))] (hp P (g.by en) K E) (.dat .none) (hp P (g'.by en) K E'))(hl:en.length<=1000000):U39 P (n+1) (.enter t hs) (hp P (g.by en) K E) (hp P (g'.by (en++[t])) K E'):=by
 refine enter c39 rt rt ?_
 refine vc (Eh rfl ?_)
 refine D3 (s1:=S "enter") rfl (by kernel_rfl) (by kernel_rfl) ?_
 refine b7 h rt ?_
 exact⟨ai (ac hl),a8 e_byr b9⟩
theorem l39n(h:(E.tab [a,b]).isSome=true):U39 P (n+1) (.table [a,b] none) (hp P g K E) (hp P g K {E with tab:=av E.tab [a,b]}):=by
 refine enter c39 rt rt ?_
 refine vc (Eh rfl ?_)
 refine uj (s1:=S "table") rfl (by kernel_rfl) (by kernel_rfl) ?_
 refine D3 (s1:=S "table") rfl (by kernel_rfl) (by kernel_rfl) ?_
 exact⟨(wu ..).trans h,a8 (Hq Iv) b9⟩
theorem l39s(h1:rng a=true)(h2:rng b=true):U39 P (n+1) (.table [a,b] (some o)) (hp P g K E) (hp P g K {E with tab:=a6 E.tab [a,b] o}):=by
 refine enter c39 rt rt ?_
 refine vc (Eh rfl ?_)
 refine uj (s1:=S "table") rfl (by kernel_rfl) (by kernel_rfl) ?_
 refine D3 (s1:=S "table") rfl (by kernel_rfl) (by kernel_rfl) ?_
 exact⟨tk_ok h1 h2,a8 (Hq Iw) b9⟩
theorem l39j{small large:Int}{lm lu:Nat}(h:Me P n 41 .st [iv small,iv large,.dat (.tuple [.int lm,.int lu,.int 0,.int 0]),iv v] g K E (.dat .none) E'):U39 P (n+1) (.join small large lm lu v) (hp P g K E) (hp P g K E'):=by
 refine enter c39 rt rt ?_
 refine vc (Eh rfl ?_)
 refine uj (s1:=S "join") rfl (by kernel_rfl) (by kernel_rfl) ?_
 refine uj (s1:=S "join") rfl (by kernel_rfl) (by kernel_rfl) ?_
 refine D3 (s1:=S "join") rfl (by kernel_rfl) (by kernel_rfl) ?_
 exact b7 h rt b9
theorem l39h{left top:Int}{a2 a3 a4:AV}{k:KB}(hs:(E.up left).isSome=true)(h:Me P n 23 .st [iv top] g K {E with up:=av E.up left} (iv r) E')(q:(leU (.st,[]) .st&&([(0,.obj .house),(1,.dat (u7 (.edge left top))),(2,a2),(3,a3),(4,a4)].all λp=>kpU .st p.2)&&kpn (iv r))=true)(hk:k .next ⟨[(0,.obj .house),(1,.dat (u7 (.edge left top))),(2,a2),(3,a3),(4,a4)],[],hp P g K E'⟩):
  (af P n (.del (.att (.var 0) 7) (.sub (.var 1) (.con (.int 1))) (.ex (.met (.var 0) 23 (.cons (.sub (.var 1) (.con (.int 2))) (.nil))) (.nil)))).b (.st,[]) ⟨[(0,.obj .house),(1,.dat (u7 (.edge left top))),(2,a2),(3,a3),(4,a4)],[],hp P g K E⟩ k:=by
 refine⟨(wu ..).trans hs,a8 (e_up p8) ?_⟩
 exact b7 h q hk
theorem l39g{left top:Int}(hs:(E.up left).isSome=true)(h:Me P n 23 .st [iv top] g K {E with up:=av E.up left} (iv r) E'):U39 P (n+1) (.edge left top) (hp P g K E) (hp P g K E'):=by
 refine enter c39 rt rt ?_
 refine vc (Eh rfl ?_)
 refine uj (s1:=S "edge") rfl (by kernel_rfl) (by kernel_rfl) ?_
 refine uj (s1:=S "edge") rfl (by kernel_rfl) (by kernel_rfl) ?_
 refine uj (s1:=S "edge") rfl (by kernel_rfl) (by kernel_rfl) ?_
 refine D3 (s1:=S "edge") rfl (by kernel_rfl) (by kernel_rfl) ?_
 exact l39h hs h rt b9
end
section
noncomputable abbrev Eng.at(E:Eng)(C:Cor):Eng:={E with toCor:=C}
def Kn(f:Int->Option Int)(t:Int):Prop:=∃r,f t=some r
def Grw(C1 C2:Cor)(en:List Int):Prop:=(∀z,Kn C2.root z↔Kn C1.root z\/z∈en)/\(en=[]\/∃t,en=[t]/\C1.root t=none/\t∈TT/\∀x,Ap t x->Kn C1.root x)
section
variable(P:Prg)(K:Bks)
def Un(x:Ent)(C1 C0:Cor)(en:List Int):Prop:=∀(n:Nat) (g:Aside) (E:Eng) (en0:List Int),en0.length<=2000->∃g':Aside,g'.r=g.r/\U39 P (n+2) x (hp P (g.by en0) K (E.at C1)) (hp P (g'.by (en0++en)) K (E.at C0))
inductive Bck(C:Cor):Cor->List Ent->List Int->Prop
 |same:Bck C C [] []
 |snoc {C1 C2:Cor} {seg:List Ent} {ent en:List Int} {x:Ent}:Bck C C1 seg ent->Un P K x C2 C1 en->Grw C1 C2 en->Bck C C2 (seg++[x]) (ent++en)
inductive Stp(E E':Eng):Prop
 |mk (seg:List Ent) (ent:List Int) (h:E'.trail=E.trail++seg) (b:Bck P K E.toCor E'.toCor seg ent)
end
variable{P:Prg}{K:Bks}{C C1 C2:Cor}{E E1 E2:Eng}{seg s1 s2:List Ent}{ent en e1 e2:List Int}{x:Ent}{n:Nat}{t a b o v:Int}
theorem Bck.trans(a:Bck P K C C1 s1 e1)(b:Bck P K C1 C2 s2 e2):Bck P K C C2 (s1++s2) (e1++e2):=by
 induction b with
 |same=>rw [jk,jk];exact a
 |snoc b u h ih=>rw [<-jy,<-jy];exact .snoc ih u h
theorem Stp.refl:Stp P K E E:=⟨[],[],(jk _).symm,.same⟩
theorem Stp.trans(a:Stp P K E E1)(b:Stp P K E1 E2):Stp P K E E2:=
 a.rec λs1 e1 t1 b1=>b.rec λs2 e2 t2 b2=>⟨s1++s2,e1++e2,t2.trans (t1▸jy ..),b1.trans b2⟩
theorem Un.stp(u:Un P K x E1.toCor E.toCor en)(h:E1.trail=E.trail++[x])(q:Grw E.toCor E1.toCor en):Stp P K E E1:=⟨[x],en,h,.snoc (seg:=[]) (ent:=[]) .same u q⟩
theorem Grw.rev(h:Grw C C1 en):en.reverse=en:=h.2.elim (λh=>h▸rfl) λh=>h.elim λ_ h=>h.1▸rfl
theorem Grw.same(h:∀z,Kn C1.root z↔Kn C.root z):Grw C C1 []:=⟨λz=>(h z).trans (or_iff_left (λh=>(by nomatch h))).symm,.inl rfl⟩
theorem Bck.mono(b:Bck P K C C1 seg ent):∀z,Kn C.root z->Kn C1.root z:=by
 induction b with
 |same=>exactλ_ h=>h
 |snoc _ _ q ih=>exactλz h=>(q.1 z).mpr (.inl (ih z h))
theorem Grw.len(h:Grw C C1 en):en.length<=1:=h.2.elim (λh=>h▸jo _) λh=>h.elim λ_ h=>h.1▸jc _
theorem Bck.len(b:Bck P K C C1 seg ent):ent.length<=seg.length:=by
 induction b with
 |same=>exact jc _
 |snoc _ _ q ih=>rw [je,je];exact xc ih q.len
theorem M0{K α:Type}[DecidableEq K]{f:K->Option α}{k:K}{u:α}(h:f k=some u):a6 (av f k) k u=f:=funext λz=>by
 by_cases e:z=k
 ·rw [e,ag,h]
 ·rw [ah e,io e]
theorem ny{K α:Type}[DecidableEq K]{f:K->Option α}{k:K}{u v:α}(h:f k=some u):a6 (a6 f k v) k u=f:=funext λz=>by
 by_cases e:z=k
 ·rw [e,ag,h]
 ·rw [ah e,ah e]
theorem M3{K α:Type}[DecidableEq K]{f:K->Option α}{k:K}{u:α}(h:f k=some u):a6 f k u=f:=funext λz=>by
 by_cases e:z=k
 ·rw [e,ag,h]
 ·rw [ah e]
theorem un_tabN(h:C.tab [a,b]=none):Un P K (.table [a,b] none) {C with tab:=a6 C.tab [a,b] t} C []:=λn g E en0 _=>⟨g,rfl,by
 have q:=l39n (P:=P) (n:=n+1) (g:=g.by en0) (K:=K) (E:=E.at {C with tab:=a6 C.tab [a,b] t}) (a:=a) (b:=b) (cGx kq ag)
 rw [jk];rw [f4 h] at q;exact q⟩
theorem un_tabS(h:C.tab [a,b]=some t)(h1:rng a=true)(h2:rng b=true):Un P K (.table [a,b] (some t)) {C with tab:=av C.tab [a,b]} C []:=λn g E en0 _=>⟨g,rfl,by
 have q:=l39s (P:=P) (n:=n+1) (g:=g.by en0) (K:=K) (E:=E.at {C with tab:=av C.tab [a,b]}) (o:=t) h1 h2
 rw [jk];rw [M0 h] at q;exact q⟩
theorem un_edge{left top:Int}{up':Up}(hs:(up' left).isSome=true)(hu:∀{n:Nat} {g:Aside} {E2:Eng},E2.up=up'->Me P (n+1) 23 .st [iv top] g K {E2 with up:=av E2.up left} (iv left) {E2 with up:=C.up}):Un P K (.edge left top) {C with up:=up'} C []:=λn g E en0 _=>⟨g,rfl,by
 rw [jk];exact l39g (E:=E.at {C with up:=up'}) hs (hu rfl)⟩
noncomputable abbrev Cor.new(C:Cor)(t v:Int):Cor:={C with root:=a6 C.root t t,mem:=a6 C.mem t [t],use:=a6 C.use t [],val:=a6 C.val t v}
theorem Hk(hr:C.root t=none)(hm:C.mem t=none)(hu:C.use t=none)(hv:C.val t=none):(C.new t v).del t=C:=by
 show({C with root:=av (a6 C.root t t) t,mem:=av (a6 C.mem t [t]) t,use:=av (a6 C.use t []) t,val:=av (a6 C.val t v) t}:Cor)=C
 rw [f4 hr,f4 hm,f4 hu,f4 hv]
theorem un_ent0(hr:C.root t=none)(hm:C.mem t=none)(hu:C.use t=none)(hv:C.val t=none):Un P K (.enter t []) (C.new t v) C [t]:=λn g E en0 hl=>
 ⟨g.put t (hp P (g.by en0) K (E.at (C.new t v))),rfl,by
  have q:=l39e (g':=g.put t (hp P (g.by en0) K (E.at (C.new t v)))) (E':=(E.at (C.new t v)).gone t) (l40n (P:=P) (n:=n) (g:=g.by en0) (K:=K) (E:=E.at (C.new t v)) (t:=t) (cGx kq ag) (cGx kq ag) (cGx kq ag) (cGx kq ag)) (ja hl (by decide))
  exact(cGx (λc=>U39 P (n+2) (.enter t []) _ (hp P _ K (E.at c))) (Hk hr hm hu hv)).mp q⟩
theorem un_ent1{h:Int}{l:List Int}(hr:C.root t=none)(hm:C.mem t=none)(hu:C.use t=none)(hv:C.val t=none)(hn:h≠t)(hh:C.use h=some l)(hl:l.length<=1000000):Un P K (.enter t [h]) {C.new t v with use:=a6 (C.new t v).use h (l++[t])} C [t]:=λn g E en0 hl0=>
 ⟨g.put t (hp P (g.by en0) K (E.at (C.new t v))),rfl,by
  have e:a6 (a6 (a6 C.use t []) h (l++[t])) h l=a6 C.use t []:=ny ((ah hn).trans hh)
  have q:=l39e (g':=g.put t (hp P (g.by en0) K (E.at {C.new t v with use:=a6 (a6 (C.new t v).use h (l++[t])) h l}))) (E':=(E.at {C.new t v with use:=a6 (a6 (C.new t v).use h (l++[t])) h l}).gone t) (l40a (P:=P) (n:=n) (g:=g.by en0) (K:=K) (E:=E.at {C.new t v with use:=a6 (C.new t v).use h (l++[t])}) (t:=t) (x:=t) (r:=h) (l:=l) ag hl (cGx kq ag) (cGx kq ag) ((cGx (λf=>(f t).isSome) e).trans (cGx kq ag)) (cGx kq ag)) (ja hl0 (by decide))
  rw [e] at q
  exact(cGx (λc=>U39 P (n+2) (.enter t [h]) _ (hp P _ K (E.at c))) (Hk hr hm hu hv)).mp q⟩
noncomputable def o9(f:Int->Option Int)(l:List Int)(x:Int):Int->Option Int:=λz=>if z∈l then some x else f z
theorem rt_all{x:Int}{l:List Int}:∀{f:Int->Option Int},g8 l x f=o9 f l x:=by
 induction l with
 |nil=>exactλ{f}=>funext λz=>(if_neg (λh=>(by nomatch h))).symm
 |cons t ts ih=>
  exactλ{f}=>(ih (f:=a6 f t x)).trans (funext λz=>by
   unfold o9
   by_cases q:z∈ts
   ·rw [if_pos q,if_pos (List.mem_cons_of_mem _ q)]
   ·rw [if_neg q]
    by_cases e:z=t
    ·rw [e,ag,if_pos (List.mem_cons_self)]
    ·rw [ah e,if_neg λh=>(jh.mp h).elim e q])
theorem at_back{f:Int->Option Int}{l:List Int}{x y:Int}(h:∀t∈l,f t=some y):g8 l y (o9 f l x)=f:=rt_all.trans (funext λz=>by
 unfold o9
 by_cases q:z∈l
 ·rw [if_pos q,h z q]
 ·rw [if_neg q,if_neg q])
theorem un_join{small large r v:Int}{m1 m2 u1 u2:List Int}{V:Int->Option Int}(hne:small≠large)(hr0:o9 C.root m2 large large=some r)(hm1:C.mem large=some m1)(hu1:C.use large=some u1)(hV:a6 V large v=C.val)(hm2:C.mem small=some m2)(hr:∀t∈m2,C.root t=some small)
  (hg:rng large=true) (rg:∀t∈m2,rng t=true) (b1:(m1++m2).length<=1000000) (b2:(u1++u2).length<=1000000):
  Un P K (.join small large m1.length u1.length v) {C with root:=o9 C.root m2 large,mem:=a6 C.mem large (m1++m2),use:=a6 C.use large (u1++u2),val:=V} C []:=λn g E en0 _=>⟨g,rfl,by
 have q:=l39j (l41 (P:=P) (n:=n) (g:=g.by en0) (K:=K) (E:=E.at {C with root:=o9 C.root m2 large,mem:=a6 C.mem large (m1++m2),use:=a6 C.use large (u1++u2),val:=V}) (small:=small) (ls:=m2) (a:=m1.length) (b:=u1.length) (v:=v) hr0 ag ag hg ((ah hne).trans ((ah hne).trans hm2)) (λt m=>⟨rg t m,cGx kq (if_pos m:o9 C.root m2 large t=some large)⟩) b1 b2)
 rw [jk]
 rw [List.take_left,List.take_left,ny hm1,ny hu1,hV,at_back hr] at q
 exact q⟩
end
section
variable{P:Prg}{g:Aside}{K:Bks}{C C1 C2:Cor}{E:Eng}{seg tr:List Ent}{ent en:List Int}{x:Ent}{n:Nat}{t b:Int}
theorem len2{l:List Ent}:(((l.map u7).map AV.dat).length:Int)=l.length:=cGx Nat.cast ((jb _).trans (jb _))
theorem gc{α:Type}{l m:List α}{k:Nat}(h:(l++m).length<=k):l.length<=k:=ja (ja (ji _ _) (jd je.symm)) h
noncomputable abbrev uCx(nn:AV)(spot:Nat)(b:Tg->Option AObj):IC:=⟨[(0,.obj .house),(1,nn),(2,iv spot),(3,.obj (.byr 0)),(4,.obj (.byr 1))],[],b⟩
theorem undo_w{m:Int}(b:Bck P K C C1 seg ent):∀{g:Aside} {en0:List Int},en0.length+ent.length<=2000->(tr++seg).length<=1000000->∃g':Aside,g'.r=g.r/\∀{k:KB},k .next (uCx (iv m) tr.length (hp P (g'.by (en0++ent.reverse)) K {E with toCor:=C,trail:=tr}))->
  wh ((af P (n+2) (.cmp .gt (.blt .len (.cons (.att (.var 0) 15) (.nil))) (.var 2))).t (.s2,[])) ((af P (n+2) (.ex (.met (.var 0) 39 (.cons (.lm (.att (.var 0) 15) .pop (.nil)) (.cons (.var 3) (.cons (.var 4) (.nil))))) (.nil))).b (.s2,[])) (IC.keep [0,1,2,3,4]) k (seg.length+1) (uCx (iv m) tr.length (hp P (g.by en0) K {E with toCor:=C1,trail:=tr++seg})):=by
 induction b with
 |same=>
  intro g en0 _ hl
  refine⟨g,rfl,λ{k} hk=>⟨ai (ac hl),ax (dFx ?_) ?_⟩⟩
  ·rw [jk,len2];exact Int.lt_irrefl _
  ·rw [jk];rw [List.reverse_nil,jk] at hk;exact hk
 | @snoc C1 C2 seg ent en x b u q ih=>
  intro g en0 h hl
  rw [je] at h
  rw [(je:(seg++[x]).length=seg.length+1)]
  rw [<-jy] at hl⊢
  refine(u n g {E with trail:=tr++seg} en0 (ja (ji _ _) h)).elim λg' f=> ?_
  refine(ih (g:=g') (en0:=en0++en) (by rw [je,qh,we en.length];exact h) (gc hl)).imp λg2 w=>⟨w.1.trans f.1,λ{k} hk=> ?_⟩
  refine⟨ai (ac hl),b8 (dTx ?_) ?_⟩
  ·rw [len2,jy,je];exact qz.mpr (ya (je▸qy _))
  refine⟨((tr++seg).map u7).map .dat,.dat (u7 x),map_snoc.symm,ai (ac (gc hl)),a8 (Hr rfl) ?_⟩
  refine b7 f.2 rt ?_
  refine nq (w.2 ?_) rfl
  rw [List.reverse_append,q.rev,<-jy] at hk
  exact hk
theorem ix_mid{mk0 mk1:List Int}{s m:Int}(h:m=mk1.length+1):((((zs (mk0++s::mk1)).map AV.dat).length:Int)-m)=mk0.length:=by
 rw [i8,je,List.length_cons,h,Int.natCast_add,Int.natCast_add];exact wc ..
theorem ix_s{mk0 mk1:List Int}{s:Int}:ao (mk0.length:Int) ((zs (mk0++s::mk1)).map AV.dat)=some (iv s):=by
 unfold ao zs
 rw [if_pos (wz _),jt]
 show(List.map _ _)[mk0.length]? =_
 rw [jw,yk (jc _),Nat.sub_self];rfl
theorem e_qmarks{l:List Int}:up (up (hp P g K E) .marks (.list true ((zs l).map .dat))) .house (.inst P.C (my E.clash E.clv))=hp P g K {E with marks:=l}:=
 (cGx (λb=>up b .house _) (Ho rfl)).trans (nw (E:={E with marks:=l}) rfl)
theorem Cs:up (up (hp P g K E) .queue (.list true [])) .house (.inst P.C (my E.clash E.clv))=hp P g K {E with queue:=[]}:=
 (cGx (λb=>up b .house _) (Hp (l:=[]) rfl)).trans (nw (E:={E with queue:=[]}) rfl)
theorem e_by0:up (up (hp P g K E) (.byr 0) (.list true [])) (.byr 1) (.list true [])=hp P (g.by []) K E:=funext λτ=>by
 cases τ with
 |byr k=>cases k with
  |zero=>rfl
  |succ k=>cases k<;>rfl
 |ls k t=>cases k<;>rfl
 |dct k=>cases k<;>rfl
 |_=>rfl
variable{E1 E2:Eng}{mk0 mk1:List Int}{m:Int}{spot:Nat}{c:Option (List Int)}
inductive Chn(S:Int->Eng->Eng->Prop):List Int->Eng->Eng->Prop
 |nil {E:Eng}:Chn S [] E E
 |cons {E E1 E2:Eng} {t:Int} {l:List Int}:S t E E1->Chn S l E1 E2->Chn S (t::l) E E2
abbrev H5(P:Prg)(n id:Nat)(K:Bks)(t:Int)(E E':Eng):Prop:=∀g,Me P n id .st [iv t] g K E (.dat .none) E'
theorem enters_w{g:Aside}{l:List Int}(h:Chn (H5 P n 11 K) l E E1):∀{k:KB},k .next (uCx (iv m) spot (hp P g K E1))->
  lp ((af P n (.ex (.met (.var 0) 11 (.cons (.var 5) (.nil))) (.nil))).b (.s2,[])) (mj true [5]) (IC.keep [0,1,2,3,4]) k ((zs l).map .dat) (uCx (iv m) spot (hp P g K E)):=by
 induction h with
 |nil=>exactλhk=>hk
 |cons h _ ih=>
  intro k hk
  refine b7 (h g) rt ?_
  exact ci (ih hk) rfl
theorem slOf_rev{α:Type}{vs:List α}:fq none none (some (-1)) vs=some vs.reverse:=by
 exact(if_neg λh=>(by nomatch h.2)).trans (if_pos ⟨rfl,rfl,rfl⟩)
section
variable{u:Mo}{c:IC}{vs ws:List AV}{Q:KE}{D:Nat}{cl:Option (List Int)}{v j:Int}{m1 m2 kk:M}{K':KB}{KO':KO}{f:List (Nat×AV)}{i:Nat}{a:AV}{F:IC->Prop}
theorem nil_n(q:F c):(af P n .nil).b u c (th F K'):=q
theorem sub_i(q:(af P n m1).e u c λa c1=>(af P n m2).e (hold a u) c1 λb c2=>subs c2 a b λr=>Q r c2):(af P n (.sub m1 m2)).e u c Q:=q
theorem slu_i(q:(af P n m1).e u c λa c1=>(af P n m2).e (hold a u) c1 λb c2=>rd b.int? λk=>lsv c2 a λvs=>rd (fq none (some k) none vs) λws=>vs.length<=1000000/\KO' (.list true ws) c2):(af P n (.slu m1 m2)).o u c KO':=q
theorem setq_i{y:Nat}{τ:Tg}(q:(af P n m1).o u c λo c1=>stq c1 u y i τ o λc2=>(af P n kk).b u c2 K'):(af P n (.setq y i τ m1 kk)).b u c K':=q
theorem att_i(h0:c.ρ.lookup 0=some (.obj .house))(hh:c.σ .house=some (.inst D f))(hf:f.lookup i=some a)(q:Q a c):(af P n (.att (.var 0) i)).e u c Q:=a7 h0 (a7 (x:=c.σ .house) hh (a7 (x:=f.lookup i) hf q))
theorem lenm(h0:c.ρ.lookup 0=some (.obj .house))(h1:c.ρ.lookup 1=some (iv m))(hh:c.σ .house=some (.inst D (my cl v)))(hm:c.σ .marks=some (.list true vs))(hl:vs.length<=1000000)(e:(vs.length:Int)-m=j)(q:Q (iv j) c):
  (af P n (.bin .sub (.blt .len (.cons (.att (.var 0) 16) (.nil))) (.var 1))).e u c Q:=by
 refine a7 h0 (a7 (x:=c.σ .house) hh (a7 (x:=c.σ .marks) hm ⟨hl,a7 h1 ?_⟩))
 subst e;exact q
theorem slu_q{R:List AV->Prop}(hm:c.σ .marks=some (.list true vs))(e:fq none (some j) none vs=some ws)(hl:vs.length<=1000000)(q:R ws):rd (iv j).int? λk=>lsv c (.obj .marks) λvs=>rd (fq none (some k) none vs) λws=>vs.length<=1000000/\R ws:=
 a7 (x:=c.σ .marks) hm (a7 (x:=fq none (some j) none vs) e ⟨hl,q⟩)
theorem ix_q{R:AV->Prop}(hm:c.σ .marks=some (.list true vs))(e:ao j vs=some a)(hl:vs.length<=1000000)(q:R a):subs c (.obj .marks) (iv j) R:=
 a7 (x:=c.σ .marks) hm (a7 (x:=ao j vs) e ⟨hl,q⟩)
end
theorem hk_all{τ:Tg}{w:Bool}{l:List Int}:fw τ (.list w ((zs l).map .dat)):=λ_ m=>(jf.mp m).elim λ_ e=>e.2▸trivial
theorem Dl{F:IC->Prop}{K':KB}{c:IC}(q:F c):th F K' .next c:=q
theorem clash_w{u:Mo}{cl:Option (List Int)}{kk:M}{K':KB}(hl:E.marks.length<=1000000)(q:(af P n kk).b u (uCx (iv m) spot (hp P g K {E with clash:=if(E.marks.length:Int)<E.clv then none else cl})) K'):
  (af P n (.ifs (.and (.cmp .isnot (.att (.var 0) 13) (.con .none)) (.cmp .lt (.blt .len (.cons (.att (.var 0) 16) (.nil))) (.att (.var 0) 14))) (.seta 0 13 (.con .none) (.nil)) (.nil) kk)).b u (uCx (iv m) spot (hp P g K {E with clash:=cl})) K':=by
 cases cl with
 |none=>
  rw [ite_self] at q
  exact q
 |some l=>
  refine⟨ei hl,?_⟩
  by_cases h:(E.marks.length:Int)<E.clv
  ·rw [if_pos h] at q
   refine b8 (dTx (by rw [i8];exact h)) (a8 (nw (E:={E with clash:=some l}) (c:=none) (v:=E.clv) rfl) ?_)
   exact q
  ·rw [if_neg h] at q
   refine ax (dFx (by rw [i8];exact h)) ?_
   exact q
theorem l38(hm:m=mk1.length+1)(b:Bck P K C E.toCor seg ent)(he:ent.length<=2000)(b1:(mk0++(tr.length:Int)::mk1).length<=1000000)(b2:(tr++seg).length<=1000000)
  (h1:Chn (H5 P (n+2) 11 K) ent {E with toCor:=C,trail:=tr,marks:=mk0,queue:=[],clash:=if(mk0.length:Int)<E.clv then none else E.clash} E1) (h2:∀g,Me P (n+2) 15 .st [] g K E1 (.dat .none) E2):
  ∃g':Aside,g'.r=g.r/\FnI P (n+3) .s2 38 [.obj .house,iv m] (hp P g K {E with marks:=mk0++(tr.length:Int)::mk1,trail:=tr++seg}) (.dat .none) (hp P g' K E2):=by
 refine(undo_w (m:=m) (n:=n) (E:={E with marks:=mk0,queue:=E.queue}) (g:=g) (tr:=tr) b (en0:=[]) (ja (jd (qn _)) he) b2).imp' (λg'=>g'.by ent.reverse) λg' w=>⟨w.1,?_⟩
 refine enter c38 rt rt ?_
 refine ax (dFx (by rw [hm];exact Int.not_le.mpr (Int.lt_add_one_of_le (wz _)))) ?_
 refine nil_n (vc (sub_i (att_i rfl rfl rfl (lenm rfl rfl rfl rfl (ei b1) (ix_mid hm) (ix_q rfl ix_s (ei b1) ?_)))))
 refine setq_i (slu_i (att_i rfl rfl rfl (lenm rfl rfl rfl rfl (ei b1) (ix_mid hm) (slu_q rfl (slOf_take.trans (cGx some (take_zs.trans (cGx (λl=>(zs l).map AV.dat) List.take_left)))) (ei b1) ?_))))
 refine⟨hk_all (w:=true),a8 e_qmarks ?_⟩
 refine⟨dp,a8 rfl ?_⟩
 refine⟨dp,a8 e_by0 ?_⟩
 refine⟨seg.length+1,nq (w.2 ?_) rfl⟩
 refine Dl (setq_i ?_)
 refine⟨dp (w:=true),a8 Cs ?_⟩
 refine clash_w (E:={E with toCor:=C,queue:=[],trail:=tr,marks:=mk0}) (gc b1) ?_
 refine⟨(by decide:0<=1000000),a8 (nw (c:=if(mk0.length:Int)<E.clv then none else E.clash) (v:=E.clv) rfl) ?_⟩
 refine⟨zs ent.reverse,rfl,?_⟩
 refine a7 (x:=fq none none (some (-1)) (zs ent.reverse)) (a:=zs ent) (slOf_rev.trans (cGx some (by unfold zs;rw [<-List.map_reverse,List.reverse_reverse]))) ⟨?_,?_⟩
 ·exact ja (jd ((jb _).trans (List.length_reverse))) (ja he (by decide))
 refine ci (enters_w h1 ?_) rfl
 refine Dl ?_
 refine b7 (h2 _) rt ?_
 exact⟨[],rfl,a7 (x:=fq none none (some (-1)) ([]:List PyData)) (a:=[]) slOf_rev ⟨(by decide:0<=1000000),b9⟩⟩
theorem l38n(hm:m<=0):FnI P (n+1) .s2 38 [.obj .house,iv m] (hp P g K E) (.dat .none) (hp P g K E):=by
 refine enter c38 rt rt ?_
 exact b8 (dTx hm) done
end
section
variable{P:Prg}{n:Nat}{g:Aside}{K:Bks}{E E1 Ea Eb Ed:Eng}{t x v r s l' sm lg va vb:Int}{k:KB}{d:PyData}{us rs:List Int}
noncomputable abbrev jR(l' r:Int)(d:PyData)(sm lg:Int)(us:List Int):List (Nat×AV):=[(0,.obj .house),(1,iv l'),(2,iv r),(3,.dat d),(4,iv sm),(5,iv lg),(6,.dat (.list (zs us)))]
noncomputable def m16t:M:= .sets [4,5] (.cons (.sub (.att (.var 0) 1) (.var 1)) (.cons (.sub (.att (.var 0) 1) (.var 2)) (.nil))) (.ex (.met (.var 0) 22 (.cons (.var 1) (.cons (.var 2) (.cons (.var 3) (.nil))))) (.set 6 (.blt .list (.cons (.sub (.att (.var 0) 3) (.var 4)) (.nil))) (.fori false [7] true (.var 6) (.ex (.met (.var 0) 19 (.cons (.var 7) (.nil))) (.nil)) [0,1,2,3,4,5,6] (.ex (.lm (.att (.var 0) 15) .append (.cons (.tup (.cons (.con (.str (S "join"))) (.cons (.var 4) (.cons (.var 5) (.cons (.met (.var 0) 18 (.cons (.var 5) (.nil))) (.cons (.sub (.att (.var 0) 4) (.var 5)) (.nil))))))) (.nil))) (.fori true [7] true (.sub (.att (.var 0) 2) (.var 4)) (.seti (.var 5) (.att (.var 0) 1) (.var 7) (.nil)) [0,1,2,3,4,5,6] (.ex (.lm (.sub (.att (.var 0) 2) (.var 5)) .extend (.cons (.sub (.att (.var 0) 2) (.var 4)) (.nil))) (.ex (.lm (.sub (.att (.var 0) 3) (.var 5)) .extend (.cons (.sub (.att (.var 0) 3) (.var 4)) (.nil))) (.ex (.lm (.sub (.att (.var 0) 5) (.var 5)) .extend (.cons (.sub (.att (.var 0) 5) (.var 4)) (.nil))) (.ex (.lm (.sub (.att (.var 0) 6) (.var 5)) .extend (.cons (.sub (.att (.var 0) 6) (.var 4)) (.nil))) (.sets [8,9] (.cons (.sub (.att (.var 0) 4) (.var 4)) (.cons (.sub (.att (.var 0) 4) (.var 5)) (.nil))) (.ifs (.cmp .eq (.var 9) (.con (.int 0))) (.seti (.var 8) (.att (.var 0) 4) (.var 5) (.nil)) (.nil) (.fori false [7] true (.var 6) (.ex (.met (.var 0) 13 (.cons (.var 7) (.nil))) (.nil)) [0,1,2,3,4,5,6,8,9] (.set 10 (.ite (.and (.cmp .ne (.var 8) (.con (.int 0))) (.cmp .ne (.var 9) (.con (.int 0)))) (.met (.var 0) 25 (.cons (.var 8) (.cons (.var 9) (.nil)))) (.met (.var 0) 20 (.cons (.var 4) (.nil)))) (.ifs (.cmp .isv (.var 10) (.con .none)) (.ex (.met (.var 0) 33 (.cons (.var 5) (.nil))) (.nil)) (.ex (.met (.var 0) 17 (.cons (.var 10) (.nil))) (.nil)) (.nil)))))))))))))))
noncomputable def m16f:M:= .set 10 (.ite (.and (.cmp .ne (.var 8) (.con (.int 0))) (.cmp .ne (.var 9) (.con (.int 0)))) (.met (.var 0) 25 (.cons (.var 8) (.cons (.var 9) (.nil)))) (.met (.var 0) 20 (.cons (.var 4) (.nil)))) (.ifs (.cmp .isv (.var 10) (.con .none)) (.ex (.met (.var 0) 33 (.cons (.var 5) (.nil))) (.nil)) (.ex (.met (.var 0) 17 (.cons (.var 10) (.nil))) (.nil)) (.nil))
theorem j_off{l:List Int}(h:Chn (H5 P n 19 K) l E E1):∀{k:KB},k .next ⟨jR l' r d sm lg us,[],hp P g K E1⟩->
  lp ((af P n (.ex (.met (.var 0) 19 (.cons (.var 7) (.nil))) (.nil))).b (.st,[])) (mj true [7]) (IC.keep [0,1,2,3,4,5,6]) k ((zs l).map .dat) ⟨jR l' r d sm lg us,[],hp P g K E⟩:=by
 induction h with
 |nil=>exactλhk=>hk
 |cons h _ ih=>
  intro k hk
  refine b7 (h g) rt ?_
  exact ci (ih hk) rfl
theorem j_up{l:List Int}(h:Chn (H5 P n 13 K) l E E1):∀{k:KB},k .next ⟨jR l' r d sm lg us++[(8,iv va),(9,iv vb)],[],hp P g K E1⟩->
  lp ((af P n (.ex (.met (.var 0) 13 (.cons (.var 7) (.nil))) (.nil))).b (.st,[])) (mj true [7]) (IC.keep [0,1,2,3,4,5,6,8,9]) k ((zs l).map .dat) ⟨jR l' r d sm lg us++[(8,iv va),(9,iv vb)],[],hp P g K E⟩:=by
 induction h with
 |nil=>exactλhk=>hk
 |cons h _ ih=>
  intro k hk
  refine b7 (h g) rt ?_
  exact ci (ih hk) rfl
theorem j_root{o':AObj}:∀{l:List Int},(∀t∈l,rng t=true)->∀{E:Eng},(∀t∈l,(E.root t).isSome=true)->∀{k:KB},k .next ⟨jR l' r d sm lg us,[],up (hp P g K {E with root:=g8 l lg E.root}) (.ls .mem sm) o'⟩->
  lp ((af P n (.seti (.var 5) (.att (.var 0) 1) (.var 7) (.nil))).b (.st,[.ls .mem sm])) (mj true [7]) (IC.keep [0,1,2,3,4,5,6]) k ((zs l).map .dat) ⟨jR l' r d sm lg us,[],up (hp P g K E) (.ls .mem sm) o'⟩:=by
 intro l hr
 induction l with
 |nil=>exactλ_ k hk=>hk
 |cons t l ih=>
  intro E hs k hk
  refine⟨hr t (.head _),a8 ((L7 (Tg.noConfusion)).trans (cGx (λb=>up b (.ls .mem sm) o') (e_root (t:=t) (x:=lg) (hs t (.head _)) e9))) ?_⟩
  exact ci (ih (λs q=>hr s (.tail _ q)) (E:={E with root:=a6 E.root t lg}) (λs q=>Db (hs s (.tail _ q))) hk) rfl
theorem j_fa(h8:va≠0)(h9:vb≠0)(M:Me P (n+1) 25 .all [iv va,iv vb] g K E (.dat (.list (zs rs))) E)(hm:E.marks.length<=1000000):
  (af P (n+1) m16f).b (.st,[]) ⟨jR l' r d sm lg us++[(8,iv va),(9,iv vb)],[],hp P g K E⟩ (A7 (.dat .none) (hp P g K {E with clash:=some rs,clv:=E.marks.length})):=by
 refine b8 (oj h8) (b8 (oj h9) (b7 M rt ?_))
 exact b7 (l17 hm) rt b9
theorem j_fb(h:va=0\/vb=0)(h1:E.root sm=some s)(h2:E.root lg=some v):
  (af P (n+1) m16f).b (.st,[]) ⟨jR l' r d sm lg us++[(8,iv va),(9,iv vb)],[],hp P g K E⟩ (A7 (.dat .none) (hp P g K E)):=by
 by_cases h8:va=0
 ·refine ax (lz h8) (b7 (l20 h1) rt ?_)
  exact b7 (l33 h2) rt b9
 ·refine b8 (oj h8) (ax (lz (h.elim (λe=>(h8 e).elim) id)) (b7 (l20 h1) rt ?_))
  exact b7 (l33 h2) rt b9
theorem zs_app{a b:List Int}:(zs a).map AV.dat++(zs b).map AV.dat=(zs (a++b)).map AV.dat:=by unfold zs;rw [kh,kh]
theorem I7{a b:List Int}{k:Nat}(h:(a++b).length<=k):((zs a).map AV.dat).length+(zs b).length<=k:=by rw [i8,show(zs b).length=b.length from jb _,<-je];exact h
theorem j_mid{kk:M}{K':KB}{lm ms lu:List Int}(r1:E.root lg=some v)(r2:E.root sm=some s)(m1:E.mem lg=some lm)(m2:E.mem sm=some ms)(u1:E.use lg=some lu)(u2:E.use sm=some us)(v1:E.val sm=some va)(v2:E.val lg=some vb)(hn:sm≠lg)(hg:rng lg=true)(b1:(lm++ms).length<=1000000)(b2:(lu++us).length<=1000000)
  (q:(af P n kk).b (.st,[]) ⟨jR l' r d sm lg us++[(9,iv vb),(8,iv va)],[],hp P g K {E with mem:=a6 E.mem lg (lm++ms),use:=a6 E.use lg (lu++us),val:=if vb=0 then a6 E.val lg va else E.val}⟩ K'):
  (af P n (.ex (.lm (.sub (.att (.var 0) 2) (.var 5)) .extend (.cons (.sub (.att (.var 0) 2) (.var 4)) (.nil))) (.ex (.lm (.sub (.att (.var 0) 3) (.var 5)) .extend (.cons (.sub (.att (.var 0) 3) (.var 4)) (.nil))) (.ex (.lm (.sub (.att (.var 0) 5) (.var 5)) .extend (.cons (.sub (.att (.var 0) 5) (.var 4)) (.nil))) (.ex (.lm (.sub (.att (.var 0) 6) (.var 5)) .extend (.cons (.sub (.att (.var 0) 6) (.var 4)) (.nil)))
   (.sets [8,9] (.cons (.sub (.att (.var 0) 4) (.var 4)) (.cons (.sub (.att (.var 0) 4) (.var 5)) (.nil))) (.ifs (.cmp .eq (.var 9) (.con (.int 0))) (.seti (.var 8) (.att (.var 0) 4) (.var 5) (.nil)) (.nil) kk))))))).b (.st,[]) ⟨jR l' r d sm lg us,[],hp P g K E⟩ K':=by
 refine a7 (x:=(E.mem lg).map λ_=>AV.obj (.ls .mem lg)) (cGx (Option.map _) m1) ?_
 refine a7 (x:=(E.mem sm).map λ_=>AV.obj (.ls .mem sm)) (cGx (Option.map _) m2) ?_
 refine a7 (x:=dy E.mem (g.ls .mem) lg) (em g m1) (a7 (x:=dy E.mem (g.ls .mem) lg) (em g m1) ?_)
 refine a7 (x:=dy E.mem (g.ls .mem) sm) (em g m2) ?_
 refine⟨zs ms,rfl,I7 b1,a8 (e_mem (by rw [m1];rfl) zs_app) ?_⟩
 refine a7 (x:=(E.use lg).map λ_=>AV.obj (.ls .use lg)) (cGx (Option.map _) u1) ?_
 refine a7 (x:=(E.use sm).map λ_=>AV.obj (.ls .use sm)) (cGx (Option.map _) u2) ?_
 refine a7 (x:=dy E.use (g.ls .use) lg) (ga g u1) (a7 (x:=dy E.use (g.ls .use) lg) (ga g u1) ?_)
 refine a7 (x:=dy E.use (g.ls .use) sm) (ga g u2) ?_
 refine⟨zs us,rfl,I7 b2,a8 (Ht (E:={E with mem:=a6 E.mem lg (lm++ms)}) (by rw [u1];rfl) zs_app) ?_⟩
 refine a7 (x:=(E.root lg).map λ_=>AV.obj (.ls .apt lg)) (cGx (Option.map _) r1) ?_
 refine a7 (x:=(E.root sm).map λ_=>AV.obj (.ls .apt sm)) (cGx (Option.map _) r2) ?_
 refine a7 (x:=dy (λt=>(E.root t).map λ_=>[]) (g.ls .apt) lg) (f9 g r1) (a7 (x:=dy (λt=>(E.root t).map λ_=>[]) (g.ls .apt) lg) (f9 g r1) ?_)
 refine a7 (x:=dy (λt=>(E.root t).map λ_=>[]) (g.ls .apt) sm) (f9 g r2) ?_
 refine⟨[],rfl,(by decide:0<=1000000),a8 (b5 (σ':=hp P g K {E with mem:=a6 E.mem lg (lm++ms),use:=a6 E.use lg (lu++us)}) (τ:= .ls .apt lg) (o:= .list true []) (λ_ _=>rfl) (by exact f9 g r1)) ?_⟩
 refine a7 (x:=(E.root lg).map λ_=>AV.obj (.ls .wat lg)) (cGx (Option.map _) r1) ?_
 refine a7 (x:=(E.root sm).map λ_=>AV.obj (.ls .wat sm)) (cGx (Option.map _) r2) ?_
 refine a7 (x:=dy (λt=>(E.root t).map λ_=>[]) (g.ls .wat) lg) (ib g r1) (a7 (x:=dy (λt=>(E.root t).map λ_=>[]) (g.ls .wat) lg) (ib g r1) ?_)
 refine a7 (x:=dy (λt=>(E.root t).map λ_=>[]) (g.ls .wat) sm) (ib g r2) ?_
 refine⟨[],rfl,(by decide:0<=1000000),a8 (b5 (σ':=hp P g K {E with mem:=a6 E.mem lg (lm++ms),use:=a6 E.use lg (lu++us)}) (τ:= .ls .wat lg) (o:= .list true []) (λ_ _=>rfl) (by exact ib g r1)) ?_⟩
 refine a7 (a:=iv va) (cGx (Option.map iv) v1) ?_
 refine a7 (a:=iv vb) (cGx (Option.map iv) v2) ?_
 by_cases h:vb=0
 ·rw [if_pos h] at q
  refine b8 (gn h) ⟨hg,a8 (e_val (E:={E with mem:=a6 E.mem lg (lm++ms),use:=a6 E.use lg (lu++us)}) e9) ?_⟩
  exact q
 ·rw [if_neg h] at q
  exact ax (de h) q
noncomputable abbrev Eng.jn(E:Eng)(sm lg:Int)(lm ms lu us:List Int)(va vb:Int):Eng:={E with trail:=E.trail++[.join sm lg lm.length lu.length vb],root:=g8 ms lg E.root,mem:=a6 E.mem lg (lm++ms),use:=a6 E.use lg (lu++us),val:=if vb=0 then a6 E.val lg va else E.val}
theorem l16t{w:Why}{lm ms lu:List Int}(q1:E.root l'=some sm)(q2:E.root r=some lg)(H22:Me P (n+1) 22 .st [iv l',iv r,.dat d] g K E (.dat .none) Ea)(q3:Ea.use sm=some us)(H19:Chn (H5 P (n+1) 19 K) us Ea Eb)
  (r1:Eb.root lg=some lg) (m1:Eb.mem lg=some lm) (m2:Eb.mem sm=some ms) (u1:Eb.use lg=some lu) (u2:Eb.use sm=some us) (v1:Eb.val sm=some va) (v2:Eb.val lg=some vb) (rg:∀t∈ms,rng t=true/\Eb.root t=some sm) (hn:sm≠lg) (hg:rng lg=true)
  (b1:(lm++ms).length<=1000000) (b2:(lu++us).length<=1000000) (b3:Eb.trail.length<=1000000) (k1:(g8 ms lg Eb.root) lg=some v) (k2:(g8 ms lg Eb.root) sm=some s)
  (H13:Chn (H5 P (n+1) 13 K) us (Eb.jn sm lg lm ms lu us va vb) Ed) (HF:(af P (n+1) m16f).b (.st,[]) ⟨jR l' r d sm lg us++[(8,iv va),(9,iv vb)],[],hp P g K Ed⟩ (A7 (.dat .none) (hp P g K E1))):
  (af P (n+1) m16t).b (.st,[]) ⟨[(0,.obj .house),(1,iv l'),(2,iv r),(3,.dat d)],[],hp P g K E⟩ (A7 (.dat .none) (hp P g K E1)):=by
 refine a7 (ch q1) ?_
 refine a7 (ch q2) ?_
 refine b7 H22 rt ?_
 refine a7 (x:=(Ea.use sm).map λ_=>AV.obj (.ls .use sm)) (cGx (Option.map _) q3) ?_
 refine a7 (x:=dy Ea.use (g.ls .use) sm) (ga g q3) ?_
 refine⟨zs us,rfl,?_,?_⟩
 ·exact ja (jd (jb _)) (ja (ja (Nat.le_add_left _ _) (jd je.symm)) b2)
 show lp _ _ _ _ ((zs us).map .dat) _
 refine ci (j_off H19 ?_) rfl
 refine Dl ?_
 refine b7 (l18 r1 m1 u1 (gc b1) (gc b2)) rt ?_
 refine a7 (a:=iv vb) (cGx (Option.map iv) v2) ?_
 refine⟨ai (ac b3),a8 (fe (.join sm lg lm.length lu.length vb) rfl) ?_⟩
 refine og (b:=hp P g K {Eb with trail:=Eb.trail++[.join sm lg lm.length lu.length vb]}) (τ:= .ls .mem sm) (by exact em (E:=Eb) g m2) fy rfl ?_
 refine a7 (x:=(Eb.mem sm).map λ_=>AV.obj (.ls .mem sm)) (cGx (Option.map _) m2) ?_
 refine a7 (a:= .list false ((zs ms).map .dat)) (by exact ba) ?_
 refine⟨o0,?_⟩
 show lp _ _ _ _ ((zs ms).map .dat) _
 refine ci (j_root (E:={Eb with trail:=Eb.trail++[.join sm lg lm.length lu.length vb]}) (λt m=>(rg t m).1) (λt m=>cGx kq (rg t m).2) ?_) rfl
 refine l9 (b:=hp P g K {Eb with trail:=Eb.trail++[.join sm lg lm.length lu.length vb],root:=g8 ms lg Eb.root}) (τ:= .ls .mem sm) rfl (by exact em (E:=Eb) g m2) (Dl ?_)
 refine j_mid (E:={Eb with trail:=Eb.trail++[.join sm lg lm.length lu.length vb],root:=g8 ms lg Eb.root}) k1 k2 m1 m2 u1 u2 v1 v2 hn hg b1 b2 ?_
 show lp _ _ _ _ ((zs us).map .dat) _
 refine ci (j_up H13 ?_) rfl
 exact HF
theorem l16{a b l:Int}{la lb:List Int}(h1:E.root l=some a)(h2:E.root r=some b)(m1:E.mem a=some la)(m2:E.mem b=some lb)(b1:la.length<=1000000)(b2:lb.length<=1000000)
  (sw:∀x y,(lb.length<la.length/\x=r/\y=l)\/(¬lb.length<la.length/\x=l/\y=r)->(af P (n+1) m16t).b (.st,[]) ⟨[(0,.obj .house),(1,iv x),(2,iv y),(3,.dat d)],[],hp P g K E⟩ (A7 (.dat .none) (hp P g K E1))):
  Me P (n+2) 16 .st [iv l,iv r,.dat d] g K E (.dat .none) E1:=by
 refine enter c16 rt rt ?_
 refine a7 (ch h1) ?_
 refine a7 (x:=(E.mem a).map λ_=>AV.obj (.ls .mem a)) (cGx (Option.map _) m1) ?_
 refine a7 (x:=dy E.mem (g.ls .mem) a) (em g m1) ⟨ei b1,?_⟩
 refine a7 (ch h2) ?_
 refine a7 (x:=(E.mem b).map λ_=>AV.obj (.ls .mem b)) (cGx (Option.map _) m2) ?_
 refine a7 (x:=dy E.mem (g.ls .mem) b) (em g m2) ⟨ei b2,?_⟩
 by_cases h:lb.length<la.length
 ·refine b8 (dTx (by rw [i8,i8];exact qz.mpr h)) ?_
  exact sw r l (.inl ⟨h,rfl,rfl⟩)
 ·refine ax (dFx (by rw [i8,i8];exactλq=>h (qz.mp q))) ?_
  exact sw l r (.inr ⟨h,rfl,rfl⟩)
variable{E2:Eng}{a b r1 r2:Int}{w:Why}{spot:Nat}
inductive Clo(P:Prg)(n:Nat)(K:Bks):Nat->Eng->Eng->Prop
 |stop {spot:Nat} {E:Eng}:E.queue.length<=1000000->E.queue.length<=spot\/E.clash.isSome=true->Clo P n K spot E E
 |same {spot:Nat} {E E1:Eng} {a b r:Int} {w:Why}:E.queue.length<=1000000->E.clash=none->E.queue[spot]? =some (a,b,w)->E.root a=some r->E.root b=some r->Clo P n K (spot+1) E E1->Clo P n K spot E E1
 |join {spot:Nat} {E E1 E2:Eng} {a b r1 r2:Int} {w:Why}:E.queue.length<=1000000->E.clash=none->E.queue[spot]? =some (a,b,w)->E.root a=some r1->E.root b=some r2->r1≠r2->(∀g,Me P n 16 .st [iv a,iv b,.dat (vo w)] g K E (.dat .none) E1)->Clo P n K (spot+1) E1 E2->Clo P n K spot E E2
theorem isn_cl{c:Option (List Int)}:isNone (clD c)=c.isNone:=by cases c<;>rfl
theorem ix_nth{q:Int×Int×Why}{l:List (Int×Int×Why)}(h:l[spot]? =some q):ao (spot:Int) ((l.map qD).map AV.dat)=some (.dat (qD q)):=by
 unfold ao
 rw [if_pos (wz _)]
 show((l.map qD).map AV.dat)[spot]? =_
 rw [jw,jw,h];rfl
theorem lenq{l:List (Int×Int×Why)}:(((l.map qD).map AV.dat).length:Int)=l.length:=cGx Nat.cast ((jb _).trans (jb _))
theorem lt_q{q:Int×Int×Why}{l:List (Int×Int×Why)}(h:l[spot]? =some q):decide ((spot:Int)<(((l.map qD).map AV.dat).length:Int))=true:=dTx (by
 rw [lenq];exact qz.mpr (xh.mp h).1)
theorem clo_w(h:Clo P n K spot E E1):∃N,∀{g:Aside} {k:KB},(∀sp:Int,k .next ⟨[(0,.obj .house),(1,iv sp)],[],hp P g K E1⟩)->
  wh ((af P n (.and (.cmp .lt (.var 1) (.blt .len (.cons (.att (.var 0) 12) (.nil)))) (.cmp .isv (.att (.var 0) 13) (.con .none)))).t (.st,[])) ((af P n (.sett [2,3,4] (.sub (.att (.var 0) 12) (.var 1)) (.set 1 (.bin .add (.var 1) (.con (.int 1))) (.ifs (.cmp .ne (.sub (.att (.var 0) 1) (.var 2)) (.sub (.att (.var 0) 1) (.var 3))) (.ex (.met (.var 0) 16 (.cons (.var 2) (.cons (.var 3) (.cons (.var 4) (.nil))))) (.nil)) (.nil) (.nil))))).b (.st,[])) (IC.keep [0,1]) k N ⟨[(0,.obj .house),(1,iv spot)],[],hp P g K E⟩:=by
 induction h with
 | @stop spot E hl h=>
  refine⟨1,λ{g k} hk=>⟨ai (ac hl),?_⟩⟩
  by_cases e:E.queue.length<=spot
  ·refine ax (dFx (by rw [lenq];exact Int.not_lt.mpr (Int.ofNat_le.mpr e))) ?_
   exact hk _
  ·refine b8 (dTx (by rw [lenq];exact qz.mpr (Nat.lt_of_not_le e))) (ax (isn_cl.trans ?_) (hk _))
   exact(h.elim (λq=>(e q).elim) λq=>by cases c:E.clash with|none=>rw [c] at q;exact Bool.noConfusion q|some l=>rfl)
 | @same spot E E1 a b r w hl hc hq ha hb _ ih=>
  refine ih.elim λN ih=>⟨N+1,λ{g k} hk=>⟨ai (ac hl),b8 (lt_q hq) (b8 (isn_cl.trans (cGx Option.isNone hc)) ?_)⟩⟩
  refine a7 (x:=ao (spot:Int) ((E.queue.map qD).map AV.dat)) (ix_nth hq) ⟨ai (ac hl),?_⟩
  refine a7 (ch ha) (a7 (ch hb) ?_)
  refine ax (lz rfl) ?_
  exact nq (ih hk) rfl
 | @join spot E E1 E2 a b r1 r2 w hl hc hq ha hb hn M _ ih=>
  refine ih.elim λN ih=>⟨N+1,λ{g k} hk=>⟨ai (ac hl),b8 (lt_q hq) (b8 (isn_cl.trans (cGx Option.isNone hc)) ?_)⟩⟩
  refine a7 (x:=ao (spot:Int) ((E.queue.map qD).map AV.dat)) (ix_nth hq) ⟨ai (ac hl),?_⟩
  refine a7 (ch ha) (a7 (ch hb) ?_)
  refine b8 (oj hn) (b7 (M g) ?_ ?_)
  ·cases w<;>rfl
  exact nq (ih hk) rfl
theorem l15(h:Clo P n K 0 E E1):Me P (n+1) 15 .st [] g K E (.dat .none) {E1 with queue:=[]}:=by
 refine enter c15 rt rt ?_
 refine(clo_w h).imp λN h=>h λsp=> ?_
 exact⟨dp (w:=true),a8 Cs b9⟩
variable{Ec:Eng}{t0:Int}{st:List Int}
inductive Add(P:Prg)(n:Nat)(K:Bks):List Int->Eng->Eng->Prop
 |nil {E:Eng}:Add P n K [] E E
 |known {E E1:Eng} {st:List Int} {t:Int}:(st++[t]).length<=1000000->(E.root t).isSome=true->Add P n K st E E1->Add P n K (st++[t]) E E1
 |new {E E1 E2:Eng} {st as:List Int} {t:Int}:(st++[t]).length<=1000000->(E.root t).isSome=false->(∀g,Me P n 9 .all [iv t] g K E (.dat (.tuple (zs as))) E)->as=[]\/(∃x,as=[x]/\(E.root x).isSome=true)->(∀g,Me P n 11 .st [iv t] g K E (.dat .none) E1)->Add P n K st E1 E2->Add P n K (st++[t]) E E2
 |more {E E1:Eng} {st:List Int} {t x:Int}:(st++[t]).length+1<=1000000->(E.root t).isSome=false->(∀g,Me P n 9 .all [iv t] g K E (.dat (.tuple (zs [x]))) E)->(E.root x).isSome=false->Add P n K (st++[t]++[x]) E E1->Add P n K (st++[t]) E E1
theorem Bg{l:List AV}{a:AV}:ao (-1) (l++[a])=some a:=by
 unfold ao
 rw [if_neg (by decide),if_pos rfl,je]
 show(l++[a])[l.length]? =_
 rw [yk (jc _),Nat.sub_self];rfl
theorem Da{v:Bool}(h:(E.root t).isSome=v):(!((E.root t).map iv).isSome)= !v:=cGx (!·) ((wu ..).trans h)
noncomputable abbrev aCx(t0:Int)(st:List AV)(b:Tg->Option AObj):IC:=⟨[(0,.obj .house),(1,iv t0),(2,.obj (.tmp 0))],[(0,.list true st)],b⟩
theorem pos_l{l:List AV}{a:AV}:decide ((0:Int)<((l++[a]).length:Int))=true:=dTx (by rw [je];exact qz.mpr (qy _))
theorem add_w(h:Add P n K st E E1):∃N,∀{g:Aside} {k:KB},k .next (aCx t0 [] (hp P g K E1))->
  wh ((af P n (.cmp .gt (.blt .len (.cons (.var 2) (.nil))) (.con (.int 0)))).t (.st,[])) ((af P n (.set 3 (.sub (.var 2) (.neg (.con (.int 1)))) (.set 4 (.lst (.nil)) (.ifs (.cmp .notin (.var 3) (.att (.var 0) 1)) (.setc 4 (.comp (.var 5) 5 (.met (.var 0) 9 (.cons (.var 3) (.nil))) (.cmp .notin (.var 5) (.att (.var 0) 1)) [0]) (.nil)) (.nil) (.ifs (.cmp .gt (.blt .len (.cons (.var 4) (.nil))) (.con (.int 0))) (.ex (.lm (.var 2) .extend (.cons (.var 4) (.nil))) (.nil)) (.ex (.lm (.var 2) .pop (.nil)) (.ifs (.cmp .notin (.var 3) (.att (.var 0) 1)) (.ex (.met (.var 0) 11 (.cons (.var 3) (.nil))) (.nil)) (.nil) (.nil))) (.nil)))))).b (.st,[])) (IC.keep [0,1,2]) k N (aCx t0 ((zs st).map .dat) (hp P g K E)):=by
 induction h with
 |nil=>exact⟨1,λ{g k} hk=>⟨jo _,hk⟩⟩
 | @known E E1 st t b h _ ih=>
  refine ih.elim λN ih=>⟨N+1,λ{g k} hk=> ?_⟩
  rw [<-zs_snoc]
  have b':((zs st).map AV.dat++[iv t]).length<=1000000:=by rw [zs_snoc];exact ei b
  refine⟨b',b8 pos_l ?_⟩
  refine a7 (a:=iv t) Bg ⟨b',?_⟩
  refine ax (Da h) ?_
  refine⟨jo _,?_⟩
  refine⟨(zs st).map AV.dat,iv t,rfl,ei (gc b),?_⟩
  refine ax (Da h) ?_
  exact nq (ih hk) rfl
 | @new E E1 E2 st as t b h M q M2 _ ih=>
  refine ih.elim λN ih=>⟨N+1,λ{g k} hk=> ?_⟩
  rw [<-zs_snoc]
  have b':((zs st).map AV.dat++[iv t]).length<=1000000:=by rw [zs_snoc];exact ei b
  refine⟨b',b8 pos_l ?_⟩
  refine a7 (a:=iv t) Bg ⟨b',?_⟩
  refine b8 (Da h) ?_
  refine b7 (M g) rt ?_
  refine q.elim (λq=> ?_) λq=>q.elim λx q=> ?_
  ·rw [q]
   refine⟨jo _,?_⟩
   refine⟨jo _,?_⟩
   refine⟨(zs st).map AV.dat,iv t,rfl,ei (gc b),?_⟩
   refine b8 (Da h) ?_
   refine b7 (M2 g) rt ?_
   exact nq (ih hk) rfl
  ·rw [q.1]
   refine⟨(by decide:1<=1000000),ax (Da q.2) ?_⟩
   refine⟨jo _,?_⟩
   refine⟨(zs st).map AV.dat,iv t,rfl,ei (gc b),?_⟩
   refine b8 (Da h) ?_
   refine b7 (M2 g) rt ?_
   exact nq (ih hk) rfl
 | @more E E1 st t x b h M q _ ih=>
  refine ih.elim λN ih=>⟨N+1,λ{g k} hk=> ?_⟩
  have e:(zs (st++[t]++[x])).map AV.dat=(zs st).map AV.dat++[iv t]++[iv x]:=by rw [zs_snoc,zs_snoc]
  rw [<-zs_snoc]
  have b':((zs st).map AV.dat++[iv t]).length+1<=1000000:=by rw [zs_snoc,i8];exact b
  refine⟨qg b',b8 pos_l ?_⟩
  refine a7 (a:=iv t) Bg ⟨qg b',?_⟩
  refine b8 (Da h) ?_
  refine b7 (M g) rt ?_
  refine⟨(by decide:1<=1000000),b8 (Da q) ?_⟩
  refine⟨(by decide:1<=1000000),?_⟩
  refine⟨b',?_⟩
  have:=ih hk
  rw [e] at this
  exact nq this rfl
theorem l10(h:Add P n K [t] E E1)(C:Me P n 15 .st [] g K E1 (.dat .none) E2):Me P (n+1) 10 .st [iv t] g K E (.dat .none) E2:=by
 refine enter c10 rt rt ?_
 refine⟨λy z=>(jg.mp z)▸trivial,?_⟩
 refine(add_w (t0:=t) h).imp λN w=>nq (w ?_) rfl
 exact b7 C rt b9
theorem l14(A:Me P n 10 .st [iv a] g K E (.dat .none) Ea)(B:Me P n 10 .st [iv b] g K Ea (.dat .none) Eb)(hl:Eb.queue.length<=1000000)(C:Me P n 15 .st [] g K {Eb with queue:=Eb.queue++[(a,b,w)]} (.dat .none) Ec):Me P (n+1) 14 .st [iv a,iv b,.dat (vo w)] g K E (.dat .none) Ec:=by
 refine enter c14 rt rt ?_
 cases w with
 |mk m=>
  refine b7 A rt (b7 B rt ⟨ai (ac hl),a8 (u6 (a,b,.mk m) rfl) ?_⟩)
  exact b7 C rt b9
 |args=>
  refine b7 A rt (b7 B rt ⟨ai (ac hl),a8 (u6 (a,b,.args) rfl) ?_⟩)
  exact b7 C rt b9
end
section
variable{P:Prg}{n:Nat}{K:Bks}{b σ:Tg->Option AObj}{τ:Tg}{o y x:AObj}
noncomputable def Eng.nul:Eng:=⟨⟨λ_=>none,λ_=>none,λ_=>none,λ_=>none,λ_=>none,λ_=>none⟩,[],none,0,[],[]⟩
noncomputable def asd(b:Tg->Option AObj):Aside:=⟨λk t=>b (.ls k t),λk=>b (.byr k),b⟩
theorem re(h:τ≠ .house):up (up (up σ .house y) τ o) .house x=up (up σ τ o) .house x:=funext λt=>by
 by_cases e:t= .house
 ·rw [e,ba,ba]
 ·rw [bc e,bc e]
  by_cases q:t=τ
  ·rw [q,ba,ba]
  ·rw [bc q,bc q,bc e]
theorem mk_a:up (up σ .house y) .house x=up σ .house x:=funext λt=>by
 by_cases e:t= .house
 ·rw [e,ba,ba]
 ·rw [bc e,bc e,bc e]
noncomputable def h0_1(b:Tg->Option AObj):Tg->Option AObj:=up b .root (.dictI true λ_=>none)
noncomputable def h0_2(b:Tg->Option AObj):Tg->Option AObj:=up (h0_1 b) (.dct .mem) (.dictI true λ_=>none)
noncomputable def h0_3(b:Tg->Option AObj):Tg->Option AObj:=up (h0_2 b) (.dct .use) (.dictI true λ_=>none)
noncomputable def h0_4(b:Tg->Option AObj):Tg->Option AObj:=up (h0_3 b) .value (.dictI true λ_=>none)
noncomputable def h0_5(b:Tg->Option AObj):Tg->Option AObj:=up (h0_4 b) (.dct .apt) (.dictI true λ_=>none)
noncomputable def h0_6(b:Tg->Option AObj):Tg->Option AObj:=up (h0_5 b) (.dct .wat) (.dictI true λ_=>none)
noncomputable def h0_7(b:Tg->Option AObj):Tg->Option AObj:=up (h0_6 b) .up (.dictI true λ_=>none)
noncomputable def h0_8(b:Tg->Option AObj):Tg->Option AObj:=up (h0_7 b) .table (.dictT λ_=>none)
noncomputable def h0_9(b:Tg->Option AObj):Tg->Option AObj:=up (h0_8 b) .sides (.dictI true λ_=>none)
noncomputable def h0_10(b:Tg->Option AObj):Tg->Option AObj:=up (h0_9 b) .told (.dictI true λ_=>none)
noncomputable def I0(b:Tg->Option AObj):Tg->Option AObj:=up (h0_10 b) .queue (.list true [])
noncomputable def h0_15(b:Tg->Option AObj):Tg->Option AObj:=up (I0 b) .trail (.list true [])
noncomputable def h0_16(b:Tg->Option AObj):Tg->Option AObj:=up (h0_15 b) .marks (.list true [])
theorem l0_end(B:BkAt P K b)(ht:∀k,b (.tmp k)=none):up (h0_16 b) .house (.inst P.C [(0,.obj .bank),(1,.obj .root),(2,.obj (.dct .mem)),(3,.obj (.dct .use)),(4,.obj .value),(5,.obj (.dct .apt)),(6,.obj (.dct .wat)),(7,.obj .up),(8,.obj .table),(9,.obj .sides),(10,.obj .told),(11,(.dat (.list []))),(12,.obj .queue),(13,(.dat .none)),(14,(iv 0)),(15,.obj .trail),(16,.obj .marks)])=hp P (asd b) K Eng.nul:=funext λt=>by
 cases t with
 |bank=>exact B.i
 |bk k=>exact B.k k
 |tmp k=>exact ht k
 |dct k=>cases k<;>rfl
 |ls k t=>cases k<;>rfl
 |table=>exact cGx (λf=>some (AObj.dictT f)) (funext (D9 (R:=λ_ o=>none=o.bind λ_=>none) (λ_=>rfl) λ_ _=>rfl))
 |_=>rfl
theorem l0(h:b .house=some (.inst P.C []))(B:BkAt P K b)(ht:∀k,b (.tmp k)=none):FnI P (n+1) .ini 0 [.obj .house,.obj .bank] b (.dat .none) (hp P (asd b) K Eng.nul):=by
 refine enter c0 rt rt ?_
 refine a7 (x:=b .house) h ?_
 refine a8 (σ':=up b .house (.inst P.C [(0,.obj .bank)])) rfl ?_
 refine⟨(λt v e=>(by nomatch e)),a8 (σ':=up (h0_1 b) .house (.inst P.C [(0,.obj .bank),(1,.obj .root)])) (re Tg.noConfusion) ?_⟩
 refine⟨rfl,a8 (σ':=up (h0_2 b) .house (.inst P.C [(0,.obj .bank),(1,.obj .root),(2,.obj (.dct .mem))])) (re Tg.noConfusion) ?_⟩
 refine⟨rfl,a8 (σ':=up (h0_3 b) .house (.inst P.C [(0,.obj .bank),(1,.obj .root),(2,.obj (.dct .mem)),(3,.obj (.dct .use))])) (re Tg.noConfusion) ?_⟩
 refine⟨(λt v e=>(by nomatch e)),a8 (σ':=up (h0_4 b) .house (.inst P.C [(0,.obj .bank),(1,.obj .root),(2,.obj (.dct .mem)),(3,.obj (.dct .use)),(4,.obj .value)])) (re Tg.noConfusion) ?_⟩
 refine⟨rfl,a8 (σ':=up (h0_5 b) .house (.inst P.C [(0,.obj .bank),(1,.obj .root),(2,.obj (.dct .mem)),(3,.obj (.dct .use)),(4,.obj .value),(5,.obj (.dct .apt))])) (re Tg.noConfusion) ?_⟩
 refine⟨rfl,a8 (σ':=up (h0_6 b) .house (.inst P.C [(0,.obj .bank),(1,.obj .root),(2,.obj (.dct .mem)),(3,.obj (.dct .use)),(4,.obj .value),(5,.obj (.dct .apt)),(6,.obj (.dct .wat))])) (re Tg.noConfusion) ?_⟩
 refine⟨(λt v e=>(by nomatch e)),a8 (σ':=up (h0_7 b) .house (.inst P.C [(0,.obj .bank),(1,.obj .root),(2,.obj (.dct .mem)),(3,.obj (.dct .use)),(4,.obj .value),(5,.obj (.dct .apt)),(6,.obj (.dct .wat)),(7,.obj .up)])) (re Tg.noConfusion) ?_⟩
 refine⟨(λt v e=>(by nomatch e)),a8 (σ':=up (h0_8 b) .house (.inst P.C [(0,.obj .bank),(1,.obj .root),(2,.obj (.dct .mem)),(3,.obj (.dct .use)),(4,.obj .value),(5,.obj (.dct .apt)),(6,.obj (.dct .wat)),(7,.obj .up),(8,.obj .table)])) (re Tg.noConfusion) ?_⟩
 refine⟨(λt v e=>(by nomatch e)),a8 (σ':=up (h0_9 b) .house (.inst P.C [(0,.obj .bank),(1,.obj .root),(2,.obj (.dct .mem)),(3,.obj (.dct .use)),(4,.obj .value),(5,.obj (.dct .apt)),(6,.obj (.dct .wat)),(7,.obj .up),(8,.obj .table),(9,.obj .sides)])) (re Tg.noConfusion) ?_⟩
 refine⟨(λt v e=>(by nomatch e)),a8 (σ':=up (h0_10 b) .house (.inst P.C [(0,.obj .bank),(1,.obj .root),(2,.obj (.dct .mem)),(3,.obj (.dct .use)),(4,.obj .value),(5,.obj (.dct .apt)),(6,.obj (.dct .wat)),(7,.obj .up),(8,.obj .table),(9,.obj .sides),(10,.obj .told)])) (re Tg.noConfusion) ?_⟩
 refine a8 (σ':=up (h0_10 b) .house (.inst P.C [(0,.obj .bank),(1,.obj .root),(2,.obj (.dct .mem)),(3,.obj (.dct .use)),(4,.obj .value),(5,.obj (.dct .apt)),(6,.obj (.dct .wat)),(7,.obj .up),(8,.obj .table),(9,.obj .sides),(10,.obj .told),(11,(.dat (.list [])))])) mk_a ?_
 refine⟨dp (w:=true),a8 (σ':=up (I0 b) .house (.inst P.C [(0,.obj .bank),(1,.obj .root),(2,.obj (.dct .mem)),(3,.obj (.dct .use)),(4,.obj .value),(5,.obj (.dct .apt)),(6,.obj (.dct .wat)),(7,.obj .up),(8,.obj .table),(9,.obj .sides),(10,.obj .told),(11,(.dat (.list []))),(12,.obj .queue)])) (re Tg.noConfusion) ?_⟩
 refine a8 (σ':=up (I0 b) .house (.inst P.C [(0,.obj .bank),(1,.obj .root),(2,.obj (.dct .mem)),(3,.obj (.dct .use)),(4,.obj .value),(5,.obj (.dct .apt)),(6,.obj (.dct .wat)),(7,.obj .up),(8,.obj .table),(9,.obj .sides),(10,.obj .told),(11,(.dat (.list []))),(12,.obj .queue),(13,(.dat .none))])) mk_a ?_
 refine a8 (σ':=up (I0 b) .house (.inst P.C [(0,.obj .bank),(1,.obj .root),(2,.obj (.dct .mem)),(3,.obj (.dct .use)),(4,.obj .value),(5,.obj (.dct .apt)),(6,.obj (.dct .wat)),(7,.obj .up),(8,.obj .table),(9,.obj .sides),(10,.obj .told),(11,(.dat (.list []))),(12,.obj .queue),(13,(.dat .none)),(14,(iv 0))])) mk_a ?_
 refine⟨dp (w:=true),a8 (σ':=up (h0_15 b) .house (.inst P.C [(0,.obj .bank),(1,.obj .root),(2,.obj (.dct .mem)),(3,.obj (.dct .use)),(4,.obj .value),(5,.obj (.dct .apt)),(6,.obj (.dct .wat)),(7,.obj .up),(8,.obj .table),(9,.obj .sides),(10,.obj .told),(11,(.dat (.list []))),(12,.obj .queue),(13,(.dat .none)),(14,(iv 0)),(15,.obj .trail)])) (re Tg.noConfusion) ?_⟩
 refine⟨dp (w:=true),a8 (σ':=hp P (asd b) K Eng.nul) ((re Tg.noConfusion).trans (l0_end B ht)) ?_⟩
 exact b9
end
section
variable{P:Prg}{n:Nat}{g:Aside}{K:Bks}{E E1:Eng}{fs:List az}{ρ ρ':Int->Option Int}{Q Q':List b4}{t x r a b o s y:Int}{us:List Int}
def Eqr(ρ:Int->Option Int)(a b:Int):Prop:=∃r,ρ a=some r/\ρ b=some r
theorem Eqr.symm(h:Eqr ρ a b):Eqr ρ b a:=h.imp λ_ h=>⟨h.2,h.1⟩
theorem Eqr.of(h:Kn ρ a)(e:ρ a=ρ b):Eqr ρ a b:=h.imp λ_ h=>⟨h,e.symm.trans h⟩
def Tab(ρ:Int->Option Int)(tab:List Int->Option Int):Prop:=∀m t,tab m=some t->Kn ρ t/\∃x r,Ap t x/\ρ x=some r/\m=[0,r]
def Pq(ρ:Int->Option Int)(Q:List b4)(a b:Int):Prop:=∀(α:Type) (f:Int->α),(∀x y,Eqr ρ x y->f x=f y)->(∀e∈Q,f e.1=f e.2.1)->f a=f b
theorem Pq.mono(h:∀x y,Eqr ρ x y->Eqr ρ' x y)(hq:∀e∈Q,Pq ρ' Q' e.1 e.2.1)(p:Pq ρ Q a b):Pq ρ' Q' a b:=λα f h1 h2=>p α f (λx y e=>h1 x y (h x y e)) λe m=>hq e m α f h1 h2
theorem Pq.app(p:Pq ρ Q a b):Pq ρ (Q++Q') a b:=p.mono (λ_ _ h=>h) λe m _ _ _ h2=>h2 e (ki _ m)
def QJ(fs:List az)(ρ:Int->Option Int)(e:b4):Prop:=Kn ρ e.1/\Kn ρ e.2.1/\Jst fs (Eqr ρ) e.1 e.2.1 e.2.2
theorem QJ.mono{fs':List az}{e:b4}(hf:∀f∈fs,f∈fs')(hs:∀a,Kn ρ a->Kn ρ' a)(h:∀x y,Eqr ρ x y->Eqr ρ' x y)(q:QJ fs ρ e):QJ fs' ρ' e:=⟨hs _ q.1,hs _ q.2.1,q.2.2.mono hf h⟩
theorem l19o{d:Int}{c:Str}(T:Trm K t c [x] (.int d))(hr:E.root x=some r)(h:E.tab [d,r]=none):Me P (n+3) 19 .st [iv t] g K E (.dat .none) E:=by
 refine enter c19 rt rt ?_
 refine b7 (l12 T hr) rt ?_
 refine Dx (cGx (Option.map iv) h) ?_
 exact b9
def Usd(ρ:Int->Option Int)(r:Int)(us:List Int):Prop:=∀t∈us,Kn ρ t/\∃x,Ap t x/\ρ x=some r
theorem offs_n(hB:BK K)(h:E.tab [0,r]=none):Usd E.root r us->Chn (H5 P (n+3) 19 K) us E E:=by
 induction us with
 |nil=>exactλ_=> .nil
 |cons t us ih=>exactλhu=>(hu t (.head _)).2.elim λx hx=> .cons (λg=>l19o (hB.a _ _ hx.1) hx.2 h) (ih λs m=>hu s (.tail _ m))
theorem offs_s(hB:BK K)(h:E.tab [0,r]=some o)(hl:E.trail.length<=1000000):o∈us->Usd E.root r us->Chn (H5 P (n+3) 19 K) us E {E with trail:=E.trail++[.table [0,r] (some o)],tab:=av E.tab [0,r]}:=by
 induction us with
 |nil=>exactλh=>(by nomatch h)
 |cons t us ih=>
  refineλm hu=>(hu t (.head _)).2.elim λx hx=> ?_
  have hu':Usd E.root r us:=λs m=>hu s (.tail _ m)
  by_cases e:o=t
  ·exact .cons (λg=>l19y (hB.a _ _ hx.1) hx.2 (e▸h) hl) (e▸offs_n (E:={E with trail:=E.trail++[.table [0,r] (some o)],tab:=av E.tab [0,r]}) hB fdel_eq hu')
  ·exact .cons (λg=>l19n (hB.a _ _ hx.1) hx.2 h e) (ih ((jh.mp m).resolve_left e) hu')
noncomputable def qs(ρ:Int->Option Int)(o:Int)(us:List Int):List b4:=(us.filter λt=> !decide (ρ o=ρ t)).map λt=>(t,o,Why.args)
theorem qs_eq(h:ρ o=ρ t):qs ρ o (t::us)=qs ρ o us:=cGx (List.map _) (xo (by rw [dTx h];exact jx))
theorem qs_ne(h:ρ o≠ρ t):qs ρ o (t::us)=(t,o,.args)::qs ρ o us:=cGx (List.map _) (xq (by rw [dFx h];rfl))
theorem lks_s(hB:BK K):∀{E:Eng},E.tab [0,r]=some o->E.root o=some s->Usd E.root r us->E.queue.length+us.length<=1000000->Chn (H5 P (n+3) 13 K) us E {E with queue:=E.queue++qs E.root o us}:=by
 induction us with
 |nil=>exactλ{E} _ _ _ _=>(jk E.queue).symm▸Chn.nil (S:=H5 P (n+3) 13 K) (E:=E)
 |cons t us ih=>
  refineλ{E} h ho hu hl=>(hu t (.head _)).2.elim λx hx=>(hu t (.head _)).1.elim λr' ht=> ?_
  have hu':Usd E.root r us:=λs m=>hu s (.tail _ m)
  by_cases e:s=r'
  ·rw [qs_eq (ho.trans (e▸ht.symm))]
   exact .cons (λg=>l13c (hB.a _ _ hx.1) hx.2 h ho (e▸ht)) (ih h ho hu' (qg hl))
  ·rw [qs_ne λq=>e (sJx (ho.symm.trans (q.trans ht))),List.append_cons]
   exact .cons (λg=>l13b (hB.a _ _ hx.1) hx.2 h ho ht e (ja (ji _ _) hl)) (ih (E:={E with queue:=E.queue++[(t,o,.args)]}) h ho hu' (by rw [je,qh];show _+(1+us.length)<=_;rw [we 1];exact hl))
noncomputable def Eng.lk(E:Eng)(tb:List Int->Option Int)(tr:List Ent)(Q:List b4):Eng:={E with tab:=tb,trail:=tr,queue:=E.queue++Q}
inductive Lk(P:Prg)(n:Nat)(K:Bks)(fs:List az)(E:Eng)(r:Int)(us:List Int):Prop
 |mk (tb:List Int->Option Int) (tr:List Ent) (Q:List b4) (c:Chn (H5 P (n+3) 13 K) us E (E.lk tb tr Q)) (s:Stp P K E (E.lk tb tr Q)) (len:tr.length<=E.trail.length+1) (ql:Q.length<=us.length) (tab:Tab E.root tb)
  (ext:∀m t,E.tab m=some t->tb m=some t) (qj:∀e∈Q,QJ fs E.root e) (fd:∀t∈us,∃o,tb [0,r]=some o/\Pq E.root Q t o)
theorem qs_ok(ho:Kn ρ o)(ha:Ap o y)(hy:ρ y=some r)(hu:Usd ρ r us):(∀e∈qs ρ o us,QJ fs ρ e)/\(∀t∈us,Pq ρ (qs ρ o us) t o)/\(qs ρ o us).length<=us.length:=
 ⟨λe m=>(jf.mp m).elim λt h=>h.2▸(hu t (kr.mp h.1).1).2.elim λx hx=>⟨(hu t (kr.mp h.1).1).1,ho,x,y,hx.1,ha,r,hx.2,hy⟩,
 λt m α f h1 h2=>by
  by_cases e:ρ o=ρ t
  ·exact(h1 _ _ (Eqr.of ho e)).symm
  ·exact h2 (t,o,.args) (jf.mpr ⟨t,kr.mpr ⟨m,by rw [dFx e];rfl⟩,rfl⟩),ja (jd (jb _)) (wm ..)⟩
theorem lks(hB:BK K)(tb:Tab E.root E.tab)(hu:Usd E.root r us)(hr:rng r=true)(ht:E.trail.length<=1000000)(hq:E.queue.length+us.length<=1000000):Lk P n K fs E r us:=by
 cases h:E.tab [0,r] with
 |some o=>
  refine(tb _ _ h).1.elim λs ho=>(tb _ _ h).2.elim λy q=>q.elim λr' q=> ?_
  have e:r'=r:=(List.cons.inj (List.cons.inj q.2.2).2).1.symm
  have q2:=qs_ok (fs:=fs) (us:=us) (tb _ _ h).1 q.1 (e▸q.2.1) hu
  exact⟨E.tab,E.trail,qs E.root o us,lks_s hB h ho hu hq,⟨[],[],(jk _).symm,.same⟩,ko _,q2.2.2,tb,λ_ _ h=>h,q2.1,λt m=>⟨o,h,q2.2.1 t m⟩⟩
 |none=>cases us with
  |nil=>exact⟨E.tab,E.trail,[],(show Chn _ [] E {E with queue:=E.queue++[]} by rw [jk];exact .nil),⟨[],[],(jk _).symm,.same⟩,ko _,jc _,tb,λ_ _ h=>h,(λ_ h=>(by nomatch h)),λ_ h=>(by nomatch h)⟩
  |cons t us=>
   refine(hu t (.head _)).1.elim λs hs=>(hu t (.head _)).2.elim λx hx=> ?_
   have q2:=qs_ok (fs:=fs) (hu t (.head _)).1 hx.1 hx.2 hu
   refine⟨a6 E.tab [0,r] t,E.trail++[.table [0,r] none],qs E.root t (t::us),?_,?_,jd je,q2.2.2,λm z hm=> ?_,λm z hm=> ?_,q2.1,λz m=>⟨t,ag,q2.2.1 z m⟩⟩
   ·rw [qs_eq rfl]
    exact .cons (λg=>l13a (hB.a _ _ hx.1) hx.2 h (by decide) hr ht) (lks_s (E:={E with trail:=E.trail++[.table [0,r] none],tab:=a6 E.tab [0,r] t}) hB ag hs (λs m=>hu s (.tail _ m)) (qg hq))
   ·exact(un_tabN (C:=E.toCor) (t:=t) h).stp (E1:=E.lk (a6 E.tab [0,r] t) (E.trail++[.table [0,r] none]) (qs E.root t (t::us))) rfl (.same λ_=>Iff.rfl)
   ·by_cases e:m=[0,r]
    ·rw [e,ag] at hm;exact sJx hm▸⟨(hu t (.head _)).1,x,r,hx.1,hx.2,e⟩
    ·rw [ah e] at hm;exact tb m z hm
   ·rw [ah λe=>by rw [e,h] at hm;exact(by nomatch hm)];exact hm
end
section
section
variable{α:Type}{ρ ρ':Int->Option Int}{f:Int->Option α}{p p':Int->α->Prop}{k s l t r a b:Int}{x:α}{l1 l2:List Int}{p1 p2:Int->Prop}{T:List Int}{q q':Int->Bool}
def Of(ρ:Int->Option Int)(f:Int->Option α)(p:Int->α->Prop):Prop:=(∀t,ρ t=none->f t=none)/\∀r,ρ r=some r->∃a,f r=some a/\p r a
theorem Of.set(h:Of ρ f p)(hk:p' k x)(h0:∀t,ρ' t=none->ρ t=none/\t≠k)(h1:∀r,ρ' r=some r->r≠k->ρ r=some r/\∀a,p r a->p' r a):Of ρ' (a6 f k x) p':=
 ⟨λt q=>(ah (h0 t q).2).trans (h.1 t (h0 t q).1),λr q=>by
  by_cases e:r=k
  ·exact⟨x,(cGx _ e).trans ag,e.symm▸hk⟩
  ·exact(h.2 r (h1 r q e).1).imp λb hb=>⟨(ah e).trans hb.1,(h1 r q e).2 b hb.2⟩⟩
def Lst(l:List Int)(p:Int->Prop):Prop:=l.Nodup/\∀t,t∈l↔p t
theorem Lst.app(h1:Lst l1 p1)(h2:Lst l2 p2)(d:∀t,p1 t->p2 t->False):Lst (l1++l2) λt=>p1 t\/p2 t:=
 ⟨List.nodup_append.mpr ⟨h1.1,h2.1,λa ha b hb e=>d a ((h1.2 a).mp ha) ((h2.2 a).mp (e▸hb))⟩,λt=>ke.trans (or_congr (h1.2 t) (h2.2 t))⟩
theorem Lst.congr(h:Lst l1 p1)(e:∀t,p1 t↔p2 t):Lst l1 p2:=⟨h.1,λt=>(h.2 t).trans (e t)⟩
theorem Lst.len(h:Lst l1 p1)(e:∀t,p1 t->t∈TT):l1.length<=11:=d5 (T:=TT) h.1 λt m=>e t ((h.2 t).mp m)
def MemP(ρ:Int->Option Int)(r:Int)(l:List Int):Prop:=Lst l λt=>ρ t=some r
def Cg(ρ:Int->Option Int)(r:Int)(l:List Int):Prop:=Lst l λt=>Kn ρ t/\∃x,Ap t x/\ρ x=some r
def Am(ρ:Int->Option Int)(r v:Int):Prop:=(v=0/\∀t∈VV,ρ t≠some r)\/(v∈VV/\ρ v=some r)
noncomputable def jr(ρ:Int->Option Int)(s l:Int)(t:Int):Option Int:=if ρ t=some s then some l else ρ t
theorem vu(h:ρ t=some s):jr ρ s l t=some l:=if_pos h
theorem jr_n(h:ρ t≠some s):jr ρ s l t=ρ t:=if_neg h
theorem jr_kn:Kn (jr ρ s l) t↔Kn ρ t:=by
 by_cases h:ρ t=some s
 ·exact⟨λ_=>⟨s,h⟩,λ_=>⟨l,vu h⟩⟩
 ·exact exists_congr λr=>by rw [jr_n h]
theorem Bh(h:Eqr ρ a b):Eqr (jr ρ s l) a b:=h.elim λr h=> .of (jr_kn.mpr ⟨r,h.1⟩) (by unfold jr;rw [h.1,h.2])
theorem nb(hn:s≠l):jr ρ s l t=some l↔ρ t=some l\/ρ t=some s:=by
 by_cases h:ρ t=some s
 ·exact⟨λ_=> .inr h,λ_=>vu h⟩
 ·exact(jr_n h).symm▸(or_iff_left h).symm
theorem su(hn:r≠l):jr ρ s l t=some r↔ρ t=some r/\r≠s:=by
 by_cases h:ρ t=some s
 ·exact⟨λe=>(hn (sJx ((vu h).symm.trans e)).symm).elim,λe=>(e.2 (sJx (e.1.symm.trans h))).elim⟩
 ·exact(jr_n h).symm▸⟨λe=>⟨e,λq=>h (q▸e)⟩,And.left⟩
theorem Of.join(h:Of ρ f p)(hl:ρ l=some l)(hk:p' l x)(h1:∀r,r≠l->r≠s->∀a,p r a->p' r a):Of (jr ρ s l) (a6 f l x) p':=
 h.set hk (λt q=>by
  have z:ρ t=none:=by
   cases z:ρ t with
   |none=>rfl
   |some r=>exact(jr_kn.mpr ⟨r,z⟩).elim λ_ e=>by rw [q] at e;exact(by nomatch e)
  exact⟨z,λe=>by rw [e,hl] at z;exact(by nomatch z)⟩) λr q n=>have q:=(su n).mp q;⟨q.1,h1 r n q.2⟩
noncomputable def nK(ρ:Int->Option Int):Nat:=(TT.filter λt=>(ρ t).isSome).length
noncomputable def nC(ρ:Int->Option Int):Nat:=(TT.filter λt=>decide (ρ t=some t)).length
theorem Av(hq:q k=false)(hq':q' k=true)(h:∀t,t≠k->q' t=q t):T.Nodup->k∈T->(T.filter q').length=(T.filter q).length+1:=by
 induction T with
 |nil=>exactλ_ m=>(by nomatch m)
 |cons y T ih=>
  intro hn hx
  have hn:=kj.mp hn
  by_cases e:y=k
  ·rw [xq (e▸hq'),xo (by rw [e,hq];exact jx)]
   exact cGx (λl=>wj l+1) (List.filter_congr λt m=>h t λz=>hn.1 ((e.trans z.symm)▸m))
  ·have ih:=ih hn.2 ((jh.mp hx).resolve_left (Ne.symm e))
   rw [yg,yg,h y e]
   split
   ·exact cGx (·+1) ih
   ·exact ih
end
structure LI(fs:List az)(C:Cor)(tl:Nat)(es Q:List b4):Prop where
 kn:∀t r,C.root t=some r->t∈TT/\C.root r=some r
 sub:∀t x,Kn C.root t->Ap t x->Kn C.root x
 mem:Of C.root C.mem (MemP C.root)
 use:Of C.root C.use (Cg C.root)
 val:Of C.root C.val (Am C.root)
 tb:Tab C.root C.tab
 P:Proofs fs C.up es
 c1:∀a b,Eqr C.root a b->Con es a b
 c2:∀e∈es,Eqr C.root e.1 e.2.1
 tc:∀t x r,Kn C.root t->Ap t x->C.root x=some r->∃o,C.tab [0,r]=some o/\Pq C.root Q t o
 fx:∀f∈fs,Pq C.root Q f.1 f.2.1
 qj:∀e∈Q,QJ fs C.root e
 pot:tl+4*nC C.root<=6*nK C.root
section
variable{P:Prg}{n:Nat}{K:Bks}{E:Eng}{fs:List az}{es Q Q':List b4}{C:Cor}{tl tl':Nat}{l0 r0 left right s l v1 v2 r:Int}{y:Why}{m1 m2 u1 u2 us:List Int}{up':Up}{tb:List Int->Option Int}
theorem EJ.snoc{e:b4}(j:EJ fs es)(h:Jst fs (Con es) e.1 e.2.1 e.2.2):EJ fs (es++[e]):=λp e' q he=>
 (List.eq_nil_or_concat q).elim (λz=>by
  rw [z] at he
  have:=List.append_inj' he rfl
  rw [<-this.1,<-(List.cons.inj this.2).1];exact h) λz=>z.elim λq' z=>z.elim λw z=>by
  rw [z,List.concat_eq_append,<-List.cons_append,<-jy] at he
  exact j p e' q' (List.append_inj' he rfl).1
theorem LI.tlen(L:LI fs C tl es Q):tl<=66:=ja (ja (ji _ _) L.pot) (ym 6 (wm _ TT))
theorem Ly{K α:Type}[DecidableEq K]{f:K->Option α}{k:K}(h:f k=none):av f k=f:=funext λz=>by
 by_cases e:z=k
 ·rw [e,fdel_eq,h]
 ·exact io e
theorem offs(hB:BK K)(tb:Tab E.root E.tab)(hu:Cg E.root r us)(hr:rng r=true)(hl:E.trail.length<=1000000):∃tr:List Ent,Chn (H5 P (n+3) 19 K) us E {E with trail:=tr,tab:=av E.tab [0,r]}/\Stp P K E {E with trail:=tr,tab:=av E.tab [0,r]}/\tr.length<=E.trail.length+1:=by
 have hu':Usd E.root r us:=λt m=>(hu.2 t).mp m
 cases h:E.tab [0,r] with
 |none=>
  rw [Ly h]
  exact⟨E.trail,offs_n hB h hu',.refl,ko _⟩
 |some o=>
  refine⟨E.trail++[.table [0,r] (some o)],offs_s hB h hl ((hu.2 o).mpr ⟨(tb _ _ h).1,(tb _ _ h).2.imp λx q=>q.elim λr' q=>⟨q.1,?_⟩⟩) hu',(un_tabS (C:=E.toCor) h (by decide) hr).stp rfl (.same λ_=>Iff.rfl),jd je⟩
  rw [(List.cons.inj (List.cons.inj q.2.2).2).1];exact q.2.1
theorem LI.join(L:LI fs C tl es ((l0,r0,y)::Q))(hs:C.root left=some s)(hl:C.root right=some l)(hn:s≠l)(h0:∀{α:Type} {f:Int->α},f left=f right->f l0=f r0)(hJ:Jst fs (Eqr C.root) left right y)
  (M1:MemP C.root l m1) (M2:MemP C.root s m2) (U1:Cg C.root l u1) (U2:Cg C.root s u2) (V1:Am C.root l v1) (V2:Am C.root s v2) (hF:Forest up' (es++[(left,right,y)])) (hu:UpB up' TT)
  (tab:Tab (jr C.root s l) tb) (ext:∀m t,av C.tab [0,s] m=some t->tb m=some t) (qj:∀e∈Q',QJ fs (jr C.root s l) e) (fd:∀t∈u2,∃o,tb [0,l]=some o/\Pq (jr C.root s l) Q' t o) (tl4:tl'<=tl+4):
  LI fs {root:=jr C.root s l,mem:=a6 C.mem l (m1++m2),use:=a6 C.use l (u1++u2),val:=a6 C.val l (if v1=0 then v2 else v1),up:=up',tab:=tb} tl' (es++[(left,right,y)]) (Q++Q')/\nC (jr C.root s l)+1=nC C.root:=by
 have hll:=(L.kn _ _ hl).2
 have hss:=(L.kn _ _ hs).2
 have jl:jr C.root s l left=some l:=vu hs
 have jR:jr C.root s l right=some l:=(nb hn).mpr (.inl hl)
 have sub:∀e∈es,e∈es++[(left,right,y)]:=λe h=>ki _ h
 have tol:∀x,jr C.root s l x=some l->Con (es++[(left,right,y)]) x right:=λx hx=>((nb hn).mp hx).elim (λq=>(L.c1 x right ⟨l,q,hl⟩).mono sub) λq=>((L.c1 x left ⟨s,q,hs⟩).mono sub).trans (.one (y:=y) (.inl (qc _ (.head _))))
 have hq0:∀e∈(l0,r0,y)::Q,Pq (jr C.root s l) (Q++Q') e.1 e.2.1:=λe m α f h1 h2=>(jh.mp m).elim (λz=>by rw [z];exact h0 (h1 _ _ ⟨l,jl,jR⟩)) λm=>h2 e (ki _ m)
 have hc:nC C.root=nC (jr C.root s l)+1:=Av (T:=TT) (k:=s) (dFx (by rw [vu hss];exactλq=>hn (sJx q).symm)) (dTx hss) (λt ht=>decide_eq_decide.mpr (by
  by_cases e:t=l
  ·rw [e,hll,(nb hn).mpr (.inl hll)]
  ·exact((su e).trans (and_iff_left ht)).symm)) (by decide) (L.kn _ _ hss).1
 have hk:nK (jr C.root s l)=nK C.root:=cGx wj (List.filter_congr λt _=>Bool.eq_iff_iff.mpr (wn.trans (jr_kn.trans wn.symm)))
 refine⟨⟨λt r h=> ?_,λt x h hx=>jr_kn.mpr (L.sub t x (jr_kn.mp h) hx),L.mem.join hll ((M1.app M2 λt h1 h2=>hn (sJx (h2.symm.trans h1))).congr λt=>(nb hn).symm) λr n1 n2 a h=>Lst.congr h λt=>((su n1).trans (and_iff_left n2)).symm,L.use.join hll ((U1.app U2 λt h1 h2=> ?_).congr λt=> ?_) λr n1 n2 a h=>Lst.congr h λt=>and_congr jr_kn.symm (exists_congr λx=>and_congr Iff.rfl ((su n1).trans (and_iff_left n2)).symm),
  L.val.join hll ?_ λr n1 n2 a h=>h.imp (λh=>⟨h.1,λt m e=>h.2 t m ((su n1).mp e).1⟩) λh=>⟨h.1,(su n1).mpr ⟨h.2,n2⟩⟩,tab,⟨hF,hu,L.P.j.snoc (hJ.mono (λ_ h=>h) L.c1)⟩,λa b h=>h.elim λr h=> ?_,λe m=> ?_,λt x r ht hx hr=> ?_,λf m=>(L.fx f m).mono (λ_ _=>Bh) hq0,λe m=>(ke.mp m).elim (λm=>(L.qj e (.tail _ m)).mono (λ_ h=>h) (λ_=>jr_kn.mpr) λ_ _=>Bh) (qj e),?_⟩,hc.symm⟩
 ·by_cases e:r=l
  ·rw [e] at h⊢
   exact⟨((nb hn).mp h).elim (λq=>(L.kn _ _ q).1) λq=>(L.kn _ _ q).1,(nb hn).mpr (.inl hll)⟩
  ·have h:=(su e).mp h
   exact⟨(L.kn _ _ h.1).1,(su e).mpr ⟨(L.kn _ _ h.1).2,h.2⟩⟩
 ·exact h1.2.elim λx h1=>h2.2.elim λx' h2=>hn (sJx (h2.2.symm.trans (s9 h1.1 h2.1▸h1.2)))
 ·refine Iff.trans ?_ (and_congr jr_kn.symm (exists_congr λx=>and_congr Iff.rfl (nb hn).symm))
  exact⟨λh=>h.elim (λh=>⟨h.1,h.2.imp λx q=>⟨q.1,.inl q.2⟩⟩) λh=>⟨h.1,h.2.imp λx q=>⟨q.1,.inr q.2⟩⟩,λh=>h.2.elim λx q=>q.2.imp (λe=>⟨h.1,x,q.1,e⟩) λe=>⟨h.1,x,q.1,e⟩⟩
 ·by_cases e:v1=0
  ·rw [if_pos e]
   have z:=V1.resolve_right λh=>absurd (e▸h.1) (by decide)
   exact V2.imp (λh=>⟨h.1,λt m q=>((nb hn).mp q).elim (z.2 t m) (h.2 t m)⟩) λh=>⟨h.1,(nb hn).mpr (.inr h.2)⟩
  ·rw [if_neg e]
   exact .inr (V1.elim (λh=>(e h.1).elim) λh=>⟨h.1,(nb hn).mpr (.inl h.2)⟩)
 ·by_cases e:r=l
  ·rw [e] at h;exact(tol a h.1).trans (tol b h.2).symm
  ·exact(L.c1 a b ⟨r,((su e).mp h.1).1,((su e).mp h.2).1⟩).mono sub
 ·exact(cm m).elim (λm=>Bh (L.c2 e m)) λz=>z▸⟨l,jl,jR⟩
 ·refine(L.sub t x (jr_kn.mp ht) hx).elim λr' hr'=> ?_
  by_cases e:r'=s
  ·rw [e] at hr'
   rw [<-sJx ((vu hr').symm.trans hr)]
   exact(fd t ((U2.2 t).mpr ⟨jr_kn.mp ht,x,hx,hr'⟩)).imp λo h=>⟨h.1,h.2.mono (λ_ _ h=>h) λe m _ _ _ h2=>h2 e (qc _ m)⟩
  ·have z:r'=r:=sJx (hr'.symm.trans ((jr_n λq=>e (sJx (hr'.symm.trans q))).symm.trans hr))
   exact(L.tc t x r (jr_kn.mp ht) hx (z▸hr')).imp λo h=>⟨ext _ _ ((io λq=>e (z.trans (List.cons.inj (List.cons.inj q).2).1)).trans h.1),h.2.mono (λ_ _=>Bh) hq0⟩
 ·have:=L.pot
  show tl'+4*nC (jr C.root s l)<=6*nK (jr C.root s l)
  rw [hk];rw [hc] at this
  exact ja (xl tl4 _) (by rw [wo,qh];exact this)
end
end
section
variable{P:Prg}{n:Nat}{K:Bks}{E:Eng}{fs:List az}{es Q Q':List b4}{l0 r0 left right s l v1 v2 r:Int}{y:Why}{ρ:Int->Option Int}
inductive Jo(P:Prg)(n:Nat)(K:Bks)(fs:List az)(E:Eng)(es Q:List b4)(left right:Int)(y:Why)(s l:Int):Prop
 |mk (E4:Eng) (Q':List b4) (v1 v2:Int) (us:List Int) (w:∀g E1,(af P (n+3) m16f).b (.st,[]) ⟨jR left right (vo y) s l us++[(8,iv v2),(9,iv v1)],[],hp P g K E4⟩ (A7 (.dat .none) (hp P g K E1))->(af P (n+3) m16t).b (.st,[]) ⟨[(0,.obj .house),(1,iv left),(2,iv right),(3,.dat (vo y))],[],hp P g K E⟩ (A7 (.dat .none) (hp P g K E1)))
  (li:LI fs E4.toCor E4.trail.length (es++[(left,right,y)]) (Q++Q')) (nc:nC E4.root+1=nC E.root) (stp:Stp P K E E4) (qu:E4.queue=E.queue++Q') (ql:Q'.length<=11) (rt:E4.root=jr E.root s l) (V1:Am E.root l v1) (V2:Am E.root s v2) (rest:E4.clash=E.clash/\E4.marks=E.marks)
theorem at_jr{m:List Int}(h:MemP ρ s m):g8 m l ρ=jr ρ s l:=rt_all.trans (funext λz=>by
 unfold o9 jr
 by_cases q:z∈m
 ·rw [if_pos q,if_pos ((h.2 z).mp q)]
 ·rw [if_neg q,if_neg λg=>q ((h.2 z).mpr g)])
theorem joinTo(hB:BK K)(L:LI fs E.toCor E.trail.length es ((l0,r0,y)::Q))(hs:E.root left=some s)(hl:E.root right=some l)(hn:s≠l)(h0:∀{α:Type} {f:Int->α},f left=f right->f l0=f r0)(hJ:Jst fs (Eqr E.root) left right y)(hq:E.queue.length<=1000):Jo P n K fs E es Q left right y s l:=by
 have hss:=L.kn _ _ hs
 have hll:=L.kn _ _ hl
 have gl:=rk _ (L.kn _ _ hll.2).1
 have inT:∀{t},Kn E.root t->t∈TT:=λh=>h.elim λr h=>(L.kn _ _ h).1
 refine(L.mem.2 _ hll.2).elim λm1 hm1=>(L.mem.2 _ hss.2).elim λm2 hm2=>(L.use.2 _ hll.2).elim λu1 hu1=>(L.use.2 _ hss.2).elim λu2 hu2=>(L.val.2 _ hll.2).elim λv1 hv1=>(L.val.2 _ hss.2).elim λv2 hv2=> ?_
 have tl:=L.tlen
 have bm1:m1.length<=11:=hm1.2.len λt h=>(L.kn _ _ h).1
 have bm2:m2.length<=11:=hm2.2.len λt h=>(L.kn _ _ h).1
 have bu1:u1.length<=11:=hu1.2.len λt h=>inT h.1
 have bu2:u2.length<=11:=hu2.2.len λt h=>inT h.1
 have b2:∀{a b:List Int},a.length<=11->b.length<=11->(a++b).length<=1000000:=λh1 h2=>je▸ja (xc h1 h2) (by decide)
 have hnc:¬Con es left right:=λc=>hn (sJx (hs.symm.trans ((c.keep (R:=λa b=>E.root a=E.root b) (λ_=>rfl) (λ_ _=>Eq.symm) (λ_ _ _=>Eq.trans) λx n y m=>(L.c2 _ m).elim λr h=>h.1.trans h.2.symm).trans hl)))
 refine(hang_ok (P:=P) (K:=K) (w:=y) (E:=E) L.P.F L.P.u rk (by decide) hss.1 hll.1 hnc (ja tl (by decide))).elim λup' h=>h.elim λtop h=> ?_
 have t1:(E.trail++[Ent.edge left top]).length<=E.trail.length+1:=jd je
 refine(offs (P:=P) (n:=n) (E:={E with up:=up',trail:=E.trail++[.edge left top]}) hB L.tb hu2.2 (rk _ (L.kn _ _ hss.2).1) (ja t1 (ja (jm tl) (by decide)))).elim λtr o=> ?_
 have t2:tr.length<=E.trail.length+2:=ja o.2.2 (jm t1)
 have t2':tr.length<=68:=ja t2 (xl tl 2)
 have hr:g8 m2 l E.root=jr E.root s l:=at_jr hm2.2
 have hv:(if v1=0 then a6 E.val l v2 else E.val)=a6 E.val l (if v1=0 then v2 else v1):=by
  by_cases e:v1=0
  ·rw [if_pos e,if_pos e]
  ·rw [if_neg e,if_neg e,M3 hv1.1]
 have j:({E with up:=up',trail:=tr,tab:=av E.tab [0,s]}:Eng).jn s l m1 m2 u1 u2 v2 v1={E with up:=up',trail:=tr++[.join s l m1.length u1.length v1],tab:=av E.tab [0,s],root:=jr E.root s l,mem:=a6 E.mem l (m1++m2),use:=a6 E.use l (u1++u2),val:=a6 E.val l (if v1=0 then v2 else v1)}:=by
  show({E with up:=up',trail:=tr++_,tab:=_,root:=g8 m2 l E.root,mem:=_,use:=_,val:=if v1=0 then a6 E.val l v2 else E.val}:Eng)=_
  rw [hr,hv]
 have un:=un_join (P:=P) (K:=K) (C:={E.toCor with up:=up',tab:=av E.tab [0,s]}) (V:=a6 E.val l (if v1=0 then v2 else v1)) hn ((congrFun (rt_all.symm.trans hr) l).trans ((nb hn).mpr (.inl hll.2))) hm1.1 hu1.1 (ny hv1.1) hm2.1 (λt m=>(hm2.2.2 t).mp m) gl (λt m=>rk t (L.kn _ _ ((hm2.2.2 t).mp m)).1) (b2 bm1 bm2) (b2 bu1 bu2)
 rw [show o9 E.root m2 l=jr E.root s l from rt_all.symm.trans hr] at un
 refine(lks (P:=P) (n:=n) (fs:=fs) (r:=l) (us:=u2) (E:={E with up:=up',trail:=tr++[.join s l m1.length u1.length v1],tab:=av E.tab [0,s],root:=jr E.root s l,mem:=a6 E.mem l (m1++m2),use:=a6 E.use l (u1++u2),val:=a6 E.val l (if v1=0 then v2 else v1)}) hB (λm t hm=> ?_) (λt m=> ?_) gl ?_ ?_).casesOn λtb tr4 Q' c st len ql tab ext qj fd=> ?_
 ·have e:m≠[0,s]:=λe=>by rw [e] at hm;exact nomatch (fdel_eq.symm.trans hm:none=some t)
  refine(L.tb m t ((io e).symm.trans hm)).imp jr_kn.mpr λh=>h.imp λx h=>h.imp λr h=>⟨h.1,(jr_n λq=>e ?_).trans h.2.1,h.2.2⟩
  rw [h.2.2,sJx (q.symm.trans h.2.1)]
 ·exact⟨jr_kn.mpr ((hu2.2.2 t).mp m).1,((hu2.2.2 t).mp m).2.imp λx h=>⟨h.1,vu h.2⟩⟩
 ·exact je▸ja (jm t2') (by decide)
 ·exact ja (xc hq bu2) (by decide)
 have J:=L.join hs hl hn h0 hJ hm1.2 hm2.2 hu1.2 hu2.2 hv1.2 hv2.2 h.2.1 h.2.2.1 tab ext qj fd (tl':=tr4.length) (ja len (jm (je▸jm t2)))
 refine⟨Eng.lk {E with up:=up',trail:=tr++[.join s l m1.length u1.length v1],tab:=av E.tab [0,s],root:=jr E.root s l,mem:=a6 E.mem l (m1++m2),use:=a6 E.use l (u1++u2),val:=a6 E.val l (if v1=0 then v2 else v1)} tb tr4 Q',Q',v1,v2,u2,λg E1 HF=>l16t (w:=y) (Eb:={E with up:=up',trail:=tr,tab:=av E.tab [0,s]}) hs hl (h.1 _ g) hu2.1 o.1 hll.2 hm1.1 hm2.1 hu1.1 hu2.1 hv2.1 hv1.1 (λt m=>⟨rk t (L.kn _ _ ((hm2.2.2 t).mp m)).1,(hm2.2.2 t).mp m⟩) hn gl (b2 bm1 bm2) (b2 bu1 bu2) (ja t2' (by decide)) ((congrFun hr l).trans ((nb hn).mpr (.inl hll.2))) ((congrFun hr s).trans (vu hss.2)) ((cGx (λz=>Chn (H5 P (n+3) 13 K) u2 z _) j).mpr c) HF,J.1,J.2,?_,rfl,ja ql bu2,rfl,hv1.2,hv2.2,rfl,rfl⟩
 refine Stp.trans ?_ (o.2.1.trans (Stp.trans (un.stp (E:={E with up:=up',trail:=tr,tab:=av E.tab [0,s]}) rfl (.same λ_=>jr_kn)) st))
 exact(un_edge (C:=E.toCor) h.2.2.2.1 h.2.2.2.2).stp rfl (.same λ_=>Iff.rfl)
variable{E1 E2:Eng}{a b:Int}{C:Cor}{tl:Nat}
def UV(ρ:Int->Option Int):Prop:=∀v w,v∈VV->w∈VV->Eqr ρ v w->v=w
def ClashJ(fs:List az)(l:List Int):Prop:=∃v w,(v∈VV/\w∈VV/\v≠w)/\Told fs v w l
def Fnl(fs:List az)(E E':Eng)(q:Prop):Prop:=(E'.clash=none/\UV E'.root/\q)\/∃l,E'.clash=some l/\E'.clv=E.marks.length/\ClashJ fs l
theorem Stp.to(s:Stp P K E E1)(h:E2.toCor=E1.toCor)(t:E2.trail=E1.trail):Stp P K E E2:=s.casesOn λseg ent g b=>⟨seg,ent,t.trans g,h▸b⟩
theorem Stp.from(s:Stp P K E1 E)(h:E2.toCor=E1.toCor)(t:E2.trail=E1.trail):Stp P K E2 E:=s.casesOn λseg ent g b=>⟨seg,ent,g.trans (t▸rfl),h▸b⟩
theorem UV.join(uv:UV ρ)(hn:s≠l)(V1:Am ρ l v1)(V2:Am ρ s v2)(h:v2=0\/v1=0):UV (jr ρ s l):=λv w hv hw e=>e.elim λr e=>by
 have nz:∀{x r z},Am ρ r x->z∈VV->ρ z=some r->x≠0:=λV m q=>V.elim (λh=>(h.2 _ m q).elim) λh e=>absurd (e▸h.1) (by decide)
 have no:∀{v w},v∈VV->w∈VV->ρ v=some l->ρ w=some s->False:=λhv hw p q=>h.elim (nz V2 hw q) (nz V1 hv p)
 by_cases z:r=l
 ·rw [z] at e
  exact((nb hn).mp e.1).elim (λp=>((nb hn).mp e.2).elim (λq=>uv v w hv hw ⟨l,p,q⟩) λq=>(no hv hw p q).elim) λp=>((nb hn).mp e.2).elim (λq=>(no hw hv q p).elim) λq=>uv v w hv hw ⟨s,p,q⟩
 ·exact uv v w hv hw ⟨r,((su z).mp e.1).1,((su z).mp e.2).1⟩
structure Jd(P:Prg)(K:Bks)(fs:List az)(E:Eng)(Q:List b4)(E':Eng)(es' Q':List b4):Prop where
 li:LI fs E'.toCor E'.trail.length es' (Q++Q')
 nc:nC E'.root+1=nC E.root
 stp:Stp P K E E'
 qu:E'.queue=E.queue++Q'
 ql:Q'.length<=11
 mks:E'.marks=E.marks
 kn:∀z,Kn E'.root z↔Kn E.root z
 fl:Fnl fs E E' True
theorem Ab(hB:BK K)(L:LI fs E.toCor E.trail.length es ((l0,r0,y)::Q))(hs:E.root left=some s)(hl:E.root right=some l)(hn:s≠l)(h0:∀{α:Type} {f:Int->α},f left=f right->f l0=f r0)(hJ:Jst fs (Eqr E.root) left right y)(hq:E.queue.length<=1000)(uv:UV E.root)(hc:E.clash=none)(hm:E.marks.length<=1000):
  ∃E' Q',(∀g,(af P (n+3) m16t).b (.st,[]) ⟨[(0,.obj .house),(1,iv left),(2,iv right),(3,.dat (vo y))],[],hp P g K E⟩ (A7 (.dat .none) (hp P g K E')))/\Jd P K fs E Q E' (es++[(left,right,y)]) Q':=by
 refine(joinTo (P:=P) (n:=n) hB L hs hl hn h0 hJ hq).casesOn λE4 Q' v1 v2 us w li nc stp qu ql rt V1 V2 rest=> ?_
 by_cases h:v2=0\/v1=0
 ·refine⟨E4,Q',λg=>w g E4 (j_fb h (s:=l) (v:=l) ?_ ?_),li,nc,stp,qu,ql,rest.2,λz=>rt▸jr_kn,.inl ⟨rest.1.trans hc,rt▸uv.join hn V1 V2 h,trivial⟩⟩
  ·rw [rt];exact vu (L.kn _ _ hs).2
  ·rw [rt];exact(nb hn).mpr (.inl (L.kn _ _ hl).2)
 ·have h2:=V2.resolve_left λq=>h (.inl q.1)
  have h1:=V1.resolve_left λq=>h (.inr q.1)
  have r2:E4.root v2=some l:=rt▸vu h2.2
  have r1:E4.root v1=some l:=rt▸(nb hn).mpr (.inl h1.2)
  refine(uc (P:=P) (n:=n+1) hB li.P r2 r1 (li.c1 _ _ ⟨l,r2,r1⟩) (L.kn _ _ h2.2).1 (L.kn _ _ h1.2).1).elim λx hx=> ?_
  refine⟨{E4 with clash:=some x,clv:=E4.marks.length},Q',λg=>w g _ (j_fa (λe=>h (.inl e)) (λe=>h (.inr e)) (hx.1 g) (by rw [rest.2];exact ja hm (by decide))),li,nc,stp.to rfl rfl,qu,ql,rest.2,λz=>rt▸jr_kn,.inr ⟨x,rfl,cGx (λl=>((wj l:Nat):Int)) rest.2,v2,v1,⟨h2.1,h1.1,λe=>hn (sJx (h2.2.symm.trans (e▸h1.2)))⟩,hx.2⟩⟩
theorem join_ok(hB:BK K)(L:LI fs E.toCor E.trail.length es ((l0,r0,y)::Q))(hs:E.root l0=some s)(hl:E.root r0=some l)(hn:s≠l)(hq:E.queue.length<=1000)(uv:UV E.root)(hc:E.clash=none)(hm:E.marks.length<=1000):
  ∃E' Q' es',(∀g,Me P (n+4) 16 .st [iv l0,iv r0,.dat (vo y)] g K E (.dat .none) E')/\Jd P K fs E Q E' es' Q':=by
 have hJ:=(L.qj _ (.head _)).2.2
 refine(L.mem.2 _ (L.kn _ _ hs).2).elim λml h1=>(L.mem.2 _ (L.kn _ _ hl).2).elim λmr h2=> ?_
 have b1:ml.length<=1000000:=ja (h1.2.len λt h=>(L.kn _ _ h).1) (by decide)
 have b2:mr.length<=1000000:=ja (h2.2.len λt h=>(L.kn _ _ h).1) (by decide)
 by_cases h:mr.length<ml.length
 ·refine(Ab (P:=P) (n:=n) hB L hl hs (Ne.symm hn) (λe=>e.symm) (hJ.symm λ_ _=>Eqr.symm) hq uv hc hm).imp λE' q=>q.imp λQ' q=>⟨_,λg=>l16 hs hl h1.1 h2.1 b1 b2 λx y c=>c.elim (λc=> ?_) λc=>(c.1 h).elim,q.2⟩
  rw [c.2.1,c.2.2];exact q.1 g
 ·refine(Ab (P:=P) (n:=n) hB L hs hl hn (λe=>e) hJ hq uv hc hm).imp λE' q=>q.imp λQ' q=>⟨_,λg=>l16 hs hl h1.1 h2.1 b1 b2 λx y c=>c.elim (λc=>(h c.1).elim) λc=> ?_,q.2⟩
  rw [c.2.1,c.2.2];exact q.1 g
theorem LI.skip(L:LI fs C tl es ((a,b,y)::Q))(h:Eqr C.root a b):LI fs C tl es Q:=
 have m:∀{x z},Pq C.root ((a,b,y)::Q) x z->Pq C.root Q x z:=λp=>p.mono (λ_ _ h=>h) λe m=>(jh.mp m).elim (λz _ _ h1 _=>by rw [z];exact h1 _ _ h) λm _ _ _ h2=>h2 e m
 {L with tc:=λt x r h1 h2 h3=>(L.tc t x r h1 h2 h3).imp λo q=>⟨q.1,m q.2⟩,fx:=λf h=>m (L.fx f h),qj:=λe h=>L.qj e (.tail _ h)}
theorem clo_dec{q q1 k c c1:Nat}(e:q1=q+k)(hk:k<=11)(hc:c1+1=c):q1+12*c1+1<=q+12*c:=by
 rw [e,<-hc,Nat.mul_succ,qh q,qh q,we k,qh]
 exact jv (jv (jm hk) _) q
theorem clo_ok(hB:BK K){N:Nat}:∀{spot:Nat} {E:Eng} {es:List b4},LI fs E.toCor E.trail.length es (E.queue.drop spot)->UV E.root->E.clash=none->E.marks.length<=1000->E.queue.length+12*nC E.root<=1000->E.queue.length+12*nC E.root<N+spot->spot<=E.queue.length->
  ∃E' es' Q',Clo P (n+4) K spot E E'/\LI fs E'.toCor E'.trail.length es' Q'/\Stp P K E E'/\E'.marks=E.marks/\(∀z,Kn E'.root z↔Kn E.root z)/\Fnl fs E E' (Q'=[]):=by
 induction N with
 |zero=>exactλ_ _ _ _ _ h q=>absurd (kg h (ja (jd (qn _)) q)) (qr.mpr (ji _ _))
 |succ N ih=>
  intro spot E es L uv hc hm hq hN hS
  have lq:E.queue.length<=1000:=ja (ji _ _) hq
  have lq':E.queue.length<=1000000:=ja lq (by decide)
  by_cases hsp:E.queue.length<=spot
  ·exact⟨E,es,_,.stop lq' (.inl hsp),L,.refl,rfl,λ_=>Iff.rfl,.inl ⟨hc,uv,List.drop_eq_nil_of_le hsp⟩⟩
  have hsp:=Nat.lt_of_not_le hsp
  have he:E.queue[spot]? =some E.queue[spot]:=qo hsp
  rw [List.drop_eq_getElem_cons hsp] at L
  generalize E.queue[spot]=e at he L
  cases e with|mk a e=>cases e with|mk b y=>
  have k:=L.qj _ (.head _)
  refine k.1.elim λra ha=>k.2.1.elim λrb hb=> ?_
  by_cases hab:ra=rb
  ·exact(ih (spot:=spot+1) (L.skip ⟨ra,ha,hab▸hb⟩) uv hc hm hq (Nat.lt_of_lt_of_eq hN (wg N spot)) hsp).imp λE' h=>h.imp λes' h=>h.imp λQ' h=>⟨.same lq' hc he ha (hab▸hb) h.1,h.2⟩
  ·refine(join_ok (P:=P) (n:=n) hB L ha hb hab lq uv hc hm).elim λE1 h=>h.elim λQ1 h=>h.elim λes1 h=> ?_
   have qe:=(cGx wj h.2.qu).trans je
   have dec:=clo_dec qe h.2.ql h.2.nc
   refine h.2.fl.elim (λf=> ?_) λf=> ?_
   ·refine(ih (spot:=spot+1) (E:=E1) (es:=es1) ?_ f.2.1 f.1 (h.2.mks▸hm) (ja (qg dec) hq) (yb (jq dec (Nat.lt_succ_of_lt (Nat.lt_of_lt_of_eq hN (wg N spot))))) (qe▸ja hsp (ji _ _))).imp λE' q=>q.imp λes' q=>q.imp λQ' q=>⟨.join lq' hc he ha hb hab h.1 q.1,q.2.1,h.2.stp.trans q.2.2.1,q.2.2.2.1.trans h.2.mks,λz=>(q.2.2.2.2.1 z).trans (h.2.kn z),?_⟩
    ·rw [h.2.qu,List.drop_append_of_le_length hsp];exact h.2.li
    ·have:=q.2.2.2.2.2;unfold Fnl at this⊢;rw [<-h.2.mks];exact this
   ·refine⟨E1,es1,_,.join lq' hc he ha hb hab h.1 (.stop (ja (ja (ja (ji _ _) (qg dec)) hq) (by decide)) (.inr (f.elim λl f=>by rw [f.1];rfl))),h.2.li,h.2.stp,h.2.mks,h.2.kn,.inr f⟩
theorem Cj(hB:BK K)(L:LI fs E.toCor E.trail.length es E.queue)(uv:UV E.root)(hc:E.clash=none)(hm:E.marks.length<=1000)(hq:E.queue.length<=800):
  ∃E' es' Q',(∀g,Me P (n+5) 15 .st [] g K E (.dat .none) E')/\LI fs E'.toCor E'.trail.length es' Q'/\Stp P K E E'/\E'.marks=E.marks/\E'.queue=[]/\(∀z,Kn E'.root z↔Kn E.root z)/\Fnl fs E E' (Q'=[]):=by
 have hn:nC E.root<=11:=wm _ TT
 exact(clo_ok (P:=P) (n:=n) (N:=E.queue.length+12*nC E.root+1) (spot:=0) hB L uv hc hm (ja (xc hq (ym 12 hn)) (by decide)) (wq _) (jo _)).elim λE' h=>h.elim λes' h=>h.elim λQ' h=>⟨{E' with queue:=[]},es',Q',λg=>l15 h.1,h.2.1,h.2.2.1.to rfl rfl,h.2.2.2.1,rfl,h.2.2.2.2⟩
end
section
section
variable{ρ:Int->Option Int}{t r z a b:Int}
theorem new_kn:Kn (a6 ρ t t) z↔Kn ρ z\/z=t:=by
 by_cases e:z=t
 ·exact⟨λ_=> .inr e,λ_=>⟨t,e▸ag⟩⟩
 ·unfold Kn;rw [ah e];exact(or_iff_left e).symm
theorem er(h:ρ t=none)(k:Kn ρ z):z≠t:=λe=>k.elim λr q=>by rw [e,h] at q;exact(by nomatch q)
theorem Bp(h:ρ t=none)(e:Eqr ρ a b):Eqr (a6 ρ t t) a b:=e.imp λr e=>⟨(ah (er h ⟨r,e.1⟩)).trans e.1,(ah (er h ⟨r,e.2⟩)).trans e.2⟩
theorem ca(h:ρ t=none)(n:r≠t):a6 ρ t t z=some r↔ρ z=some r:=by
 by_cases e:z=t
 ·exact⟨λq=>(n (sJx ((e▸ag:a6 ρ t t z=some t).symm.trans q)).symm).elim,λq=>(er h ⟨r,q⟩ e).elim⟩
 ·rw [ah e]
theorem sj(kn:∀z r,ρ z=some r->ρ r=some r)(h:ρ t=none):a6 ρ t t z=some t↔z=t:=by
 by_cases e:z=t
 ·exact⟨λ_=>e,λ_=>e▸ag⟩
 ·rw [ah e];exact⟨λq=>(er h ⟨t,kn _ _ q⟩ rfl).elim,λq=>(e q).elim⟩
end
variable{P:Prg}{n:Nat}{K:Bks}{E E1:Eng}{fs:List az}{es Q Q':List b4}{t v x s r:Int}{C:Cor}{tl tl':Nat}{us':Int->Option (List Int)}{tb:List Int->Option Int}{u:List Int}
def UseQ(C:Cor)(t r:Int)(l:List Int):Prop:=Lst l λz=>Kn C.root z/\∃x,Ap z x/\a6 C.root t t x=some r
theorem LI.no_t(L:LI fs C tl es Q)(h:C.root t=none):¬(Kn C.root r/\∃x,Ap r x/\a6 C.root t t x=some t):=λq=>q.2.elim λx e=>er h (L.sub r x q.1 e.1) ((sj (λ_ _ h=>(L.kn _ _ h).2) h).mp e.2)
theorem LI.use0(L:LI fs C tl es Q)(h:C.root t=none):Of (a6 C.root t t) (a6 C.use t []) (UseQ C t):=
 L.use.set ⟨qt,λz=>⟨(λh=>(by nomatch h)),λq=>(L.no_t h q).elim⟩⟩ (λz q=>by
  by_cases e:z=t
  ·rw [e,ag] at q;exact(by nomatch q)
  ·rw [ah e] at q;exact⟨q,e⟩) λr q n=>⟨(ca h n).mp q,λa A=>A.congr λz=>and_congr Iff.rfl (exists_congr λx=>and_congr Iff.rfl (ca h n).symm)⟩
theorem LI.useN(L:LI fs C tl es Q)(h:C.root t=none)(no:∀x,¬Ap t x):Of (a6 C.root t t) (a6 C.use t []) (Cg (a6 C.root t t)):=
 ⟨(L.use0 h).1,λr q=>((L.use0 h).2 r q).imp λl A=>⟨A.1,Lst.congr A.2 λz=>⟨λk=>⟨new_kn.mpr (.inl k.1),k.2⟩,λk=>⟨(new_kn.mp k.1).resolve_right λe=>k.2.elim λx a=>no x (e▸a.1),k.2⟩⟩⟩⟩
theorem LI.useA(L:LI fs C tl es Q)(h:C.root t=none)(hx:Ap t x)(hr:a6 C.root t t x=some r)(hn:r≠t)(hu:a6 C.use t [] r=some u)(U:Cg C.root r u):Of (a6 C.root t t) (a6 (a6 C.use t []) r (u++[t])) (Cg (a6 C.root t t)):=by
 have rr:a6 C.root t t r=some r:=(ca h hn).mpr (L.kn _ _ ((ca h hn).mp hr)).2
 refine(L.use0 h).set ⟨fk U.1 λm=>er h ((U.2 t).mp m).1 rfl,λz=> ?_⟩ (λz q=>⟨q,λe=>by rw [e,rr] at q;exact(by nomatch q)⟩) λr' q n=>⟨q,λa A=>Lst.congr A λz=>⟨λk=>⟨new_kn.mpr (.inl k.1),k.2⟩,λk=>⟨(new_kn.mp k.1).resolve_right λe=>k.2.elim λx' a=>n ?_,k.2⟩⟩⟩
 ·refine ke.trans ⟨λm=>m.elim (λm=> ?_) λm=>by rw [jg.mp m];exact⟨new_kn.mpr (.inr rfl),x,hx,hr⟩,λk=>(new_kn.mp k.1).elim (λkz=> .inl ?_) λe=> .inr (e▸ .head _)⟩
  ·have m:=(U.2 z).mp m
   exact⟨new_kn.mpr (.inl m.1),m.2.imp λx q=>⟨q.1,(ca h hn).mpr q.2⟩⟩
  ·exact(U.2 z).mpr ⟨kz,k.2.imp λx q=>⟨q.1,(ca h hn).mp q.2⟩⟩
 ·have e2:=s9 hx (e▸a.1)
  exact sJx (a.2.symm.trans (e2▸hr))
theorem LI.enter(L:LI fs C tl es Q)(ht:t∈TT)(h:C.root t=none)(hsub:∀x,Ap t x->Kn C.root x)(hus:Of (a6 C.root t t) us' (Cg (a6 C.root t t)))(hv:(v=0/\t∉VV)\/(v=t/\t∈VV))(tab:Tab (a6 C.root t t) tb)(ext:∀m z,C.tab m=some z->tb m=some z)
  (new:∀x r,Ap t x->a6 C.root t t x=some r->∃o,tb [0,r]=some o/\Pq (a6 C.root t t) Q' t o) (qj:∀e∈Q',QJ fs (a6 C.root t t) e) (hl:tl'<=tl+2):
  LI fs {root:=a6 C.root t t,mem:=a6 C.mem t [t],use:=us',val:=a6 C.val t v,up:=C.up,tab:=tb} tl' es (Q++Q'):=by
 have kn2:∀z r,C.root z=some r->C.root r=some r:=λ_ _ h=>(L.kn _ _ h).2
 have h0:∀z,a6 C.root t t z=none->C.root z=none/\z≠t:=λz q=>by
  by_cases e:z=t
  ·rw [e,ag] at q;exact(by nomatch q)
  ·rw [ah e] at q;exact⟨q,e⟩
 have mo:∀{a b},Pq C.root Q a b->Pq (a6 C.root t t) (Q++Q') a b:=λp=>p.mono (λ_ _=>Bp h) λe m _ _ _ h2=>h2 e (ki _ m)
 have hk:nK (a6 C.root t t)=nK C.root+1:=Av (k:=t) (by rw [h];rfl) (by rw [ag];rfl) (λz n=>by rw [ah n]) (by decide) ht
 have hc:nC (a6 C.root t t)=nC C.root+1:=Av (k:=t) (dFx (by rw [h];exactλq=>(by nomatch q))) (dTx ag) (λz n=>by rw [ah n]) (by decide) ht
 refine⟨λz r q=> ?_,λz x k a=> ?_,L.mem.set (p':=MemP _) ⟨kj.mpr ⟨(λh=>(by nomatch h)),qt⟩,λz=>jg.trans (sj kn2 h).symm⟩ h0 λr q n=>⟨(ca h n).mp q,λa A=>Lst.congr A λz=>(ca h n).symm⟩,hus,
  L.val.set (p':=Am _) (hv.imp (λ(q:v=0/\t∉VV)=>⟨q.1,λz m e=>q.2 ((sj kn2 h).mp e▸m)⟩) λ(q:v=t/\t∈VV)=>q.1.symm▸⟨q.2,ag⟩) h0 λr q n=>⟨(ca h n).mp q,λa A=>A.imp (λA=>⟨A.1,λz m e=>A.2 z m ((ca h n).mp e)⟩) λA=>⟨A.1,(ca h n).mpr A.2⟩⟩,tab,L.P,λa b e=>e.elim λr e=> ?_,λe m=>Bp h (L.c2 e m),λz x r k a q=> ?_,λf m=>mo (L.fx f m),λe m=>(ke.mp m).elim (λm=>(L.qj e m).mono (λ_ h=>h) (λ_ k=>new_kn.mpr (.inl k)) λ_ _=>Bp h) (qj e),?_⟩
 ·by_cases e:r=t
  ·rw [e] at q⊢;exact⟨(sj kn2 h).mp q▸ht,ag⟩
  ·have q:=L.kn _ _ ((ca h e).mp q);exact⟨q.1,(ca h e).mpr q.2⟩
 ·exact new_kn.mpr (.inl ((new_kn.mp k).elim (λk=>L.sub z x k a) λe=>hsub x (e▸a)))
 ·by_cases z:r=t
  ·rw [z] at e;rw [(sj kn2 h).mp e.1,(sj kn2 h).mp e.2];exact .refl _
  ·exact L.c1 a b ⟨r,(ca h z).mp e.1,(ca h z).mp e.2⟩
 ·by_cases e:z=t
  ·rw [e] at a⊢
   exact(new x r a q).imp λo h=>⟨h.1,h.2.mono (λ_ _ h=>h) λe m _ _ _ h2=>h2 e (qc _ m)⟩
  ·have k:=(new_kn.mp k).resolve_right e
   exact(L.tc z x r k a ((ah (er h (L.sub z x k a))).symm.trans q)).imp λo h=>⟨ext _ _ h.1,mo h.2⟩
 ·have:=L.pot
  show tl'+4*nC (a6 C.root t t)<=6*nK (a6 C.root t t)
  rw [hk,hc]
  exact ja (xl hl _) (by rw [wo];exact xl this 6)
theorem kinds:∀t∈TT,t∈argL.map (·.1)\/(t∈VV/\∀p∈argL,p.1≠t)\/(t∈[3,4,5]/\t∉VV/\∀p∈argL,p.1≠t):=by decide
theorem Ib(h:∀p∈argL,p.1≠t)(x:Int):¬Ap t x:=λa=>h _ a rfl
theorem ap_v(h:Ap t x):t∉VV:=λm=>(by decide:∀p∈argL,p.1∉VV) _ h m
inductive Eo(P:Prg)(n:Nat)(K:Bks)(fs:List az)(E:Eng)(es Q:List b4)(t:Int):Prop
 |mk (E':Eng) (Q':List b4) (w:∀g,Me P (n+4) 11 .st [iv t] g K E (.dat .none) E') (li:LI fs E'.toCor E'.trail.length es (Q++Q')) (stp:Stp P K E E') (qu:E'.queue=E.queue++Q') (ql:Q'.length<=1) (rt:E'.root=a6 E.root t t) (rest:E'.clash=E.clash/\E'.marks=E.marks)
theorem u8(hB:BK K)(L:LI fs E.toCor E.trail.length es Q)(hq:E.queue.length<=1000)(ht:t∈TT)(h:E.root t=none)(hsub:∀x,Ap t x->Kn E.root x):
  Eo P n K fs E es Q t:=by
 have tl:=L.tlen
 have tl':E.trail.length<=1000000:=ja tl (by decide)
 have mt:=L.mem.1 _ h
 have ut:=L.use.1 _ h
 have vt:=L.val.1 _ h
 have l2:∀{x:Ent},(E.trail++[x]).length<=E.trail.length+1:=jd je
 have tab:Tab (a6 E.root t t) E.tab:=λm z q=>(L.tb m z q).imp (λk=>new_kn.mpr (.inl k)) λq=>q.imp λx q=>q.imp λr q=>⟨q.1,(ah (er h ⟨r,q.2.1⟩)).trans q.2.1,q.2.2⟩
 have leaf:∀{v:Int} (no:∀x,¬Ap t x) (hv:(v=0/\t∉VV)\/(v=t/\t∈VV)) (M:∀g,Me P (n+4) 11 .st [iv t] g K E (.dat .none) {E.ent t v with trail:=E.trail++[.enter t []]}),Eo P n K fs E es Q t:=λ{v} no hv M=>
  ⟨_,[],M,L.enter ht h hsub (L.useN h no) hv tab (λ_ _ h=>h) (λx _ a=>(no x a).elim) (λ_ m=>(by nomatch m)) (ja l2 (ko _)),(un_ent0 h mt ut vt).stp rfl ⟨λz=>new_kn.trans (or_congr Iff.rfl jg.symm),.inr ⟨t,rfl,h,ht,hsub⟩⟩,(jk _).symm,jo _,rfl,⟨rfl,rfl⟩⟩
 refine(kinds t ht).elim (λk=>(jf.mp k).elim λp k=> ?_) λk=>k.elim (λk=>(hB.v t k.1).elim λd T=>leaf (Ib k.2) (.inr ⟨rfl,k.1⟩) λg=>l11n T h (rk t ht) tl') λk=>(hB.c t k.1).elim λd T=>leaf (Ib k.2.2) (.inl ⟨rfl,k.2.1⟩) λg=>l11c T h (rk t ht) tl'
 have hx:Ap t p.2:=k.2▸k.1
 generalize p.2=x at hx
 refine(hsub x hx).elim λs hs=> ?_
 have hss:=(L.kn _ _ hs).2
 have sT:=(L.kn _ _ hss).1
 have sn:=er h ⟨_,hss⟩
 have hx':a6 E.root t t x=some s:=(ah (er h ⟨_,hs⟩)).trans hs
 refine(L.use.2 _ hss).elim λu hu=> ?_
 have bu:u.length<=11:=hu.2.len λz q=>q.1.elim λr q=>(L.kn _ _ q).1
 have bu':u.length<=1000000:=ja bu (by decide)
 have hu':a6 E.use t [] s=some u:=(ah sn).trans hu.1
 refine(lks (P:=P) (n:=n) (fs:=fs) (r:=s) (us:=[t]) (E:={E.ent t 0 with use:=a6 (E.ent t 0).use s (u++[t]),trail:=E.trail++[.enter t [s]]}) hB tab (λz m=>by rw [jg.mp m];exact⟨new_kn.mpr (.inr rfl),x,hx,hx'⟩) (rk _ sT) (ja l2 (ja (jm tl) (by decide))) (ja (jm hq) (by decide))).casesOn λtb tr Q' c st len ql tab ext qj fd=> ?_
 refine⟨Eng.lk {E.ent t 0 with use:=a6 (E.ent t 0).use s (u++[t]),trail:=E.trail++[.enter t [s]]} tb tr Q',Q',λg=>l11a (hB.a _ _ hx) h (rk t ht) hx' hu' bu' tl' (by cases c with|cons c1 c2=>cases c2;exact c1 g),L.enter ht h hsub (L.useA h hx hx' sn hu' hu.2) (.inl ⟨rfl,ap_v hx⟩) tab ext (λx' r a q=> ?_) qj (ja len (jm l2)),Stp.trans ((un_ent1 h mt ut vt sn hu.1 bu').stp (E:=E) (E1:={E.ent t 0 with use:=a6 (E.ent t 0).use s (u++[t]),trail:=E.trail++[.enter t [s]]}) rfl ⟨λz=>new_kn.trans (or_congr Iff.rfl jg.symm),.inr ⟨t,rfl,h,ht,hsub⟩⟩) st,rfl,ql,rfl,⟨rfl,rfl⟩⟩
 rw [s9 a hx] at q
 exact sJx (q.symm.trans hx')▸fd t (.head _)
end
section
variable{P:Prg}{n:Nat}{b:Tg->Option AObj}{h:List Int}{x y z u:Int}
theorem ix_d{i:Nat}(e:h[i]? =some x):ao (i:Int) (zs h)=some (.int x):=by
 unfold ao zs
 rw [if_pos (wz _)]
 show(h.map PyData.int)[i]? =_
 rw [jw,e];rfl
theorem l76(e3:ao 3 (zs h)=some (.int x))(e4:ao 4 (zs h)=some (.int y))(e5:ao 5 (zs h)=some (.int z))(hl:h.length<=1000000):FnI P (n+1) .all 76 [.dat (.list (zs h))] b (.dat (.bool (decide (((firstMet (λi=>[x,y,z].getD i 0) 3).length:Int)<3)))) b:=by
 refine enter c76 rt rt ?_
 refine a7 (x:=ao (3:Int) (zs h)) e3 ⟨ac hl,?_⟩
 refine a7 (x:=ao (4:Int) (zs h)) e4 ⟨ac hl,?_⟩
 refine a7 (x:=ao (5:Int) (zs h)) e5 ⟨ac hl,?_⟩
 exact⟨[x,y,z],rfl,(by decide:3<1000),done⟩
theorem cp_c{T:IC->KT->Prop}{Ee:IC->KE->Prop}{ρ:List (Nat×AV)}{i:Nat}{v:AV}{vs:List AV}{c:IC}{K:KL}(f:Bool)(d:PyData)(ht:∀K:KT,K f ⟨aq ρ i v,c.t,c.b⟩->T ⟨aq ρ i v,c.t,c.b⟩ K)(he:∀K:KE,K (.dat d) ⟨aq ρ i v,c.t,c.b⟩->Ee ⟨aq ρ i v,c.t,c.b⟩ K)
  (k:Fe T Ee ρ i vs ⟨aq ρ i v,c.t,c.b⟩ λws c2=>K (if f then .dat d::ws else ws) c2):Fe T Ee ρ i (v::vs) c K:=by
 refine ht _ ?_
 cases f with
 |true=>exact b8 rfl (he _ k)
 |false=>exact ax rfl k
noncomputable def nB(a b c:Bool):Int:=cond a 3 (cond b 4 (cond c 5 (-1)))
noncomputable def nAt(x y z w:Int):Int:=nB (decide (x=w)) (decide (y=w)) (decide (z=w))
theorem l75{w:Int}(e3:ao 3 (zs h)=some (.int x))(e4:ao 4 (zs h)=some (.int y))(e5:ao 5 (zs h)=some (.int z))(eu:ao u (zs h)=some (.int w))(hl:h.length<=1000000):FnI P (n+1) .all 75 [.dat (.list (zs h)),iv u] b (iv (nAt x y z w)) b:=by
 refine enter c75 rt rt ?_
 refine⟨(by decide:3<=1000000),?_⟩
 refine cp_c (decide (x=w)) (.int 3) (λK k=>a7 (x:=ao (3:Int) (zs h)) e3 ⟨ac hl,a7 (x:=ao u (zs h)) eu ⟨ac hl,k⟩⟩) (λK k=>k) ?_
 refine cp_c (decide (y=w)) (.int 4) (λK k=>a7 (x:=ao (4:Int) (zs h)) e4 ⟨ac hl,a7 (x:=ao u (zs h)) eu ⟨ac hl,k⟩⟩) (λK k=>k) ?_
 refine cp_c (decide (z=w)) (.int 5) (λK k=>a7 (x:=ao (5:Int) (zs h)) e5 ⟨ac hl,a7 (x:=ao u (zs h)) eu ⟨ac hl,k⟩⟩) (λK k=>k) ?_
 unfold nAt
 generalize decide (x=w)=f1,decide (y=w)=f2,decide (z=w)=f3
 cases f1 with
 |true=>cases f2 with
  |true=>cases f3 with
   |true=>exact⟨(by decide:3<=1000000),done⟩
   |false=>exact⟨(by decide:2<=1000000),done⟩
  |false=>cases f3 with
   |true=>exact⟨(by decide:2<=1000000),done⟩
   |false=>exact⟨(by decide:1<=1000000),done⟩
 |false=>cases f2 with
  |true=>cases f3 with
   |true=>exact⟨(by decide:2<=1000000),done⟩
   |false=>exact⟨(by decide:1<=1000000),done⟩
  |false=>cases f3 with
   |true=>exact⟨(by decide:1<=1000000),done⟩
   |false=>exact done
end
section
structure Lw where
 cells:List Int
 spot:Nat
 ids:List Nat
 lv:Nat->Option (List PyData)
 known:List Int
 terms:List Int
noncomputable def Cu(c:List Int)(s:Nat):AObj:= .dictS (bt (λ_=>none) [(S "cells",.dat (.list (zs c))),(S "spot",iv s)])
noncomputable def Fy(L:Lw):Tg->Option AObj
 | .feed=>some (Cu L.cells L.spot)
 | .state=>some (.dictS (bt (λ_=>none) [(S "terms",.dat (.list (zs L.terms))),(S "levels",.obj .levels),(S "known",.obj .known)]))
 | .levels=>some (.list true (L.ids.map λi=> .obj (.lvl i)))
 | .known=>Mine.Internal.ls (zs L.known)
 | .lvl i=>(L.lv i).bind Mine.Internal.ls
 |_=>none
noncomputable def hl(P:Prg)(g:Aside)(K:Bks)(E:Eng)(L:Lw):Tg->Option AObj:=hp P {g with r:=Fy L} K E
variable{P:Prg}{n:Nat}{g:Aside}{K:Bks}{E:Eng}{L:Lw}{wide x:Int}
noncomputable def bf(cells:List Int)(spot:Nat)(wide:Int):Int:=match cells[spot]? with
 |some x=>x%wide
 |none=>(7*(spot:Int)*spot+3*spot+5*cells.length+2)%97%wide
theorem e_spot{s:Nat}{f:Str->Option AV}(h:f=bt (λ_=>none) [(S "cells",.dat (.list (zs L.cells))),(S "spot",iv s)]):up (hl P g K E L) .feed (.dictS f)=hl P g K E {L with spot:=s}:=h▸funext λτ=>by
 cases τ with
 |ls k t=>cases k<;>rfl
 |dct k=>cases k<;>rfl
 |_=>rfl
theorem at_feed:hl P g K E L .feed=some (Cu L.cells L.spot):=rfl
theorem Fj{K α:Type}[DecidableEq K]{f:K->Option α}{k:K}{u v:α}:a6 (a6 f k u) k v=a6 f k v:=funext λz=>by
 by_cases e:z=k
 ·rw [e,ag,ag]
 ·rw [ah e,ah e,ah e]
theorem l72(hw:0<wide)(hs:L.spot<=1000)(hc:L.cells.length<=1000):FnI P (n+1) .st 72 [.obj .feed,iv wide] (hl P g K E L) (iv (bf L.cells L.spot wide)) (hl P g K E {L with spot:=L.spot+1}):=by
 have m1:∀{a b:Int},0<=a->a<=7000->IntMulOk a b:=λh g=>IntMulOk.of_left (intBits_le_64 (Int.lt_of_lt_of_le (by decide) h) (xr g (by decide)))
 refine enter c72 rt rt ?_
 refine a8 (e_spot (s:=L.spot+1) Fj) ?_
 refine⟨ac (ja hc (by decide)),?_⟩
 have hz:(zs L.cells).length=L.cells.length:=jb _
 unfold bf
 by_cases q:L.spot<L.cells.length
 ·rw [qo q]
  refine b8 (dTx (by rw [hz];exact qz.mpr q)) ?_
  refine a7 (x:=ao (L.spot:Int) (zs L.cells)) (ix_d (qo q)) ⟨ac (ja hc (by decide)),?_⟩
  exact⟨hw,done⟩
 ·rw [List.getElem?_eq_none (xw q)]
  refine ax (dFx (by rw [hz];exactλz=>q (qz.mp z))) ?_
  refine⟨m1 (by decide) (by decide),m1 (Int.mul_nonneg (by decide) (wz _)) (Int.mul_le_mul_of_nonneg_left (Int.ofNat_le.mpr hs) (by decide)),m1 (by decide) (by decide),ac (ja hc (by decide)),m1 (by decide) (by decide),(by decide),hw,A5 ?_⟩
  rw [hz];rfl
variable{o':AObj}
noncomputable def Lw.facts(L:Lw):List Nat->List PyData
 |[]=>[]
 |i::l=>(L.lv i).getD []++L.facts l
def Lw.ok(L:Lw)(l:List Nat):Prop:=∀i∈l,∃d,L.lv i=some d
theorem l77w{l:List Nat}:L.ok l->∀{acc:List PyData} {k:KB},(acc++L.facts l).length<=1000000->k .next ⟨[(0,.obj .state),(1,.dat (.list (acc++L.facts l)))],[],up (hl P g K E L) .levels o'⟩->
  lp ((af P n (.set 1 (.bin .add (.var 1) (.var 2)) (.nil))).b (.all,[.levels])) (mj true [2]) (IC.keep [0,1]) k (l.map λi=> .obj (.lvl i)) ⟨[(0,.obj .state),(1,.dat (.list acc))],[],up (hl P g K E L) .levels o'⟩:=by
 induction l with
 |nil=>exactλ_ {acc k} h hk=>jk acc▸hk
 |cons i l ih=>
  intro hx acc k h hk
  refine(hx i (.head _)).elim λd e0=> ?_
  have e:acc++L.facts (i::l)=(acc++d)++L.facts l:=(cGx (λo:Option (List PyData)=>acc++(o.getD []++L.facts l)) e0).trans (jy ..).symm
  rw [e] at h hk
  refine a7 (x:=(L.lv i).bind Mine.Internal.ls) (a:= .list true (d.map .dat)) (by rw [e0];rfl) ⟨d,rfl,gc h,?_⟩
  exact ci (ih (λj m=>hx j (.tail _ m)) h hk) rfl
theorem l77(hx:L.ok L.ids)(h:(L.facts L.ids).length<=1000000):FnI P (n+1) .all 77 [.obj .state] (hl P g K E L) (.dat (.list (L.facts L.ids))) (hl P g K E L):=by
 refine enter c77 rt rt ?_
 refine og (b:=hl P g K E L) (τ:= .levels) rfl fy rfl ?_
 refine⟨λv m=>(jf.mp m).elim λi e=>e.2▸ ?_,?_⟩
 ·exact Or.inl rfl
 show lp _ _ _ _ (L.ids.map λi=> .obj (.lvl i)) _
 refine ci (l77w hx (acc:=[]) h ?_) rfl
 exact l9 (b:=hl P g K E L) (τ:= .levels) rfl rfl done
variable{u:Int}{lr:List Int->Int->List Int}
noncomputable def apps:List (Int×Int):=[(0,6),(1,7),(3,8),(4,9),(6,10)]
noncomputable def H6(kn:List Int)(u:Int):List Int:=if u∈kn then kn else kn++[u]
noncomputable def sv(lr:List Int->Int->List Int)(u:Int)(kn:List Int)(p:Int×Int):List Int:=if p.2=u then lr kn p.1 else kn
noncomputable def be:Nat->List Int->Int->List Int
 |0,kn,_=>kn
 |m+1,kn,u=>H6 (apps.foldl (sv (be m) u) kn) u
def Kw(kn:List Int):Prop:=kn.Nodup/\∀z∈kn,z+3∈TT
abbrev SL(P:Prg)(n:Nat)(g:Aside)(K:Bks)(E:Eng)(lr:List Int->Int->List Int)(u:Int):Prop:=∀L:Lw,Kw L.known->FnI P n .st 79 [.obj .state,iv u] (hl P g K E L) (.dat .none) (hl P g K E {L with known:=lr L.known u})
theorem l79w{ps:List (Int×Int)}(H:∀p∈ps,p.2=u->SL P n g K E lr p.1/\∀kn,Kw kn->Kw (lr kn p.1)):∀{L:Lw} {k:KB},Kw L.known->k .next ⟨[(0,.obj .state),(1,iv u)],[],hl P g K E {L with known:=ps.foldl (sv lr u) L.known}⟩->
  lp ((af P n (.ifs (.cmp .eq (.var 3) (.var 1)) (.ex (.fn 79 (.cons (.var 0) (.cons (.var 2) (.nil)))) (.nil)) (.nil) (.nil))).b (.st,[])) (mj false [2,3]) (IC.keep [0,1]) k (ps.map λp=> .dat (.tuple [.int p.1,.int p.2])) ⟨[(0,.obj .state),(1,iv u)],[],hl P g K E L⟩:=by
 induction ps with
 |nil=>exactλ{L k} _ hk=>hk
 |cons p ps ih=>
  intro L k d hk
  by_cases e:p.2=u
  ·have h:=H p (.head _) e
   refine b8 (gn e) (b7 (h.1 L d) rt ?_)
   refine ci (ih (λq m=>H q (.tail _ m)) (L:={L with known:=lr L.known p.1}) (h.2 _ d) ?_) rfl
   have:sv lr u L.known p=lr L.known p.1:=if_pos e
   rw [List.foldl_cons,this] at hk;exact hk
  ·refine ax (de e) ?_
   refine ci (ih (λq m=>H q (.tail _ m)) d ?_) rfl
   have:sv lr u L.known p=L.known:=if_neg e
   rw [List.foldl_cons,this] at hk;exact hk
theorem l79v{ps:List (Int×Int)}{vs:List AV}(hv:vs=ps.map λp=> .dat (.tuple [.int p.1,.int p.2]))(H:∀p∈ps,p.2=u->SL P n g K E lr p.1/\∀kn,Kw kn->Kw (lr kn p.1)){L:Lw}{k:KB}(d:Kw L.known)(hk:k .next ⟨[(0,.obj .state),(1,iv u)],[],hl P g K E {L with known:=ps.foldl (sv lr u) L.known}⟩):
  lp ((af P n (.ifs (.cmp .eq (.var 3) (.var 1)) (.ex (.fn 79 (.cons (.var 0) (.cons (.var 2) (.nil)))) (.nil)) (.nil) (.nil))).b (.st,[])) (mj false [2,3]) (IC.keep [0,1]) k vs ⟨[(0,.obj .state),(1,iv u)],[],hl P g K E L⟩:=hv▸l79w H d hk
variable{m:Nat}{E1 E2:Eng}{fs:List az}{es Q Q':List b4}{t z:Int}{ρ:Int->Option Int}{kn:List Int}{ps:List (Int×Int)}
noncomputable def Dp:Nat->Int->Prop
 |0,_=>False
 |m+1,t=>t∈TT/\∀x,Ap t x->Dp m x
theorem dp3(h:t∈TT):Dp 3 t:=⟨h,λ_ hx=>⟨(pz hx).2.1,λ_ hy=>⟨(pz hy).2.1,λ_ hw=>(by decide:∀p∈argL,∀q∈argL,∀r∈argL,p.2=q.1->q.2=r.1->False) _ hx _ hy _ hw rfl rfl⟩⟩⟩
theorem sub3:z=t-3↔z+3=t:=⟨λh=>h▸xn ..,λh=>h▸(wc ..).symm⟩
def KR(kn:List Int)(ρ:Int->Option Int):Prop:=∀z,z∈kn↔Kn ρ (z+3)
theorem adK_mem:z∈H6 kn u↔z∈kn\/z=u:=by
 unfold H6
 split
 ·rename_i h;exact⟨.inl,λq=>q.elim id λe=>e▸h⟩
 ·exact ke.trans (or_congr Iff.rfl jg)
theorem KR.new(h:KR kn ρ):KR (H6 kn (t-3)) (a6 ρ t t):=λz=>adK_mem.trans ((or_congr (h z) sub3).trans new_kn.symm)
theorem H9(t:Int):(∃x,Ap t x)\/∀p∈argL,p.1≠t:=by
 by_cases h:t∈argL.map (·.1)
 ·exact(jf.mp h).elim λp q=> .inl ⟨p.2,q.2▸q.1⟩
 ·exact .inr λp m e=>h (jf.mpr ⟨p,m,e⟩)
theorem fold_id:∀{kn:List Int},(∀p∈ps,p.2≠u)->ps.foldl (sv lr u) kn=kn:=by
 induction ps with
 |nil=>exactλ_=>rfl
 |cons p ps ih=>exactλh=>(cGx (λk=>ps.foldl (sv lr u) k) (if_neg (h p (.head _)))).trans (ih λq m=>h q (.tail _ m))
theorem Hy(h:∀p∈argL,p.1≠t):apps.foldl (sv lr (t-3)) kn=kn:=fold_id λp m e=>h _ ((by decide:∀p∈apps,(p.2+3,p.1+3)∈argL) p m) (sub3.mp e)
theorem B9(h:Ap t x):apps.foldl (sv lr (t-3)) kn=lr kn (x-3):=
 (qd.mpr ⟨rfl,qd.mpr ⟨rfl,qd.mpr ⟨rfl,qd.mpr ⟨rfl,qd.mpr ⟨rfl,λ_ h=>(by nomatch h)⟩⟩⟩⟩⟩:∀p∈argL,apps.foldl (sv lr (p.1-3)) kn=lr kn (p.2-3)) _ h
theorem Dh(h:KR kn ρ)(sub:∀t x,Kn ρ t->Ap t x->Kn ρ x):∀{m:Nat} {t:Int},Kn ρ t->be m kn (t-3)=kn:=by
 intro m
 induction m with
 |zero=>exactλ_=>rfl
 |succ m ih=>
  intro t k
  have e:apps.foldl (sv (be m) (t-3)) kn=kn:=(H9 t).elim (λq=>q.elim λx a=>(B9 a).trans (ih (sub t x k a))) Hy
  exact(cGx (λk=>H6 k (t-3)) e).trans (if_pos ((h _).mpr (by rw [xn];exact k)))
theorem inner_ok(hB:BK K)(ht:t∈TT):∃as,(∀g E,Me P (n+2) 9 .all [iv t] g K E (.dat (.tuple (zs as))) E)/\((as=[]/\∀p∈argL,p.1≠t)\/∃x,as=[x]/\Ap t x):=
 (kinds t ht).elim (λk=>(jf.mp k).elim λp k=>⟨[p.2],λg E=>b9a (hB.a _ _ (k.2▸k.1)) tx rfl,.inr ⟨p.2,rfl,k.2▸k.1⟩⟩) λk=>k.elim (λk=>(hB.v t k.1).elim λd T=>⟨[],λg E=>b9n T tx rfl,.inl ⟨rfl,k.2⟩⟩) λk=>(hB.c t k.1).elim λd T=>⟨[],λg E=>b9a T tx rfl,.inl ⟨rfl,k.2.2⟩⟩
inductive Ao(P:Prg)(n:Nat)(K:Bks)(fs:List az)(E:Eng)(es:List b4)(t:Int)(m:Nat):Prop
 |mk (E':Eng) (li:LI fs E'.toCor E'.trail.length es E'.queue) (stp:Stp P K E E') (rest:E'.clash=E.clash/\E'.marks=E.marks) (ql:E'.queue.length<=E.queue.length+m) (nom:∀a b,Eqr E'.root a b->a=b\/Eqr E.root a b) (add:∀st E2,st.length+m<=100->Add P (n+4) K st E' E2->Add P (n+4) K (st++[t]) E E2) (kt:Kn E'.root t) (lt:∀z,Kn E'.root z->Kn E.root z\/z<=t) (lrn:∀kn,KR kn E.root->KR (be m kn (t-3)) E'.root)
theorem vd{st:List Int}{k:Nat}(h:st.length+(m+1)<=100)(hk:100<=k):(st++[t]).length+m<=k:=by
 rw [je,qh,we _ m];exact ja h hk
theorem Bq(L:LI fs E.toCor E.trail.length es Q)(h:E.root t=none)(hr:ρ=a6 E.root t t)(a b:Int)(e:Eqr ρ a b):a=b\/Eqr E.root a b:=e.elim λr e=>by
 rw [hr] at e
 by_cases z:r=t
 ·rw [z] at e
  have kn2:∀z r,E.root z=some r->E.root r=some r:=λ_ _ h=>(L.kn _ _ h).2
  exact .inl (((sj kn2 h).mp e.1).trans ((sj kn2 h).mp e.2).symm)
 ·exact .inr ⟨r,(ca h z).mp e.1,(ca h z).mp e.2⟩
theorem add_ok(hB:BK K){m:Nat}:∀{t:Int} {E:Eng},Dp m t->LI fs E.toCor E.trail.length es E.queue->E.queue.length+m<=100->Ao P n K fs E es t m:=by
 induction m with
 |zero=>exactλh=>h.elim
 |succ m ih=>
  intro t E hd L hq
  cases hk:E.root t with
  |some r=>exact⟨E,L,.refl,⟨rfl,rfl⟩,ji _ _,λ_ _=> .inr,λst E2 hs A=> .known (ja (ji _ _) (vd hs (by decide))) (cGx kq hk) A,⟨r,hk⟩,λ_=> .inl,λkn q=>by rw [Dh q L.sub ⟨r,hk⟩];exact q⟩
  |none=>
   have ht:=hd.1
   refine(inner_ok (P:=P) (n:=n+2) hB ht).elim λas I=> ?_
   have is:∀{x:Int} {E:Eng},Kn E.root x->(E.root x).isSome=true:=λk=>k.elim λr k=>cGx kq k
   by_cases hsub:∀x,Ap t x->Kn E.root x
   ·refine(u8 (P:=P) (n:=n) hB L (ja (ja (ji _ _) hq) (by decide)) ht hk hsub).casesOn λE' Q' w li stp qu ql rt rest=> ?_
    refine⟨E',qu▸li,stp,rest,?_,Bq L hk rt,λst E2 hs A=> .new (ja (ji _ _) (vd hs (by decide))) (cGx kq hk) (λg=>I.1 g E) (I.2.imp And.left λh=>h.imp λx h=>⟨h.1,is (hsub x h.2)⟩) w A,rt▸new_kn.mpr (.inr rfl),λz k=>(new_kn.mp (rt▸k)).imp id λe=>Int.le_of_eq e,λkn q=> ?_⟩
    ·rw [qu,je];exact jv (ja ql (jm (jo _))) _
    ·have e:apps.foldl (sv (be m) (t-3)) kn=kn:=(H9 t).elim (λh=>h.elim λx a=>(B9 a).trans (Dh q L.sub (hsub x a))) Hy
     rw [rt];show KR (H6 (apps.foldl (sv (be m) (t-3)) kn) (t-3)) _;rw [e];exact q.new
   ·refine(H9 t).elim (λh=>h.elim λx a=> ?_) λh=>(hsub λx a=>(Ib h x a).elim).elim
    have hkx:E.root x=none:=by
     cases q:E.root x with
     |none=>rfl
     |some r=>exact(hsub λy b=>s9 a b▸⟨r,q⟩).elim
    refine(ih (hd.2 x a) L (ja (jv (ko m) _) hq)).casesOn λE1 L1 s1 r1 q1 n1 a1 k1 lt1 l1=> ?_
    have ht1:E1.root t=none:=by
     cases q:E1.root t with
     |none=>rfl
     |some r=>exact((lt1 t ⟨r,q⟩).elim (λk=>er hk k rfl) λh=>Int.not_le.mpr (pz a).2.2 h).elim
    refine(u8 (P:=P) (n:=n) hB L1 (ja q1 (ja (ja (jv (ko m) _) hq) (by decide))) ht ht1 λy b=>s9 a b▸k1).casesOn λE' Q' w li stp qu ql rt rest=> ?_
    have ia:as=[x]:=I.2.elim (λe=>(Ib e.2 x a).elim) λh=>h.elim λy h=>by rw [s9 a h.2];exact h.1
    refine⟨E',qu▸li,s1.trans stp,⟨rest.1.trans r1.1,rest.2.trans r1.2⟩,?_,λa b e=>(Bq L1 ht1 rt a b e).elim .inl (n1 a b),λst E2 hs A=> .more (ja (jm (ja (ji _ _) (vd hs (jc _)))) (by decide)) (cGx kq hk) (λg=>ia▸I.1 g E) (cGx kq hkx) (a1 _ _ (vd hs (jc _)) (.new (ja (ji _ _) (vd hs (by decide))) (cGx kq ht1) (λg=>I.1 g E1) (.inr ⟨x,ia,is k1⟩) w A)),rt▸new_kn.mpr (.inr rfl),λz k=>(new_kn.mp (rt▸k)).elim (λk=>(lt1 z k).imp id λh=>Int.le_of_lt (xr h (pz a).2.2)) λe=> .inr (Int.le_of_eq e),λkn q=> ?_⟩
    ·rw [qu,je];exact(xc q1 ql:_<=E.queue.length+m+1)
    ·rw [rt];show KR (H6 (apps.foldl (sv (be m) (t-3)) kn) (t-3)) _;rw [B9 a];exact(l1 kn q).new
variable{S:Eng}{a b:Int}{C C1:Cor}{seg:List Ent}{ent l1 l2 mk0 mk1 l:List Int}{tl:Nat}{R R':Int->Int->Prop}
theorem Cl.mono(h:∀x y,R x y->R' x y)(c:Cl R a b):Cl R' a b:=λα f h1 h2=>c α f (λx y q=>h1 x y (h x y q)) h2
def F0(fs:List az)(a b:Int):Prop:=∃m,(a,b,m)∈fs
def Cons(fs:List az):Prop:=∀v w,v∈VV->w∈VV->Cl (F0 fs) v w->v=w
theorem Told.all(h:Told fs a b l):Cl (F0 fs) a b:=h.elim λf h=>h.2.2.2.2.mono λx y q=>q.imp λm q=>q.1
theorem ClashJ.not(h:ClashJ fs l)(c:Cons fs):False:=h.elim λv h=>h.elim λw h=>h.1.2.2 (c v w h.1.1 h.1.2.1 h.2.all)
structure Good(fs:List az)(E:Eng):Prop where
 li:∃es,LI fs E.toCor E.trail.length es []
 uv:UV E.root
 cl:E.clash=none
 qu:E.queue=[]
theorem UV.nom{ρ ρ':Int->Option Int}(u:UV ρ)(h:∀a b,Eqr ρ' a b->a=b\/Eqr ρ a b):UV ρ':=λv w hv hw e=>(h v w e).elim id (u v w hv hw)
theorem tz(hB:BK K)(L:LI fs E.toCor E.trail.length es E.queue)(uv:UV E.root)(hc:E.clash=none)(hm:E.marks.length<=1000)(hq:E.queue.length<=800)(c:Cons fs):
  ∃E',(∀g,Me P (n+5) 15 .st [] g K E (.dat .none) E')/\Good fs E'/\Stp P K E E'/\E'.marks=E.marks/\∀z,Kn E'.root z↔Kn E.root z:=
 (Cj (P:=P) (n:=n) hB L uv hc hm hq).imp λE' h=>h.elim λes' h=>h.elim λQ' h=>⟨h.1,h.2.2.2.2.2.2.elim (λf=>⟨⟨es',f.2.2▸h.2.1⟩,f.2.1,f.1,h.2.2.2.2.1⟩) λf=>f.elim λl f=>(f.2.2.not c).elim,h.2.2.1,h.2.2.2.1,h.2.2.2.2.2.1⟩
theorem oq(hB:BK K)(G:Good fs E)(c:Cons fs)(ht:t∈TT)(hm:E.marks.length<=1000):
  ∃E',(∀g,Me P (n+6) 10 .st [iv t] g K E (.dat .none) E')/\Good fs E'/\Stp P K E E'/\E'.marks=E.marks/\Kn E'.root t/\∀kn,KR kn E.root->KR (be 3 kn (t-3)) E'.root:=by
 refine G.li.elim λes L=> ?_
 refine(add_ok (P:=P) (n:=n+1) (E:=E) hB (dp3 ht) (G.qu.symm▸L) (by rw [G.qu];decide)).casesOn λE1 L1 s1 r1 q1 n1 a1 k1 lt1 l1=> ?_
 rw [G.qu] at q1
 exact(tz (P:=P) (n:=n) hB L1 (G.uv.nom n1) (r1.1.trans G.cl) (r1.2▸hm) (ja q1 (by decide)) c).imp λE' h=>⟨λg=>l10 (a1 [] E1 (by decide) .nil) (h.1 g),h.2.1,s1.trans h.2.2.1,h.2.2.2.1.trans r1.2,(h.2.2.2.2 t).mpr k1,λkn q z=>(l1 kn q z).trans (h.2.2.2.2 _).symm⟩
theorem LI.fact{m:Int}(L:LI fs C tl es [])(ha:Kn C.root a)(hb:Kn C.root b):LI (fs++[(a,b,m)]) C tl es [(a,b,.mk m)]:=
 have mo:∀{x z},Pq C.root [] x z->Pq C.root [(a,b,.mk m)] x z:=λp=>p.mono (Q:=[]) (λ_ _ h=>h) (λ_ m=>(by nomatch m))
 {L with
  P:=⟨L.P.F,L.P.u,λp e q h=>(L.P.j p e q h).mono (λ_=>ki _) λ_ _ h=>h⟩
  tc:=λt x r h1 h2 h3=>(L.tc t x r h1 h2 h3).imp λo q=>⟨q.1,mo q.2⟩
  fx:=λf h=>(cm h).elim (λh=>mo (L.fx f h)) λe=>e▸λ_ _ _ h2=>h2 _ (.head _)
  qj:=λe h=>jg.mp h▸⟨ha,hb,.inl (qc _ (.head _))⟩}
theorem merge_ok{m:Int}(hB:BK K)(G:Good fs E)(c:Cons fs)(ha:a∈TT)(hb:b∈TT)(hm:E.marks.length<=1000):
  ∃E',(∀g,Me P (n+7) 14 .st [iv a,iv b,.dat (.int m)] g K E (.dat .none) E')/\Stp P K E E'/\E'.marks=E.marks/\E'.trail.length<=66/\(∀kn,KR kn E.root->KR (be 3 (be 3 kn (a-3)) (b-3)) E'.root)/\
   (Good (fs++[(a,b,m)]) E'\/∃l,E'.clash=some l/\E'.clv=E.marks.length/\ClashJ (fs++[(a,b,m)]) l):=by
 refine(oq (P:=P) (n:=n) hB G c ha hm).elim λE1 h1=>(oq (P:=P) (n:=n) hB h1.2.1 c hb (h1.2.2.2.1▸hm)).elim λE2 h2=> ?_
 have G2:=h2.2.1
 have mk2:=h2.2.2.2.1.trans h1.2.2.2.1
 have ka:Kn E2.root a:=h2.2.2.1.casesOn λseg ent t b=>b.mono a h1.2.2.2.2.1
 refine G2.li.elim λes L2=> ?_
 refine(Cj (P:=P) (n:=n+1) (E:={E2 with queue:=E2.queue++[(a,b,.mk m)]}) (fs:=fs++[(a,b,m)]) (es:=es) hB (by show LI _ _ _ _ (E2.queue++_);rw [G2.qu];exact L2.fact ka h2.2.2.2.2.1) G2.uv G2.cl (mk2.symm▸hm) (by show(E2.queue++_).length<=_;rw [G2.qu];exact wx rfl)).imp λE3 h=>h.elim λes3 h=>h.elim λQ3 h=>⟨λg=>l14 (w:= .mk m) (h1.1 g) (h2.1 g) (by rw [G2.qu];exact jo _) (h.1 g),h1.2.2.1.trans (h2.2.2.1.trans (h.2.2.1.from rfl rfl)),h.2.2.2.1.trans mk2,h.2.1.tlen,λkn q z=>(h2.2.2.2.2.2 _ (h1.2.2.2.2.2 kn q) z).trans (h.2.2.2.2.2.1 _).symm,?_⟩
 exact h.2.2.2.2.2.2.elim (λf=> .inl ⟨⟨es3,f.2.2▸h.2.1⟩,f.2.1,f.1,h.2.2.2.2.1⟩) λf=> .inr<|f.imp λl f=>⟨f.1,f.2.1.trans (cGx (λl=>((wj l:Nat):Int)) mk2),f.2.2⟩
theorem Chn.app{T:Int->Eng->Eng->Prop}(h:Chn T l1 E E1)(g:Chn T l2 E1 E2):Chn T (l1++l2) E E2:=by
 induction h with
 |nil=>exact g
 |cons s _ ih=>exact .cons s (ih g)
theorem Lq(hB:BK K)(b:Bck P K C C1 seg ent):∀{E:Eng},LI fs E.toCor E.trail.length es E.queue->(∀z,Kn E.root z↔Kn C.root z)->E.queue.length+ent.length<=100->
  ∃E',Chn (H5 P (n+4) 11 K) ent E E'/\LI fs E'.toCor E'.trail.length es E'.queue/\Stp P K E E'/\(E'.clash=E.clash/\E'.marks=E.marks)/\(∀a b,Eqr E'.root a b->a=b\/Eqr E.root a b)/\(∀z,Kn E'.root z↔Kn C1.root z)/\E'.queue.length<=E.queue.length+ent.length:=by
 induction b with
 |same=>exactλ{E} L k _=>⟨E,.nil,L,.refl,⟨rfl,rfl⟩,λ_ _=> .inr,k,jc _⟩
 | @snoc C1 C2 seg ent en x b u q ih=>
  intro E L k hq
  rw [je] at hq⊢
  refine(ih L k (ja (jv (ji _ _) _) hq)).elim λE1 h=> ?_
  have kz:=h.2.2.2.2.2.1
  refine q.2.elim (λe=> ?_) λe=>e.elim λt e=> ?_
  ·rw [e,jk]
   exact⟨E1,h.1,h.2.1,h.2.2.1,h.2.2.2.1,h.2.2.2.2.1,λz=>(kz z).trans (((q.1 z).trans (e▸or_iff_left (λh=>(by nomatch h)))).symm),h.2.2.2.2.2.2⟩
  ·have h1:E1.root t=none:=by
    cases z:E1.root t with
    |none=>rfl
    |some r=>exact(er e.2.1 ((kz t).mp ⟨r,z⟩) rfl).elim
   rw [e.1] at hq⊢
   have ql:=h.2.2.2.2.2.2
   refine(u8 (P:=P) (n:=n) hB h.2.1 (ja ql (ja (ja (jv (ji _ _) _) hq) (by decide))) e.2.2.1 h1 λx a=>(kz x).mpr (e.2.2.2 x a)).casesOn λE' Q' w li stp qu ql' rt rest=>⟨E',h.1.app (.cons w .nil),qu▸li,h.2.2.1.trans stp,⟨rest.1.trans h.2.2.2.1.1,rest.2.trans h.2.2.2.1.2⟩,λa b g=>(Bq h.2.1 h1 rt a b g).elim .inl (h.2.2.2.2.1 a b),λz=> ?_,?_⟩
   ·rw [rt,q.1,e.1,jg];exact new_kn.trans (or_congr (kz z) Iff.rfl)
   ·rw [qu,je];exact ja (xc ql ql') (jd (qh ..))
theorem pop_ok{p:Int}(hB:BK K)(G:Good fs S)(c:Cons fs)(s:Stp P K S E)(hp_:p=mk1.length+1)(hk:E.marks=mk0++(S.trail.length:Int)::mk1)(hm:E.marks.length<=1000)(ht:E.trail.length<=66)(hc:E.clash=none\/(mk0.length:Int)<E.clv):
  ∃E',(∀g,∃g',g'.r=g.r/\FnI P (n+6) .s2 38 [.obj .house,iv p] (hp P g K E) (.dat .none) (hp P g' K E'))/\Good fs E'/\Stp P K S E'/\E'.marks=mk0/\∀z,Kn E'.root z↔Kn E.root z:=by
 refine G.li.elim λes L=>s.casesOn λseg ent tr b=> ?_
 have sl:ent.length<=66:=ja b.len (ja (ja (Nat.le_add_left _ _) (jd (tr▸je.symm))) ht)
 have hc':(if(mk0.length:Int)<E.clv then none else E.clash)=none:=by
  by_cases q:(mk0.length:Int)<E.clv
  ·exact if_pos q
  ·exact(if_neg q).trans (hc.resolve_right q)
 have m0:mk0.length<=1000:=gc (hk▸hm)
 refine(Lq (n:=n+1) (fs:=fs) (es:=es) (E:={E with toCor:=S.toCor,trail:=S.trail,marks:=mk0,queue:=[],clash:=if(mk0.length:Int)<E.clv then none else E.clash}) hB b L (λ_=>Iff.rfl) (ja (jd (qn _)) (ja sl (by decide)))).elim λE1 h=> ?_
 refine(tz (P:=P) (n:=n) hB h.2.1 (G.uv.nom h.2.2.2.2.1) (h.2.2.2.1.1.trans hc') (h.2.2.2.1.2▸m0) (ja h.2.2.2.2.2.2 (ja (jd (qn _)) (ja sl (by decide)))) c).imp λE' h2=>⟨λg=> ?_,h2.2.1,(h.2.2.1.trans h2.2.2.1).from rfl rfl,h2.2.2.2.1.trans h.2.2.2.1.2,λz=>(h2.2.2.2.2 z).trans (h.2.2.2.2.2.1 z)⟩
 have w:=l38 (n:=n+3) (g:=g) (E:=E) (tr:=S.trail) (mk0:=mk0) hp_ b (ja sl (by decide)) (ja (hk▸hm) (by decide)) (tr▸ja ht (by decide)) h.1 h2.1
 rw [<-hk,<-tr] at w
 exact w
variable{r v w:Int}{tab:List Int->Option Int}
noncomputable def dst(ρ:Int->Option Int)(tab:List Int->Option Int)(w:Nat×Int):Nat×Int:=match w.1 with
 |0=>match(tab [0,w.2]).bind ρ with
  |some q=>(0,q)
  |none=>(1,w.2)
 |k+1=>(k+2,w.2)
noncomputable def Dn(ρ:Int->Option Int)(tab:List Int->Option Int):Nat->Int->Nat×Int
 |0,t=>(0,t)
 |m+1,t=>match ρ t with
  |some r=>(0,r)
  |none=>match argL.lookup t with
   |some x=>dst ρ tab (Dn ρ tab m x)
   |none=>(0,t)
theorem lk_ap(h:Ap t x):argL.lookup t=some x:=(by decide:∀p∈argL,argL.lookup p.1=some p.2) _ h
theorem lk_no(h:∀p∈argL,p.1≠t):argL.lookup t=none:=List.lookup_eq_none_iff.mpr λp m=>bne_iff_ne.mpr (Ne.symm (h p m))
theorem mv(h:ρ t=some r):Dn ρ tab (m+1) t=(0,r):=by unfold Dn;rw [h]
theorem Dn_ap(h:ρ t=none)(a:Ap t x):Dn ρ tab (m+1) t=dst ρ tab (Dn ρ tab m x):=by
 conv=>lhs;unfold Dn
 rw [h,lk_ap a]
theorem Cd(h:ρ t=none)(a:∀p∈argL,p.1≠t):Dn ρ tab (m+1) t=(0,t):=by unfold Dn;rw [h,lk_no a]
theorem Dn_st:∀{m:Nat} {t:Int},Dp m t->Dn ρ tab m t=Dn ρ tab (m+1) t:=by
 intro m
 induction m with
 |zero=>exactλh=>h.elim
 |succ m ih=>
  intro t h
  cases q:ρ t with
  |some r=>rw [mv q,mv q]
  |none=>exact(H9 t).elim (λh'=>h'.elim λx a=>by rw [Dn_ap q a,Dn_ap q a,ih (h.2 x a)]) λa=>by rw [Cd q a,Cd q a]
theorem H3(L:LI fs C tl es [])(a:Ap t x):Dn C.root C.tab 3 t=dst C.root C.tab (Dn C.root C.tab 3 x):=by
 cases q:C.root t with
 |none=>rw [Dn_st (dp3 (pz a).1),Dn_ap q a]
 |some r=>
  refine(L.sub t x ⟨r,q⟩ a).elim λrx hx=>(L.tc t x rx ⟨r,q⟩ a hx).elim λo h=>(L.tb _ _ h.1).1.elim λro ho=> ?_
  rw [h.2 _ (Dn C.root C.tab 3) (λx y e=>e.elim λr e=>by rw [mv e.1,mv e.2]) (λ_ h=>(by nomatch h)),mv ho,mv hx]
  show _=match(C.tab [0,rx]).bind C.root with
   |some q=>(0,q)
   |none=>(1,rx)
  rw [h.1,Option.bind_some,ho]
theorem LI.dn(L:LI fs C tl es [])(c:Cl (F0 fs) a b):Dn C.root C.tab 3 a=Dn C.root C.tab 3 b:=
 c _ (Dn C.root C.tab 3) (λx y h=>h.elim λm h=>L.fx _ h _ (Dn C.root C.tab 3) (λx y e=>e.elim λr e=>by rw [mv e.1,mv e.2]) λ_ h=>(by nomatch h)) λa b x y ha hb e=>by rw [H3 L ha,H3 L hb,e]
theorem LI.eqs(L:LI fs C tl es [])(c:Cl (F0 fs) a b)(ha:Kn C.root a)(hb:Kn C.root b):Eqr C.root a b:=ha.elim λr ha=>hb.elim λs hb=>by
 have h:=L.dn c
 rw [mv ha,mv hb] at h
 exact⟨r,ha,(Prod.mk.inj h).2▸hb⟩
theorem vv_no:∀v∈VV,∀p∈argL,p.1≠v:=by decide
theorem LI.num(L:LI fs C tl es [])(c:Cl (F0 fs) a v)(ha:Kn C.root a)(hv:v∈VV):Kn C.root v:=ha.elim λr ha=>by
 have h:=L.dn c
 cases q:C.root v with
 |some s=>exact⟨s,q⟩
 |none=>
  rw [mv ha,Cd q (vv_no v hv)] at h
  have z:=(L.kn _ _ ha).2
  rw [(Prod.mk.inj h).2,q] at z
  exact(by nomatch z)
theorem Cl.symm{R:Int->Int->Prop}(c:Cl R a b):Cl R b a:=λα f h1 h2=>(c α f h1 h2).symm
theorem Good.cons(G:Good fs E):Cons fs:=λv w hv hw c=>G.li.elim λes L=>by
 cases q:E.root v with
 |some r=>exact G.uv v w hv hw (L.eqs c ⟨r,q⟩ (L.num c ⟨r,q⟩ hw))
 |none=>cases q2:E.root w with
  |some s=>exact(L.num c.symm ⟨s,q2⟩ hv).elim λr h=>by rw [q] at h;exact(by nomatch h)
  |none=>
   have h:=L.dn c
   rw [Cd q (vv_no v hv),Cd q2 (vv_no w hw)] at h
   exact(Prod.mk.inj h).2
theorem Good.why(hB:BK K)(G:Good fs E)(h:Eqr E.root a b):∃l,(∀g,Me P (n+2) 25 .all [iv a,iv b] g K E (.dat (.list (zs l))) E)/\Told fs a b l:=
 G.li.elim λes L=>h.elim λr h=>uc hB L.P h.1 h.2 (L.c1 _ _ ⟨r,h⟩) (L.kn _ _ h.1).1 (L.kn _ _ h.2).1
variable{h h':List Int}{lo hi:Int}{σ:Tg->Option AObj}{F:AV}{ws W qs:List (Int×Int)}{k:KB}{b0:Bool}{p q:Int×Int}
noncomputable def at_(h:List Int)(u:Int):Int:=(h[u.toNat]?).getD 0
noncomputable def lb(h:List Int)(t:Int):Int:=at_ h (t-3)
noncomputable def sw(lo hi o:Int):Int:=if o=hi then lo else o
noncomputable def sm(h:List Int):Nat:=(h.map Int.toNat).sum
theorem tt_r:∀t∈TT,0<=t-3/\(t-3).toNat<11:=by decide
structure HI(fs:List az)(h:List Int):Prop where
 len:h.length=11
 rng:∀x∈h,0<=x/\x<11
 snd:∀a b,a∈TT->b∈TT->lb h a=lb h b->Cl (F0 fs) a b
theorem lb_get(hl:h.length=11)(ht:t∈TT):h[(t-3).toNat]? =some (lb h t):=by
 unfold lb at_
 rw [qo (hl▸(tt_r t ht).2)];rfl
theorem ur(hl:h.length=11)(ht:t∈TT):lb h t∈h:=xp (lb_get hl ht)
theorem g6(hl:h.length=11)(ht:t∈TT):ao (t-3) (zs h)=some (.int (lb h t)):=by
 unfold ao zs
 rw [if_pos (tt_r t ht).1,jw,lb_get hl ht];rfl
theorem lb_sw(hl:h.length=11)(ht:t∈TT):lb (h.map (sw lo hi)) t=sw lo hi (lb h t):=by
 unfold lb at_
 rw [jw,qo (hl▸(tt_r t ht).2)];rfl
theorem sm_sw(h0:0<=lo)(h1:lo<hi):sm (h.map (sw lo hi))<=sm h/\(hi∈h->sm (h.map (sw lo hi))<sm h):=by
 unfold sm
 induction h with
 |nil=>exact⟨jc _,λm=>(by nomatch m)⟩
 |cons y l ih=>
  rw [jz,jz,jz,List.sum_cons,List.sum_cons]
  by_cases e:y=hi
  ·have:=(Int.toNat_lt_toNat (xr h0 h1)).mpr h1
   have z:(sw lo hi y).toNat<y.toNat:=by rw [show sw lo hi y=lo from if_pos e,e];exact this
   exact⟨qk (Nat.add_lt_add_of_lt_of_le z ih.1),λ_=>Nat.add_lt_add_of_lt_of_le z ih.1⟩
  ·rw [show sw lo hi y=y from if_neg e]
   exact⟨jv ih.1 _,λm=>Nat.add_lt_add_left (ih.2 ((jh.mp m).resolve_left (Ne.symm e))) _⟩
theorem HI.step(I:HI fs h)(ha:a∈TT)(hb:b∈TT)(c:Cl (F0 fs) a b)(e:lo=lb h a/\hi=lb h b\/lo=lb h b/\hi=lb h a)(hl:lo<hi):HI fs (h.map (sw lo hi))/\sm (h.map (sw lo hi))<sm h:=by
 have ml:lo∈h:=e.elim (λe=>e.1▸ur I.len ha) λe=>e.1▸ur I.len hb
 have mh:hi∈h:=e.elim (λe=>e.2▸ur I.len hb) λe=>e.2▸ur I.len ha
 refine⟨⟨(jb _).trans I.len,λx m=>(jf.mp m).elim λy m=>m.2▸ ?_,λx y hx hy q=> ?_⟩,(sm_sw (I.rng _ ml).1 hl).2 mh⟩
 ·unfold sw;split
  ·exact I.rng _ ml
  ·exact I.rng _ m.1
 rw [lb_sw I.len hx,lb_sw I.len hy] at q
 have K:∀{z},z∈TT->(lb h z=lo\/lb h z=hi)->Cl (F0 fs) z a:=λhz q=>by
  have:lb h _=lb h a\/lb h _=lb h b:=e.elim (λe=>q.imp (λq=>q.trans e.1) λq=>q.trans e.2) λe=>(q.imp (λq=>q.trans e.1) λq=>q.trans e.2).symm
  exact this.elim (λg=>I.snd _ _ hz ha g) λg α f h1 h2=>(I.snd _ _ hz hb g α f h1 h2).trans (c α f h1 h2).symm
 have two:(lb h x=lo\/lb h x=hi)->(lb h y=lo\/lb h y=hi)->Cl (F0 fs) x y:=λp q α f h1 h2=>(K hx p α f h1 h2).trans (K hy q α f h1 h2).symm
 unfold sw at q
 by_cases e1:lb h x=hi
 ·by_cases e2:lb h y=hi
  ·exact two (.inr e1) (.inr e2)
  ·rw [if_pos e1,if_neg e2] at q;exact two (.inr e1) (.inl q.symm)
 ·by_cases e2:lb h y=hi
  ·rw [if_neg e1,if_pos e2] at q;exact two (.inl q) (.inr e2)
  ·rw [if_neg e1,if_neg e2] at q;exact I.snd x y hx hy q
noncomputable def pD(p:Int×Int):PyData:= .tuple [.int (p.1-3),.int (p.2-3)]
noncomputable def wt(h:List Int)(p q:Int×Int):Bool:=decide (p.1-3<q.1-3)&&decide (lb h p.2=lb h q.2)
noncomputable def wIn(h:List Int)(p:Int×Int)(qs:List (Int×Int)):List (Int×Int):=(qs.filter (wt h p)).map λq=>(p.1,q.1)
noncomputable def apD(p:Int×Int):AV:= .dat (.tuple [.int (p.2-3),.int (p.1-3)])
noncomputable abbrev hCx(F:AV)(h:List Int)(b0:Bool)(ρ:List (Nat×AV))(W:List (Int×Int))(σ:Tg->Option AObj):IC:=⟨[(0,F),(1,.dat (.list (zs h))),(2,.dat (.bool b0)),(3,.obj (.tmp 0))]++ρ,[(0,.list true ((W.map pD).map .dat))],σ⟩
noncomputable def m74b:M:= .ifs (.and (.cmp .lt (.var 6) (.var 8)) (.cmp .eq (.sub (.var 1) (.var 5)) (.sub (.var 1) (.var 7)))) (.ex (.lm (.var 3) .append (.cons (.tup (.cons (.var 6) (.cons (.var 8) (.nil)))) (.nil))) (.nil)) (.nil) (.nil)
theorem s7(hl:h.length=11):(zs h).length<=1000000:=ac (hl▸by decide)
theorem w_in(hl:h.length=11)(hp:p∈argL):(∀q∈qs,q∈argL)->∀{W:List (Int×Int)},W.length+qs.length<=1000000->k .next (hCx F h b0 [(5,iv (p.2-3)),(6,iv (p.1-3))] (W++wIn h p qs) σ)->
  lp ((af P n m74b).b (.all,[])) (mj false [7,8]) (IC.keep [0,1,2,3,5,6]) k (qs.map apD) (hCx F h b0 [(5,iv (p.2-3)),(6,iv (p.1-3))] W σ):=by
 induction qs with
 |nil=>exactλ_ {W} _ hk=>(cGx (λW=>k .next (hCx F h b0 [(5,iv (p.2-3)),(6,iv (p.1-3))] W σ)) (jk W)).mp hk
 |cons q qs ih=>
  intro hq W hW hk
  have hq':=λr (m:r∈qs)=>hq r (.tail _ m)
  have mp:=(pz (show Ap p.1 p.2 from hp)).2.1
  have mq:=(pz (show Ap q.1 q.2 from hq q (.head _))).2.1
  have skip:wt h p q=false->k .next (hCx F h b0 [(5,iv (p.2-3)),(6,iv (p.1-3))] (W++wIn h p qs) σ):=λe=>by
   unfold wIn at hk⊢;rw [xo (by rw [e];exact jx)] at hk;exact hk
  by_cases e1:p.1-3<q.1-3
  ·refine b8 (dTx e1) (a7 (x:=ao (p.2-3) (zs h)) (g6 hl mp) ⟨s7 hl,a7 (x:=ao (q.2-3) (zs h)) (g6 hl mq) ⟨s7 hl,?_⟩⟩)
   by_cases e2:lb h p.2=lb h q.2
   ·refine b8 (gn e2) ⟨ai (ac (ja (ji _ _) hW)),?_⟩
    refine ci (ih (W:=W++[(p.1,q.1)]) hq' (by rw [je,qh];show _+(1+qs.length)<=_;rw [we 1];exact hW) ?_) (cGx (λl=>(⟨_,[(0,AObj.list true l)],_⟩:IC)) (map_snoc (f:=pD) (l:=W) (x:=(p.1,q.1))))
    unfold wIn at hk⊢
    rw [xq (by unfold wt;rw [dTx e1,dTx e2];rfl),jz,List.append_cons] at hk
    exact hk
   ·exact ax (de e2) (ci (ih hq' (qg hW) (skip (by unfold wt;rw [dFx e2];exact Bool.and_false _))) rfl)
  ·exact ax (dFx e1) (ci (ih hq' (qg hW) (skip (by unfold wt;rw [dFx e1];rfl))) rfl)
theorem itv_aps{c:IC}{u:Mo}{Q:List AV->Prop}(q:Q (argL.map apD)):itv c u (.dat apsD) Q:=by unfold apsD;exact q
theorem Ba{is keep:List Nat}{body kk:M}{u:Mo}{c:IC}{K:KB}(q:lp ((af P n body).b u) (mj false is) (IC.keep keep) (th (λc2=>(af P n kk).b u c2 K) K) (argL.map apD) c):(af P n (.fori false is false (.glo 4) body keep kk)).b u c K:=itv_aps (c:=c) (u:=u) (Q:=λvs=>lp ((af P n body).b u) (mj false is) (IC.keep keep) (th (λc2=>(af P n kk).b u c2 K) K) vs c) q
noncomputable def m74o:M:= .fori false [7,8] false (.glo 4) m74b [0,1,2,3,5,6] .nil
noncomputable def wOut(h:List Int)(ps:List (Int×Int)):List (Int×Int):=ps.flatMap λp=>wIn h p argL
theorem w_out(hl:h.length=11):(∀p∈ps,p∈argL)->∀{W:List (Int×Int)},W.length+5*ps.length<=1000000->k .next (hCx F h b0 [] (W++wOut h ps) σ)->
  lp ((af P n m74o).b (.all,[])) (mj false [5,6]) (IC.keep [0,1,2,3]) k (ps.map apD) (hCx F h b0 [] W σ):=by
 induction ps with
 |nil=>exactλ_ {W} _ hk=>(cGx (λW=>k .next (hCx F h b0 [] W σ)) (jk W)).mp hk
 |cons p ps ih=>
  intro hq W hW hk
  have h5:(W++wIn h p argL).length<=W.length+5:=by rw [je];exact jv (ja (jd (jb _)) (wm ..)) _
  show(af P n m74o).b (.all,[]) (hCx F h b0 [(5,iv (p.2-3)),(6,iv (p.1-3))] W σ) (th (lp ((af P n m74o).b (.all,[])) (mj false [5,6]) (IC.keep [0,1,2,3]) k (ps.map apD)) k)
  refine Ba (ci (w_in (b0:=b0) hl (hq p (.head _)) (λ_ m=>m) (ja (jv (ja (by decide:argL.length<=5*1) (ym 5 (jm (jo _)))) _) hW) ?_) rfl)
  refine ci (ih (λq m=>hq q (.tail _ m)) (ja (xl h5 _) (by rw [qh,we 5];exact hW)) ?_) rfl
  rw [jy];exact hk
noncomputable def m74d:M:= .setm [11,12] (.cons (.blt .min (.cons (.sub (.var 1) (.var 9)) (.cons (.sub (.var 1) (.var 10)) (.nil)))) (.cons (.blt .max (.cons (.sub (.var 1) (.var 9)) (.cons (.sub (.var 1) (.var 10)) (.nil)))) (.nil))) (.ifs (.cmp .ne (.var 11) (.var 12)) (.sets [1,2] (.cons (.comp (.ite (.cmp .eq (.var 13) (.var 12)) (.var 11) (.var 13)) 13 (.var 1) (.nil) [11,12]) (.cons (.con (.bool true)) (.nil))) (.nil)) (.nil) (.nil))
noncomputable def mn(h:List Int)(a b:Int):Int:=if lb h b<lb h a then lb h b else lb h a
noncomputable def mx(h:List Int)(a b:Int):Int:=if lb h a<lb h b then lb h b else lb h a
noncomputable abbrev dR(F:AV)(h:List Int)(b0:Bool):List (Nat×AV):=[(0,F),(1,.dat (.list (zs h))),(2,.dat (.bool b0)),(3,.obj (.tmp 0))]
theorem h_one(hl:h.length=11)(ha:a∈TT)(hb:b∈TT){T:List (Nat×AObj)}{u:Mo}(h1:mn h a b=mx h a b->k .next ⟨dR F h b0++[(9,iv (a-3)),(10,iv (b-3)),(11,iv (mn h a b)),(12,iv (mx h a b))],T,σ⟩)
  (h2:mn h a b≠mx h a b->k .next ⟨dR F (h.map (sw (mn h a b) (mx h a b))) true++[(9,iv (a-3)),(10,iv (b-3)),(11,iv (mn h a b)),(12,iv (mx h a b))],T,σ⟩):
  (af P n m74d).b u ⟨dR F h b0++[(9,iv (a-3)),(10,iv (b-3))],T,σ⟩ k:=by
 have z:=s7 hl
 refine a7 (x:=ao (a-3) (zs h)) (g6 hl ha) ⟨z,a7 (x:=ao (b-3) (zs h)) (g6 hl hb) ⟨z,?_⟩⟩
 refine a7 (x:=ao (a-3) (zs h)) (g6 hl ha) ⟨z,a7 (x:=ao (b-3) (zs h)) (g6 hl hb) ⟨z,?_⟩⟩
 by_cases e:mn h a b=mx h a b
 ·exact ax (lz e) (h1 e)
 ·refine b8 (oj e) ⟨ja (jd (jb _)) z,?_⟩
  rw [d8]
  refine mw (λ_=>true) (λx=> .int (sw (mn h a b) (mx h a b) x)) (λx m K k=>k) (λx m K k=> ?_) λρ'=> ?_
  ·by_cases q:x=mx h a b
   ·refine b8 (gn q) ?_
    rw [show sw (mn h a b) (mx h a b) x=mn h a b from if_pos q] at k;exact k
   ·refine ax (de q) ?_
    rw [show sw (mn h a b) (mx h a b) x=x from if_neg q] at k;exact k
  ·rw [yf.mpr λ_ _=>rfl,show h.map (λx=>PyData.int (sw (mn h a b) (mx h a b) x))=zs (h.map (sw (mn h a b) (mx h a b))) from(jt ..).symm]
   exact ig (h2 e)
theorem mm_or(h:List Int)(a b:Int):(mn h a b=lb h a/\mx h a b=lb h b\/mn h a b=lb h b/\mx h a b=lb h a)/\mn h a b<=mx h a b:=by
 unfold mn mx
 by_cases e:lb h b<lb h a
 ·rw [if_pos e,if_neg (Int.lt_asymm e)];exact⟨.inr ⟨rfl,rfl⟩,Int.le_of_lt e⟩
 ·rw [if_neg e]
  by_cases q:lb h a<lb h b
  ·rw [if_pos q];exact⟨.inl ⟨rfl,rfl⟩,Int.le_of_lt q⟩
  ·rw [if_neg q];exact⟨.inl ⟨rfl,Int.le_antisymm (Int.not_lt.mp e) (Int.not_lt.mp q)⟩,Int.le_refl _⟩
theorem h_all(hw:∀w∈ws,w.1∈TT/\w.2∈TT/\Cl (F0 fs) w.1 w.2):∀{h:List Int} {b0:Bool},HI fs h->∃h' b',HI fs h'/\(b'=b0/\h'=h/\(∀w∈ws,lb h w.1=lb h w.2)\/b'=true/\sm h'<sm h)/\∀{T:List (Nat×AObj)} {u:Mo} {σ:Tg->Option AObj} {F:AV} {k:KB},k .next ⟨dR F h' b',T,σ⟩->
  lp ((af P n m74d).b u) (mj false [9,10]) (IC.keep [0,1,2,3]) k ((ws.map pD).map .dat) ⟨dR F h b0,T,σ⟩:=by
 induction ws with
 |nil=>exactλ{h b0} I=>⟨h,b0,I,.inl ⟨rfl,rfl,λ_ m=>(by nomatch m)⟩,λhk=>hk⟩
 |cons w ws ih=>
  intro h b0 I
  have q:=hw w (.head _)
  have ih:= @ih λw m=>hw w (.tail _ m)
  have mm:=mm_or h w.1 w.2
  by_cases e:mn h w.1 w.2=mx h w.1 w.2
  ·have e':lb h w.1=lb h w.2:=mm.1.elim (λm=>m.1.symm.trans (e.trans m.2)) λm=>m.2.symm.trans (e.symm.trans m.1)
   refine(ih (b0:=b0) I).imp λh' r=>r.imp λb' r=>⟨r.1,r.2.1.imp (λr=>⟨r.1,r.2.1,λz m=>(jh.mp m).elim (λm=>m▸e') (r.2.2 z)⟩) id,λ{T u σ F k} hk=> ?_⟩
   exact h_one I.len q.1 q.2.1 (λ_=>ci (r.2.2 hk) rfl) λn=>(n e).elim
  ·have J:=I.step q.1 q.2.1 q.2.2 mm.1 (Int.lt_iff_le_and_ne.mpr ⟨mm.2,e⟩)
   refine(ih (b0:=true) J.1).imp λh' r=>r.imp λb' r=>⟨r.1,.inr (r.2.1.elim (λr=>⟨r.1,r.2.1▸J.2⟩) λr=>⟨r.1,Nat.lt_trans r.2 J.2⟩),λ{T u σ F k} hk=> ?_⟩
   exact h_one I.len q.1 q.2.1 (λz=>(e z).elim) λ_=>ci (r.2.2 hk) rfl
noncomputable def p5(f:az):PyData:= .tuple [.int (f.1-3),.int (f.2.1-3),.int f.2.2]
noncomputable def Ct(fs:List az):AV:= .dat (.list (fs.map p5))
def Cld(fs:List az)(h:List Int):Prop:=(∀f∈fs,lb h f.1=lb h f.2.1)/\∀p q,p∈argL->q∈argL->p.1<q.1->lb h p.2=lb h q.2->lb h p.1=lb h q.1
noncomputable def vj(fs:List az)(h:List Int):List (Int×Int):=fs.map (λf=>(f.1,f.2.1))++wOut h argL
theorem wAll_m{w:Int×Int}:w∈vj fs h↔(∃f∈fs,(f.1,f.2.1)=w)\/∃p∈argL,∃q,(q∈argL/\wt h p q=true)/\(p.1,q.1)=w:=by
 unfold vj wOut wIn
 exact ke.trans (or_congr jf (List.mem_flatMap.trans (exists_congr λp=>and_congr Iff.rfl (jf.trans (exists_congr λq=>and_congr kr Iff.rfl)))))
theorem wAll_ok(hF:∀f∈fs,f.1∈TT/\f.2.1∈TT)(I:HI fs h):∀w∈vj fs h,w.1∈TT/\w.2∈TT/\Cl (F0 fs) w.1 w.2:=λw m=>by
 refine(wAll_m.mp m).elim (λm=>m.elim λf m=> ?_) λm=>m.elim λp m=>m.2.elim λq r=> ?_
 ·rw [<-m.2];exact⟨(hF f m.1).1,(hF f m.1).2,λα g h1 h2=>h1 _ _ ⟨f.2.2,m.1⟩⟩
 ·have hp:Ap p.1 p.2:=m.1
  have hq:Ap q.1 q.2:=r.1.1
  have e:=oDx (a9 r.1.2).2
  rw [<-r.2];exact⟨(pz hp).1,(pz hq).1,λα g h1 h2=>h2 _ _ _ _ hp hq (I.snd _ _ (pz hp).2.1 (pz hq).2.1 e α g h1 h2)⟩
theorem Cld.of(h1:∀w∈vj fs h,lb h w.1=lb h w.2):Cld fs h:=⟨λf m=>h1 (f.1,f.2.1) (wAll_m.mpr (.inl ⟨f,m,rfl⟩)),λp q hp hq l e=>h1 (p.1,q.1) (wAll_m.mpr (.inr ⟨p,hp,q,⟨hq,by unfold wt;rw [dTx e,dTx (Int.sub_lt_sub_right l 3)];rfl⟩,rfl⟩))⟩
theorem set_con{i:Nat}{d:PyData}{kk:M}{u:Mo}{c:IC}{K:KB}(q:(af P n kk).b u (c.set i (.dat d)) K):(af P n (.set i (.con d) kk)).b u c K:=q
theorem setw_t{i j:Nat}{m kk:M}{u:Mo}{c:IC}{K:KB}(q:(af P n m).c u c λws c1=>ck (nu (bq c.ρ u) (.tmp j)&&c1.ρ.all λp=>nt (.tmp j) p.2) (fw (.tmp j) (.list true ws)/\(af P n kk).b u ⟨aq c1.ρ i (.obj (.tmp j)),aq c1.t j (.list true ws),c1.b⟩ K)):(af P n (.setw i (.tmp j) m kk)).b u c K:=q
noncomputable def m74l:M:= .fori false [5,6] false (.glo 4) m74o [0,1,2,3] (.fori true [9,10] false (.var 3) m74d [0,1,2,3] (.nil))
noncomputable def m74w:M:= .set 2 (.con (.bool false)) (.setw 3 (.tmp 0) (.comp (.tup (.cons (.sub (.var 4) (.con (.int 0))) (.cons (.sub (.var 4) (.con (.int 1))) (.nil)))) 4 (.var 0) (.nil) []) m74l)
theorem h_loops(I:HI fs h)(hl:fs.length<=1000)(q:lp ((af P n m74d).b (.all,[.tmp 0])) (mj false [9,10]) (IC.keep [0,1,2,3]) (λfl c2=>c2.σ (.tmp 0)=some (.list false (((vj fs h).map pD).map .dat))/\put c2 (.tmp 0) (.list true (((vj fs h).map pD).map .dat)) λc3=>(th (λc2=>(af P n .nil).b (.all,[]) c2 k) k) fl c3) (((vj fs h).map pD).map .dat) ⟨dR F h b0,[(0,.list false (((vj fs h).map pD).map .dat))],σ⟩):
  (af P n m74l).b (.all,[]) (hCx F h b0 [] (fs.map λf=>(f.1,f.2.1)) σ) k:=by
 unfold m74l
 refine Ba ?_
 refine w_out I.len (λ_ m=>m) (ja (xl (ja (jd (jb _)) hl) _) (by decide)) ?_
 refine Dl ?_
 refine⟨.tmp 0,.list true (((vj fs h).map pD).map .dat),.list false (((vj fs h).map pD).map .dat),rfl,fy,?_⟩
 refine⟨λv m=>(jf.mp m).elim λ_ e=>e.2▸trivial,?_⟩
 exact q
theorem h_pass(hF:∀f∈fs,f.1∈TT/\f.2.1∈TT)(hl:fs.length<=1000)(I:HI fs h):∃h' b',HI fs h'/\(b'=false/\Cld fs h'\/b'=true/\sm h'<sm h)/\∀{T:List (Nat×AObj)} {σ:Tg->Option AObj} {k:KB},(∀o,aq T 0 o=[(0,o)])->(∀o,k .next ⟨dR (Ct fs) h' b',[(0,o)],σ⟩)->
  (af P n m74w).b (.all,[]) ⟨[(0,Ct fs),(1,.dat (.list (zs h))),(2,.dat (.bool true))],T,σ⟩ k:=by
 refine(h_all (n:=n) (P:=P) (wAll_ok hF I) (b0:=false) I).elim λh' r=>r.elim λb' r=>⟨h',b',r.1,?_,λ{T σ k} hT hk=> ?_⟩
 ·exact r.2.1.imp (λr=>⟨r.1,by rw [r.2.1];exact Cld.of r.2.2⟩) id
 refine set_con (setw_t ?_)
 refine⟨ai (ac (ja hl (by decide))),?_⟩
 show Fe _ _ _ _ ((fs.map p5).map AV.dat) _ _
 rw [jt]
 refine mw (λ_=>true) (λf:az=>pD (f.1,f.2.1)) (λx m K k=>k) (λx m K k=>k) λρ'=> ?_
 rw [yf.mpr λ_ _=>rfl]
 refine⟨λv m=>(jf.mp m).elim λ_ e=>e.2▸trivial,?_⟩
 have e:(fs.map λf=>pD (f.1,f.2.1))=(fs.map λf=>(f.1,f.2.1)).map pD:=by rw [jt];rfl
 rw [e]
 refine(cGx (λt=>(af P n m74l).b (.all,[]) ⟨dR (Ct fs) h false,t,σ⟩ k) (hT _)).mpr (h_loops I hl (r.2.2 (by exact⟨rfl,hk (.list true (((vj fs h).map pD).map .dat))⟩)))
structure Hm(fs:List az)(h:List Int):Prop where
 I:HI fs h
 C:Cld fs h
theorem Hm.iff(H:Hm fs h)(ha:a∈TT)(hb:b∈TT):lb h a=lb h b↔Cl (F0 fs) a b:=⟨H.I.snd a b ha hb,λc=>c _ (lb h) (λx y q=>q.elim λm q=>H.C.1 _ q) λa b x y p q e=>by
 rcases Int.lt_trichotomy a b with l|l|l
 ·exact H.C.2 _ _ p q l e
 ·rw [l]
 ·exact(H.C.2 _ _ q p l e.symm).symm⟩
theorem h_loop(hF:∀f∈fs,f.1∈TT/\f.2.1∈TT)(hl:fs.length<=1000):∀{N:Nat} {h:List Int},HI fs h->sm h<N->∃h',Hm fs h'/\∀{T:List (Nat×AObj)} {σ:Tg->Option AObj} {k:KB},(∀o,aq T 0 o=[(0,o)])->(∀T,k .next ⟨[(0,Ct fs),(1,.dat (.list (zs h'))),(2,.dat (.bool false))],T,σ⟩)->
  wh ((af P n (.val (.var 2))).t (.all,[])) ((af P n m74w).b (.all,[])) (IC.keep [0,1,2]) k (N+1) ⟨[(0,Ct fs),(1,.dat (.list (zs h))),(2,.dat (.bool true))],T,σ⟩:=by
 intro N
 induction N with
 |zero=>exactλ_ q=>(Nat.not_lt_zero _ q).elim
 |succ N ih=>
  intro h I q
  refine(h_pass (P:=P) (n:=n) hF hl I).elim λh' r=>r.elim λb' r=>r.2.1.elim (λe=> ?_) λe=> ?_
  ·refine⟨h',⟨r.1,e.2⟩,λ{T σ k} hT hk=> ?_⟩
   refine r.2.2 hT λo=> ?_
   rw [e.1];exact hk _
  ·refine(ih r.1 (kg e.2 (xz q))).imp λh2 s=>⟨s.1,λ{T σ k} hT hk=> ?_⟩
   refine r.2.2 hT λo=> ?_
   rw [e.1];exact nq (s.2 (λ_=>rfl) hk) rfl
noncomputable def hz:List Int:=[0,1,2,3,4,5,6,7,8,9,10]
theorem HI.zero:HI fs hz:=⟨rfl,by decide,λa b ha hb e=>by
 have g:∀a∈TT,lb hz a=a-3:=by decide
 rw [g a ha,g b hb] at e
 rw [show a=b from(Int.sub_left_inj 3).mp e]
 exactλ_ _ _ _=>rfl⟩
theorem l74(hF:∀f∈fs,f.1∈TT/\f.2.1∈TT)(hl:fs.length<=1000):∃h,Hm fs h/\∀σ,FnI P (n+1) .all 74 [Ct fs] σ (.dat (.list (zs h))) σ:=by
 refine(h_loop (P:=P) (n:=n) hF hl (N:=56) HI.zero (by decide)).imp λh r=>⟨r.1,λσ=> ?_⟩
 refine enter c74 rt rt ?_
 refine⟨⟨by decide,by decide⟩,57,?_⟩
 exact nq (r.2 (T:=[]) (λ_=>rfl) λ_=>done) rfl
end
section
variable{P:Prg}{n id:Nat}{g:Aside}{K:Bks}{E:Eng}{md:Md}{as:List AV}{a:AV}{b:Tg->Option AObj}{τ:Tg}{f:Int->Option AV}{k:KB}{l:List (Int×AV)}{ks:List Int}{acc R:List (List Int)}
theorem lk_cons{p:Int×AV}{k:Int}:lk (p::l) k=if p.1=k then some p.2 else lk l k:=by
 unfold lk
 by_cases e:p.1=k
 ·rw [List.find?_cons_of_pos (p:=λp:Int×AV=>decide (p.1=k)) (dTx e),if_pos e];rfl
 ·rw [List.find?_cons_of_neg (p:=λp:Int×AV=>decide (p.1=k)) (by rw [dFx e];exact jx),if_neg e]
theorem lk_nd{y:Int×AV}(h:(l.map (·.1)).Nodup)(m:y∈l):lk l y.1=some y.2:=by
 induction l with
 |nil=>exact(by nomatch m)
 |cons p l ih=>
  have h:=kj.mp h
  rw [lk_cons]
  refine(jh.mp m).elim (λe=>by rw [e];exact if_pos rfl) λm=> ?_
  rw [if_neg λe=>h.1 (jf.mpr ⟨y,m,e.symm⟩)]
  exact ih h.2 m
theorem lk_key{k:Int}:k∈l.map (·.1)↔∃v,lk l k=some v:=by
 induction l with
 |nil=>exact⟨(λh=>(by nomatch h)),λh=>h.elim λ_ h=>(by nomatch h)⟩
 |cons p l ih=>
  rw [lk_cons,jz,jh]
  by_cases e:p.1=k
  ·rw [if_pos e];exact⟨λ_=>⟨_,rfl⟩,λ_=> .inl e.symm⟩
  ·rw [if_neg e];exact(or_iff_right (Ne.symm e)).trans ih
theorem Lz(ti:τ.ti=none)(nd:gv τ=false)(e:b τ=some (.dictI true f))(E:∀l:List (Int×AV),(l.map (·.1)).Nodup->(∀k,lk l k=f k)->FnI P n md id as (up b τ (.dictL true l)) a (up b τ (.dictL true l))):FnI P n md id as b a b:=λI=>by
 have e':g7 [] b τ=some (.dictI true f):=(d3 ti).trans e
 have q:=fn_order (a:=a) (W:=P.W) (U:=λτ=>md.u τ=true) (g:= .ref (P.fv id)) (n:=n) (as:=as) (σ':=g7 [] b) e' λl nd' hl=> ?_
 ·rw [b5 (σ':=g7 [] b) (λ_ _=>rfl) e'] at q;exact⟨q,I⟩
 ·rw [<-bz ti]
  refine(E l nd' hl ?_).1
  rw [bz ti]
  refine I.up (uf (λy m=>(I τ _ e').hold y.1 y.2 ?_) rfl nd)
  exact(hl y.1).symm.trans (lk_nd nd' m)
noncomputable def ot(E:Eng)(ks:List Int):List (List Int):=(ks.filter λt=>decide (E.root t=some t)).map λt=>sortI ((E.mem t).getD [])
noncomputable def m7b:M:= .ifs (.cmp .eq (.sub (.att (.var 0) 1) (.var 2)) (.var 2)) (.ex (.lm (.var 1) .append (.cons (.blt .sorted (.cons (.sub (.att (.var 0) 2) (.var 2)) (.nil))) (.nil))) (.nil)) (.nil) (.nil)
theorem lsD_snoc{x:List Int}:(vw acc).map AV.dat++[.dat (.list (zs x))]=(vw (acc++[x])).map .dat:=by unfold vw;rw [kh,kh];rfl
theorem cls_w{w:Bool}(hl:∀t∈ks,∃r,E.root t=some r/\lk l t=some (iv r))(hm:∀t,E.root t=some t->∃m,E.mem t=some m/\m.length<64):∀{acc:List (List Int)},acc.length+ks.length<=1000000->k .next ⟨[(0,.obj .house),(1,.obj (.tmp 0))],[(0,.list true ((vw (acc++ot E ks)).map .dat))],up (hp P g K E) .root (.dictL w l)⟩->
  lp ((af P n m7b).b (.all,[.root])) (mj true [2]) (IC.keep [0,1]) k (ks.map iv) ⟨[(0,.obj .house),(1,.obj (.tmp 0))],[(0,.list true ((vw acc).map .dat))],up (hp P g K E) .root (.dictL w l)⟩:=by
 induction ks with
 |nil=>exactλ{acc} _ hk=>(cGx (λz=>k .next ⟨[(0,.obj .house),(1,.obj (.tmp 0))],[(0,.list true ((vw z).map .dat))],up (hp P g K E) .root (.dictL w l)⟩) (jk acc)).mp hk
 |cons t ks ih=>
  intro acc hL hk
  refine(hl t (.head _)).elim λr h=>a7 (x:=lk l t) h.2 ?_
  by_cases e:r=t
  ·have ht:E.root t=some t:=h.1.trans (cGx some e)
   refine b8 (gn e) ((hm t ht).elim λm hm'=> ?_)
   refine a7 (x:=(E.mem t).map λ_=>AV.obj (.ls .mem t)) (cGx (Option.map _) hm'.1) ?_
   refine a7 (x:=dy E.mem (g.ls .mem) t) (em g hm'.1) ⟨zs m,rfl,m,rfl,hm'.2,?_⟩
   refine⟨ai (ac (ja (ji _ _) hL)),?_⟩
   refine ci (ih (λs m=>hl s (.tail _ m)) (acc:=acc++[sortI m]) (by rw [je,qh];show _+(1+ks.length)<=_;rw [we 1];exact hL) ?_) (cGx (λz=>(⟨_,[(0,AObj.list true z)],_⟩:IC)) lsD_snoc)
   rw [show ot E (t::ks)=sortI m::ot E ks by unfold ot;rw [xq (p:=λt=>decide (E.root t=some t)) (dTx ht),jz,hm'.1];rfl,List.append_cons] at hk
   exact hk
  ·refine ax (de e) (ci (ih (λs m=>hl s (.tail _ m)) (qg hL) ?_) rfl)
   rw [show ot E (t::ks)=ot E ks from cGx (List.map _) (xo (by rw [h.1,dFx λq=>e (sJx q)];exact jx))] at hk
   exact hk
theorem l7(hR:∀ks:List Int,ks.Nodup->(∀t,t∈ks↔Kn E.root t)->HdL (ot E ks)/\ma (ot E ks)=R/\ks.length<=60)(hm:∀t,E.root t=some t->∃m,E.mem t=some m/\m.length<64):Me P (n+1) 7 .all [] g K E (.dat (.list (vw R))) E:=by
 refine Lz (b:=hp P g K E) (τ:= .root) rfl rfl rfl λl nd hl=> ?_
 have hk:∀t,t∈l.map (·.1)↔Kn E.root t:=λt=>by
  rw [lk_key,hl t]
  exact⟨λh=>h.elim λv h=>(Option.map_eq_some_iff.mp h).imp λr h=>h.1,λh=>h.elim λr h=>⟨iv r,cGx (Option.map iv) h⟩⟩
 have q:=hR _ nd hk
 have e:l.map (λp=>AV.dat (.int p.1))=(l.map (·.1)).map iv:=by rw [jt];rfl
 refine enter c7 rt rt ?_
 refine⟨dp,?_⟩
 refine og (b:=up (hp P g K E) .root (.dictL true l)) (τ:= .root) rfl Cw rfl ?_
 show lp ((af P n m7b).b (.all,[.root])) (mj true [2]) (IC.keep [0,1]) _ (l.map λp=>AV.dat (.int p.1)) _
 rw [e,up_up]
 refine cls_w (acc:=[]) (λt m=>((hk t).mp m).imp λr h=>⟨h,(hl t).trans (cGx (Option.map iv) h)⟩) hm (ja (jd (qn _)) (ja q.2.2 (by decide))) ?_
 refine⟨rfl,a8 up_up ?_⟩
 refine⟨vw (ot E (l.map (·.1))),rfl,ot E (l.map (·.1)),rfl,?_,q.1,A5 (by rw [q.2.1])⟩
 exact jq (ja (jd (jb _)) (ja (wm ..) q.2.2)) (by decide)
end
section
variable{P:Prg}{n D j i:Nat}{K:Bks}{b:Tg->Option AObj}{β:Nat->Option AObj}{fl rest:List (Nat×AV)}{o:AObj}{op:Str}{as:List Int}{s:Int}{d:PyData}{dk:KI}
noncomputable def t4(fl:List (Nat×AV))(D:Nat)(β:Nat->Option AObj)(b:Tg->Option AObj):Tg->Option AObj
 | .bank=>some (.inst D fl)
 | .bk k=>β k
 |τ=>b τ
noncomputable def Aj(β:Nat->Option AObj)(j:Nat)(o:AObj)(i:Nat):Option AObj:=if i=j then some o else β i
theorem B7:up (t4 fl D β b) (.bk j) o=t4 fl D (Aj β j o) b:=b5 (λτ h=>by
 cases τ with
 |bk k=>exact(if_neg λe=>h (cGx _ e)).symm
 |_=>rfl) (if_pos rfl)
noncomputable def F2(rest:List (Nat×AV)):List (Nat×AV):=[(17,.obj (.bk 0)),(18,.obj (.bk 1)),(19,.obj (.bk 2)),(20,.obj (.bk 3)),(21,.obj (.bk 4)),(22,iv 0),(23,.obj (.bk 5)),(24,.obj (.bk 6)),(25,.obj (.bk 7)),(26,.obj (.bk 8)),(27,.obj (.bk 9))]++rest
noncomputable def Bks.mk'(K:Bks)(o:Str)(as:List Int)(s:Int)(d:PyData)(dk:KI):Bks:={K with ops:=K.ops++[o],args:=K.args++[as],sorts:=K.sorts++[s],datas:=K.datas++[d],num:=a6 K.num [.str o,.tup as,.int s,dk] (iv K.ops.length)}
theorem tk4{l:List Int}(h1:op∈[S "true",S "false",S "app",S "num",S "="])(h2:l∈argK)(h3:s∈[(0:Int),1])(h4:dk∈datK):[KI.str op,.tup l,.int s,dk]∈TK:=qc _ (List.mem_flatMap.mpr ⟨op,h1,List.mem_flatMap.mpr ⟨l,h2,List.mem_flatMap.mpr ⟨s,h3,jf.mpr ⟨dk,h4,rfl⟩⟩⟩⟩)
theorem snoc_d{α:Type}{f:α->PyData}{l:List α}{x:α}:some (AObj.list true ((l.map f).map AV.dat++[.dat (f x)]))=ls ((l++[x]).map f):=cGx (λl=>some (AObj.list true l)) map_snoc
noncomputable def dD:KI->PyData
 | .int i=> .int i
 | .str s=> .str s
 | .tup l=> .tuple (zs l)
noncomputable abbrev kR(op:Str)(as:List Int)(s:Int)(dk:KI):List (Nat×AV):=[(0,.obj .bank),(1,.dat (.str op)),(2,.dat (.tuple (zs as))),(3,iv s),(4,.dat (dD dk)),(5,.dat (.tuple [.str op,.tuple (zs as),.int s,dD dk]))]
variable{kk:M}{K':KB}{u:Mo}{f:List KI->Option AV}
theorem get_n(hb:b (.bk 9)=some (.dictT f))(hB:b .bank=some (.inst D (F2 rest)))(hk:f [.str op,.tup as,.int s,dk]=none)(q:(af P n kk).b u ⟨kR op as s dk++[(6,iv 0)],[],b⟩ K'):(af P n (.set 6 (.lm (.att (.var 0) 27) .get (.cons (.var 5) (.cons (.con (.int 0)) (.nil)))) kk)).b u ⟨kR op as s dk,[],b⟩ K':=by
 cases dk with
 |tup l=>exact a7 (x:=b .bank) hB (a7 (x:=b (.bk 9)) hb (a7 (x:=b (.bk 9)) hb ⟨as,rfl,l,rfl,Dx hk q⟩))
 |_=>exact a7 (x:=b .bank) hB (a7 (x:=b (.bk 9)) hb (a7 (x:=b (.bk 9)) hb ⟨as,rfl,Dx hk q⟩))
theorem set_n(hb:b (.bk 9)=some (.dictT f))(hB:b .bank=some (.inst D (F2 rest)))(ht:[KI.str op,.tup as,.int s,dk]∈TK){i j:Int}(hi:i=j)(q:K' .next ⟨kR op as s dk++[(6,iv j)],[],up b (.bk 9) (.dictT (a6 f [.str op,.tup as,.int s,dk] (iv j)))⟩):(af P n (.seti (.var 6) (.att (.var 0) 27) (.var 5) (.nil))).b u ⟨kR op as s dk++[(6,iv i)],[],b⟩ K':=by
 subst hi
 cases dk with
 |tup l=>exact a7 (x:=b .bank) hB (a7 (x:=b (.bk 9)) hb ⟨as,rfl,l,rfl,ht,_,rfl,q⟩)
 |_=>exact a7 (x:=b .bank) hB (a7 (x:=b (.bk 9)) hb ⟨as,rfl,ht,_,rfl,q⟩)
theorem mk_bk:Aj (Aj (Aj (Aj (Aj (vq K) 5 (.list true ((K.ops.map .str).map .dat++[.dat (.str op)]))) 6 (.list true ((K.args.map λl=> .tuple (zs l)).map .dat++[.dat (.tuple (zs as))]))) 7 (.list true ((zs K.sorts).map .dat++[iv s]))) 8 (.list true (K.datas.map .dat++[.dat (dD dk)]))) 9 (.dictT (a6 K.num [.str op,.tup as,.int s,dk] (iv K.ops.length)))=vq (K.mk' op as s (dD dk) dk):=funext λi=>by
 match i with
 |5=>exact snoc_d
 |6=>exact snoc_d
 |7=>exact cGx (λl=>some (AObj.list true l)) zs_snoc
 |8=>exact cGx (λl=>some (AObj.list true l)) (kh (f:=AV.dat) (l₁:=K.datas) (l₂:=[dD dk])).symm
 |9|0|1|2|3|4|_+10=>rfl
theorem l62(hl:K.ops.length<=1000/\K.args.length<=1000/\K.sorts.length<=1000/\K.datas.length<=1000)(hk:K.num [.str op,.tup as,.int s,dk]=none)(ht:[KI.str op,.tup as,.int s,dk]∈TK):
  FnI P (n+1) .all 62 [.obj .bank,.dat (.str op),.dat (.tuple (zs as)),iv s,.dat (dD dk)] (t4 (F2 rest) P.B (vq K) b) (iv K.ops.length) (t4 (F2 rest) P.B (vq (K.mk' op as s (dD dk) dk)) b):=by
 have h6:∀{k},k<=1000->k<=1000000:=λh=>ja h (by decide)
 refine enter c62 rt rt ?_
 refine vc ?_
 refine get_n (b:=t4 (F2 rest) P.B (vq K) b) (D:=P.B) (f:=K.num) rfl rfl hk ?_
 refine⟨ai (ac (h6 hl.1)),?_⟩
 refine⟨ai (ac (h6 hl.1)),a8 B7 ?_⟩
 refine⟨ai (ac (h6 hl.2.1)),a8 B7 ?_⟩
 refine⟨ai (ac (h6 hl.2.2.1)),a8 B7 ?_⟩
 refine⟨ai (h6 hl.2.2.2),a8 B7 ?_⟩
 refine set_n (D:=P.B) (f:=K.num) (b:=t4 (F2 rest) P.B _ b) rfl rfl ht (j:=K.ops.length) (cGx Nat.cast ((jb _).trans (jb _))) ?_
 exact⟨rfl,(B7).trans (cGx (λβ=>t4 (F2 rest) P.B β b) mk_bk)⟩
variable{nm:Str}{ds:List PyData}{τ:Tg}
noncomputable def Bks.fn(K:Bks)(nm:Str)(ds:List PyData)(s:Int):Bks:={K with nam:=K.nam++[.str nm],nar:=K.nar++[.tuple ds],nre:=K.nre++[.int s]}
theorem fn_bk:Aj (Aj (Aj (vq K) 2 (.list true (K.nam.map .dat++[.dat (.str nm)]))) 3 (.list true (K.nar.map .dat++[.dat (.tuple ds)]))) 4 (.list true (K.nre.map .dat++[iv s]))=vq (K.fn nm ds s):=funext λi=>by
 have z:∀{l:List PyData} {x:PyData},some (AObj.list true (l.map AV.dat++[.dat x]))=ls (l++[x]):=λ{l x}=>cGx (λl=>some (AObj.list true l)) (kh (f:=AV.dat) (l₁:=l) (l₂:=[x])).symm
 match i with
 |2=>exact z
 |3=>exact z
 |4=>exact z
 |0|1|5|6|7|8|9|_+10=>rfl
theorem l49(hl:K.nam.length<=1000/\K.nar.length<=1000/\K.nre.length<=1000):FnI P (n+1) .all 49 [.obj .bank,.dat (.str nm),.dat (.tuple ds),iv s] (t4 (F2 rest) P.B (vq K) b) (iv K.nam.length) (t4 (F2 rest) P.B (vq (K.fn nm ds s)) b):=by
 have h6:∀{k},k<=1000->k<=1000000:=λh=>ja h (by decide)
 refine enter c49 rt rt ?_
 refine⟨ai (h6 hl.1),a8 B7 ?_⟩
 refine⟨ai (h6 hl.2.1),a8 B7 ?_⟩
 refine⟨ai (h6 hl.2.2),a8 B7 ?_⟩
 have e:(K.nam.map AV.dat++[AV.dat (.str nm)]).length=K.nam.length+1:=je.trans (cGx (·+1) (jb _))
 refine⟨ja (jd e) (ja (jm hl.1) (by decide)),?_⟩
 refine⟨cGx (λi:Int=>AV.dat (.int i)) ?_,cGx (λβ=>t4 (F2 rest) P.B β b) fn_bk⟩
 show(((K.nam.map AV.dat++[AV.dat (.str nm)]).length:Nat):Int)-1=_
 rw [e,Int.natCast_add];exact wc ..
theorem l51(hl:K.nam.length<=1000/\K.nar.length<=1000/\K.nre.length<=1000)(hl':K.ops.length<=1000/\K.args.length<=1000/\K.sorts.length<=1000/\K.datas.length<=1000)(hk:K.num [.str (S "app"),.tup [],.int s,.int K.nam.length]=none)(ht:[KI.str (S "app"),.tup [],.int s,.int K.nam.length]∈TK):
  FnI P (n+2) .all 51 [.obj .bank,.dat (.str nm),iv s] (t4 (F2 rest) P.B (vq K) b) (iv K.ops.length) (t4 (F2 rest) P.B (vq ((K.fn nm [] s).mk' (S "app") [] s (.int K.nam.length) (.int K.nam.length))) b):=by
 refine enter c51 rt rt ?_
 refine b7 (l49 (ds:=[]) hl) rt ?_
 exact b7 (l62 (K:=K.fn nm [] s) (op:=S "app") (as:=[]) (dk:= .int K.nam.length) hl' hk ht) rt done
theorem Hn:up (t4 fl D β b) .bank (.inst D rest)=t4 rest D β b:=b5 (λτ h=>by
 cases τ with
 |bank=>exact(h rfl).elim
 |_=>rfl) rfl
theorem e_bkq:up (up (t4 fl D β b) (.bk j) o) .bank (.inst D rest)=t4 rest D (Aj β j o) b:=(cGx (λb=>up b .bank _) B7).trans Hn
theorem He(h:b .bank=some (.inst D fl))(hb:∀j,b (.bk j)=β j):b=t4 fl D β b:=funext λτ=>by
 cases τ with
 |bank=>exact h
 |bk j=>exact hb j
 |_=>rfl
theorem ou{w:Bool}(ds:List PyData):fw τ (.list w (ds.map .dat)):=λ_ m=>(jf.mp m).elim λ_ e=>e.2▸trivial
noncomputable def K0:Bks:=⟨[S ""],[[]],[0],[.int 0],[],[],[],λ_=>none,0,0⟩
noncomputable def K2:Bks:={(K0.mk' (S "true") [] 0 (.int 0) (.int 0)).mk' (S "false") [] 0 (.int 0) (.int 0) with tru:=1,fal:=2}
theorem sa:([]:List Int)∈argK:= .head _
theorem k0_bk(hb:∀j,b (.bk j)=none):Aj (Aj (Aj (Aj (Aj (Aj (Aj (Aj (Aj (Aj (λj=>b (.bk j)) 0 (.list true [.dat (.str (S "Bool")),.dat (.str (S "Int")),.dat (.str (S "Real"))])) 1 (.list true [iv 0,iv 0,iv 0])) 2 (.list true [])) 3 (.list true [])) 4 (.list true [])) 5 (.list true [.dat (.str (S ""))])) 6 (.list true [.dat (.tuple [])])) 7 (.list true [iv 0])) 8 (.list true [iv 0])) 9 (.dictT λ_=>none)=vq K0:=funext λi=>by
 match i with
 |0|1|2|3|4|5|6|7|8|9=>rfl
 |k+10=>exact hb _
theorem l43(h:b .bank=some (.inst P.B []))(hb:∀j,b (.bk j)=none):FnI P (n+2) .ini 43 [.obj .bank] b (.dat .none) (t4 (A0 K2) P.B (vq K2) b):=by
 refine enter c43 rt rt ?_
 refine(cGx (λz=>(af P (n+1) m43).b (.ini,[]) ⟨ar 0 [.obj .bank],[],z⟩ (A7 (.dat .none) (t4 (A0 K2) P.B (vq K2) b))) (He h λ_=>rfl)).mpr ?_
 refine⟨ou (τ:= .bk 0) (w:=true) [.str (S "Bool"),.str (S "Int"),.str (S "Real")],a8 e_bkq ?_⟩
 refine⟨ou (τ:= .bk 1) (w:=true) [.int 0,.int 0,.int 0],a8 e_bkq ?_⟩
 refine⟨dp (w:=true),a8 e_bkq ?_⟩
 refine⟨dp (w:=true),a8 e_bkq ?_⟩
 refine⟨dp (w:=true),a8 e_bkq ?_⟩
 refine a8 Hn ?_
 refine⟨ou (τ:= .bk 5) (w:=true) [.str (S "")],a8 e_bkq ?_⟩
 refine⟨ou (τ:= .bk 6) (w:=true) [.tuple []],a8 e_bkq ?_⟩
 refine⟨ou (τ:= .bk 7) (w:=true) [.int 0],a8 e_bkq ?_⟩
 refine⟨ou (τ:= .bk 8) (w:=true) [.int 0],a8 e_bkq ?_⟩
 refine⟨(λt v e=>(by nomatch e)),a8 (σ':=t4 (F2 []) P.B (vq K0) b) (e_bkq.trans (cGx (λβ=>t4 (F2 []) P.B β b) (k0_bk hb))) ?_⟩
 refine b7 (l62 (K:=K0) (rest:=[]) (b:=b) (op:=S "true") (as:=[]) (s:=0) (dk:= .int 0) (by decide) rfl (tk4 (.head _) sa (.head _) (.head _))) rt ?_
 refine a8 Hn ?_
 refine b7 (l62 (K:=K0.mk' (S "true") [] 0 (.int 0) (.int 0)) (rest:=[(28,iv 1)]) (b:=b) (op:=S "false") (as:=[]) (s:=0) (dk:= .int 0) (by decide) (by kernel_rfl) (tk4 (.tail _ (.head _)) sa (.head _) (.head _))) rt ?_
 exact a8 Hn b9
variable{g:Aside}{E:Eng}
noncomputable def Kc(K:Bks)(nm:Str):Bks:=(K.fn nm [] 1).mk' (S "app") [] 1 (.int K.nam.length) (.int K.nam.length)
noncomputable def Kd(K:Bks)(k:Int):Bks:=K.mk' (S "num") [] 1 (.tuple (zs [k,1])) (.tup [k,1])
noncomputable def Ke(K:Bks)(x:Int):Bks:=K.mk' (S "app") [x] 1 (.int 0) (.int 0)
noncomputable def KA:Bks:=Kc (Kc (Kc (K2.fn (S "f") [.int 1] 1) (S "a")) (S "b")) (S "c")
noncomputable def KN:Bks:=Kd (Kd (Kd KA 0) 1) 2
noncomputable def KZ:Bks:=Ke (Ke (Ke (Ke (Ke KN 3) 4) 6) 7) 9
theorem arg1(k:Nat)(h:k<60):[(k:Int)]∈argK:= .tail _ (ki _ (jf.mpr ⟨k,jf.mpr ⟨k,wd.mpr h,rfl⟩,rfl⟩))
theorem bk_hp2:t4 (F2 [(28,iv 1),(29,iv 2)]) P.B (vq KZ) (hp P g K2 E)=hp P g KZ E:=funext λτ=>by
 cases τ with
 |ls k t=>cases k<;>rfl
 |dct k=>cases k<;>rfl
 |_=>rfl
theorem Hw:S "app"∈[S "true",S "false",S "app",S "num",S "="]:= .tail _ (.tail _ (.head _))
theorem f_num:S "num"∈[S "true",S "false",S "app",S "num",S "="]:= .tail _ (.tail _ (.tail _ (.head _)))
theorem v7:(1:Int)∈[(0:Int),1]:= .tail _ (.head _)
noncomputable def m73p:M:= .ex (.lm (.var 2) .append (.cons (.met (.var 0) 62 (.cons (.con (.str (S "app"))) (.cons (.tup (.cons (.sub (.var 2) (.var 5)) (.nil))) (.cons (.glo 3) (.cons (.var 1) (.nil)))))) (.nil))) (.nil)
noncomputable abbrev tCx(P:Prg)(K:Bks)(vs:List AV)(b:Tg->Option AObj):IC:=⟨[(0,.obj .bank),(1,iv 0),(2,.obj (.tmp 0))],[(0,.list true vs)],t4 (F2 [(28,iv 1),(29,iv 2)]) P.B (vq K) b⟩
theorem l73t{x y:Int}{i:Nat}{vs ws:List AV}{k:KB}(hx:vs[i]? =some (iv x))(hv:vs.length<=1000)(hl:K.ops.length<=1000/\K.args.length<=1000/\K.sorts.length<=1000/\K.datas.length<=1000)(hk:K.num [.str (S "app"),.tup [x],.int 1,.int 0]=none)(ha:[x]∈argK)
  (q:lp ((af P (n+1) m73p).b (.all,[])) (mj false [5,6]) (IC.keep [0,1,2]) k ws (tCx P (Ke K x) (vs++[iv K.ops.length]) b)):lp ((af P (n+1) m73p).b (.all,[])) (mj false [5,6]) (IC.keep [0,1,2]) k (.dat (.tuple [.int i,.int y])::ws) (tCx P K vs b):=by
 have h6:vs.length<=1000000:=ja hv (by decide)
 refine a7 (x:=ao (i:Int) vs) ((if_pos (wz _)).trans hx) ⟨h6,?_⟩
 refine b7 (l62 (K:=K) (b:=b) (rest:=[(28,iv 1),(29,iv 2)]) (op:=S "app") (as:=[x]) (s:=1) (dk:= .int 0) hl hk (tk4 Hw ha v7 (.head _))) rt ?_
 refine⟨h6,?_⟩
 exact ci q rfl
theorem l73:FnI P (n+3) .all 73 [.obj .bank] (hp P g K2 E) (.dat (.list (zs TT))) (hp P g KZ E):=by
 refine enter c73 rt rt ?_
 refine(cGx (λz=>(af P (n+2) m73).b (.all,[]) ⟨ar 0 [.obj .bank],[],z⟩ (A7 (.dat (.list (zs TT))) (hp P g KZ E))) (He (b:=hp P g K2 E) (β:=vq K2) rfl λ_=>rfl)).mpr ?_
 refine b7 (l49 (K:=K2) (rest:=[(28,iv 1),(29,iv 2)]) (b:=hp P g K2 E) (nm:=S "f") (ds:=[.int 1]) (s:=1) (by decide)) rt ?_
 refine⟨(by decide:3<=1000000),?_⟩
 refine b7 (l51 (K:=K2.fn (S "f") [.int 1] 1) (b:=hp P g K2 E) (rest:=[(28,iv 1),(29,iv 2)]) (nm:=S "a") (s:=1) (by decide) (by decide) (by kernel_rfl) (tk4 Hw sa v7 (by decide))) rt ?_
 refine b7 (l51 (K:=Kc (K2.fn (S "f") [.int 1] 1) (S "a")) (b:=hp P g K2 E) (rest:=[(28,iv 1),(29,iv 2)]) (nm:=S "b") (s:=1) (by decide) (by decide) (by kernel_rfl) (tk4 Hw sa v7 (by decide))) rt ?_
 refine b7 (l51 (K:=Kc (Kc (K2.fn (S "f") [.int 1] 1) (S "a")) (S "b")) (b:=hp P g K2 E) (rest:=[(28,iv 1),(29,iv 2)]) (nm:=S "c") (s:=1) (by decide) (by decide) (by kernel_rfl) (tk4 Hw sa v7 (by decide))) rt ?_
 refine⟨⟨by decide,by decide⟩,(by decide:3<=1000000),?_⟩
 refine b7 (l62 (K:=KA) (b:=hp P g K2 E) (rest:=[(28,iv 1),(29,iv 2)]) (op:=S "num") (as:=[]) (s:=1) (dk:= .tup [0,1]) (by decide) (by kernel_rfl) (tk4 f_num sa v7 (by decide))) rt ?_
 refine b7 (l62 (K:=Kd KA 0) (b:=hp P g K2 E) (rest:=[(28,iv 1),(29,iv 2)]) (op:=S "num") (as:=[]) (s:=1) (dk:= .tup [1,1]) (by decide) (by kernel_rfl) (tk4 f_num sa v7 (by decide))) rt ?_
 refine b7 (l62 (K:=Kd (Kd KA 0) 1) (b:=hp P g K2 E) (rest:=[(28,iv 1),(29,iv 2)]) (op:=S "num") (as:=[]) (s:=1) (dk:= .tup [2,1]) (by decide) (by kernel_rfl) (tk4 f_num sa v7 (by decide))) rt ?_
 refine⟨(by decide:6<=1000000),ou (τ:= .tmp 0) (w:=true) [.int 3,.int 4,.int 5,.int 6,.int 7,.int 8],?_⟩
 refine Ba ?_
 refine l73t (K:=KN) (b:=hp P g K2 E) (i:=0) (x:=3) rfl (by decide) (by decide) (by kernel_rfl) (arg1 3 (by decide)) ?_
 refine l73t (K:=Ke KN 3) (b:=hp P g K2 E) (i:=1) (x:=4) rfl (by decide) (by decide) (by kernel_rfl) (arg1 4 (by decide)) ?_
 refine l73t (K:=Ke (Ke KN 3) 4) (b:=hp P g K2 E) (i:=3) (x:=6) rfl (by decide) (by decide) (by kernel_rfl) (arg1 6 (by decide)) ?_
 refine l73t (K:=Ke (Ke (Ke KN 3) 4) 6) (b:=hp P g K2 E) (i:=4) (x:=7) rfl (by decide) (by decide) (by kernel_rfl) (arg1 7 (by decide)) ?_
 refine l73t (K:=Ke (Ke (Ke (Ke KN 3) 4) 6) 7) (b:=hp P g K2 E) (i:=6) (x:=9) rfl (by decide) (by decide) (by kernel_rfl) (arg1 9 (by decide)) ?_
 exact⟨zs TT,rfl,rfl,bk_hp2⟩
theorem bkKZ:BK KZ:=⟨λt x h=>(qd.mpr ⟨⟨rfl,rfl,rfl,by decide⟩,qd.mpr ⟨⟨rfl,rfl,rfl,by decide⟩,qd.mpr ⟨⟨rfl,rfl,rfl,by decide⟩,qd.mpr ⟨⟨rfl,rfl,rfl,by decide⟩,qd.mpr ⟨⟨rfl,rfl,rfl,by decide⟩,λ_ h=>(by nomatch h)⟩⟩⟩⟩⟩:∀p∈argL,Trm KZ p.1 (S "app") [p.2] (.int 0)) _ h,
 qd.mpr ⟨⟨_,rfl,rfl,rfl,by decide⟩,qd.mpr ⟨⟨_,rfl,rfl,rfl,by decide⟩,qd.mpr ⟨⟨_,rfl,rfl,rfl,by decide⟩,λ_ h=>(by nomatch h)⟩⟩⟩,qd.mpr ⟨⟨_,rfl,rfl,rfl,by decide⟩,qd.mpr ⟨⟨_,rfl,rfl,rfl,by decide⟩,qd.mpr ⟨⟨_,rfl,rfl,rfl,by decide⟩,λ_ h=>(by nomatch h)⟩⟩⟩⟩
variable{g:Aside}{E:Eng}{L:Lw}{fs:List az}{l h:List Int}{x:PyData}
theorem fg(q:lay d=true):Cc d d=true:=by rw [Fg];exact PySem.SeqAt.eqv_refl d (a9 q).1
theorem ua:Cc (.list (x::ds)) (.list [])=false:=by rw [Fg];unfold PyData.eqv PyData.eqvAll;rfl
noncomputable def p7(fs:List az)(l:List Int):List az:=fs.filter λf=>decide (f.2.2=0)||decide (f.2.2∈l)
def ByOK(fs:List az)(l:List Int):Prop:=F4 l/\∀m∈l,m≠0/\∃f∈fs,f.2.2=m
theorem t7(h:F4 l):l.length<=4:=d5 (T:=[-4,2,3,6]) (h.1.imp xm) h.2
noncomputable def mks(fs:List az):List Int:=(fs.filter λf=> !decide (f.2.2=0)).map (·.2.2)
theorem l78(hx:L.ok L.ids)(hf:L.facts L.ids=fs.map p5)(hF:∀f∈fs,f.1∈TT/\f.2.1∈TT)(hl:fs.length<=1000)(B:ByOK fs l):∃h,Hm (p7 fs l) h/\∀g K E,FnI P (n+2) .all 78 [.obj .state,.dat (.list (zs l))] (Mine.Internal.hl P g K E L) (.dat (.list (zs h))) (Mine.Internal.hl P g K E L):=by
 have z6:∀{k},k<=1000->k<=1000000:=λh=>ja h (by decide)
 have hlen:(L.facts L.ids).length<=1000000:=by rw [hf,jb];exact z6 hl
 have l4:=t7 B.1
 have hF':∀f∈p7 fs l,f.1∈TT/\f.2.1∈TT:=λf m=>hF f (kr.mp m).1
 refine(l74 (P:=P) (n:=n) hF' (ja (wm ..) hl)).imp λh r=>⟨r.1,λg K E=> ?_⟩
 refine enter c78 rt rt ?_
 have M:=l77 (P:=P) (n:=n) (g:=g) (K:=K) (E:=E) hx hlen
 rw [hf] at M
 refine b7 M rt ?_
 refine⟨ai (ac (z6 hl)),?_⟩
 rw [jt]
 refine mw (λf:az=> !decide (f.2.2=0)) (λf:az=> .int f.2.2) (λf m K k=>k) (λf m K k=>k) λρ'=> ?_
 rw [show(fs.filter λf=> !decide (f.2.2=0)).map (λf:az=>PyData.int f.2.2)=zs (mks fs) from(jt ..).symm]
 refine ig ?_
 refine⟨l,rfl,B.1,?_⟩
 refine dw ((jp _ _).mpr ⟨cp,cp⟩) (ax (cGx (!·) (fg cp)) ?_)
 refine⟨ei (ja l4 (by decide)),?_⟩
 rw [d8]
 refine mw (λx=> !decide (x∈mks fs)) PyData.int (λx m K k=> ?_) (λx m K k=>k) λρ'=> ?_
 ·exact dw ((jp _ _).mpr ⟨cp,rfl⟩) (tv▸k)
 rw [List.filter_eq_nil_iff.mpr λx m=>by
  have q:x∈mks fs:=(B.2 x m).2.elim λf q=>jf.mpr ⟨f,kr.mpr ⟨q.1,by rw [dFx λe=>(B.2 x m).1 (q.2.symm.trans e)];rfl⟩,q.2⟩
  rw [dTx q];exact jx]
 refine⟨ai (ac (z6 hl)),?_⟩
 rw [jt]
 refine mw (λf:az=>decide (f.2.2=0)||decide (f.2.2∈l)) p5 (λf m K k=> ?_) (λf m K k=>k) λρ'=>ig ?_
 ·by_cases e:f.2.2=0
  ·rw [dTx e] at k;exact b8 (gn e) k
  ·rw [dFx e] at k;exact ax (de e) (dw ((jp _ _).mpr ⟨cp,rfl⟩) (tv▸k))
 exact b7 (r.2 _) rt done
end
section
variable{P:Prg}{n:Nat}{K:Bks}{E:Eng}{fs:List az}{h l:List Int}{x y z a b t v r:Int}{b':Tg->Option AObj}
noncomputable def num(h:List Int)(t:Int):Int:=nAt (lb h 6) (lb h 7) (lb h 8) (lb h t)
noncomputable def clB(x y z:Int):Bool:=decide (((firstMet (λi=>[x,y,z].getD i 0) 3).length:Int)<3)
noncomputable def clH(h:List Int):Bool:=clB (lb h 6) (lb h 7) (lb h 8)
theorem l75'(hl:h.length=11)(ht:t∈TT):FnI P (n+1) .all 75 [.dat (.list (zs h)),iv (t-3)] b' (iv (num h t)) b':=
 l75 (g6 (t:=6) hl (by decide)) (g6 (t:=7) hl (by decide)) (g6 (t:=8) hl (by decide)) (g6 hl ht) (hl▸by decide)
theorem l76'(hl:h.length=11):FnI P (n+1) .all 76 [.dat (.list (zs h))] b' (.dat (.bool (clH h))) b':=
 l76 (g6 (t:=6) hl (by decide)) (g6 (t:=7) hl (by decide)) (g6 (t:=8) hl (by decide)) (hl▸by decide)
theorem u3{l:List Int}(m:x∈l):step_dedup l x=l:=if_pos (show(l.any (·==x))=true from xt.mpr ⟨x,m,beq_self_eq_true x⟩)
theorem u5{l:List Int}(m:x∉l):step_dedup l x=l++[x]:=if_neg λ(q:(l.any (·==x))=true)=>(xt.mp q).elim λy q=>m ((eq_of_beq q.2:y=x)▸q.1)
theorem clB_iff:clB x y z=false↔x≠y/\x≠z/\y≠z:=by
 have f:clB x y z=decide (((step_dedup (step_dedup [x] y) z).length:Int)<3):=rfl
 rw [f]
 by_cases e:y=x
 ·rw [u3 (l:=[x]) (e▸ .head _)]
  refine⟨λq=> ?_,λq=>(q.1 e.symm).elim⟩
  by_cases e2:z=x
  ·rw [u3 (l:=[x]) (e2▸ .head _)] at q;exact(by nomatch q)
  ·rw [u5 (l:=[x]) (λm=>e2 (jg.mp m))] at q;exact(by nomatch q)
 ·rw [u5 (l:=[x]) λm=>e (jg.mp m)]
  by_cases e2:z∈[x]++[y]
  ·rw [u3 e2]
   exact⟨(λq=>(by nomatch q)),λq=>((cm e2).elim (λm=>q.2.1 (jg.mp m).symm) λm=>q.2.2 m.symm).elim⟩
  ·rw [u5 e2]
   exact⟨λ_=>⟨Ne.symm e,λq=>e2 (q▸ .head _),λq=>e2 (q▸ .tail _ (.head _))⟩,λ_=>rfl⟩
theorem vT:∀v∈VV,v∈TT:=by decide
theorem Hm.cons(H:Hm fs h):clH h=false↔Cons fs:=by
 refine clB_iff.trans ⟨λq v w hv hw c=> ?_,λc=>⟨λe=> ?_,λe=> ?_,λe=> ?_⟩⟩
 ·have e:=(H.iff (vT v hv) (vT w hw)).mpr c
  have three:∀{v:Int},v∈VV->v=6\/v=7\/v=8:=λh=>(jh.mp h).imp id λh=>(jh.mp h).imp id jg.mp
  exact(three hv).elim (λa=>(three hw).elim (λb=>a.trans b.symm) λb=>b.elim (λb=>(q.1 (a▸b▸e)).elim) λb=>(q.2.1 (a▸b▸e)).elim) λa=>a.elim (λa=>(three hw).elim (λb=>(q.1 (a▸b▸e.symm)).elim) λb=>b.elim (λb=>a.trans b.symm) λb=>(q.2.2 (a▸b▸e)).elim)
   λa=>(three hw).elim (λb=>(q.2.1 (a▸b▸e.symm)).elim) λb=>b.elim (λb=>(q.2.2 (a▸b▸e.symm)).elim) λb=>a.trans b.symm
 ·exact absurd (c 6 7 (by decide) (by decide) ((H.iff (by decide) (by decide)).mp e)) (by decide)
 ·exact absurd (c 6 8 (by decide) (by decide) ((H.iff (by decide) (by decide)).mp e)) (by decide)
 ·exact absurd (c 7 8 (by decide) (by decide) ((H.iff (by decide) (by decide)).mp e)) (by decide)
theorem num_or:(num h t= -1/\∀v∈VV,lb h v≠lb h t)\/∃v∈VV,num h t=v-3/\lb h v=lb h t:=by
 unfold num nAt nB
 by_cases e6:lb h 6=lb h t
 ·exact .inr ⟨6,.head _,by rw [dTx e6];rfl,e6⟩
 ·rw [dFx e6]
  by_cases e7:lb h 7=lb h t
  ·exact .inr ⟨7,.tail _ (.head _),by rw [dTx e7];rfl,e7⟩
  ·rw [dFx e7]
   by_cases e8:lb h 8=lb h t
   ·exact .inr ⟨8,.tail _ (.tail _ (.head _)),by rw [dTx e8];rfl,e8⟩
   ·rw [dFx e8]
    exact .inl ⟨rfl,qd.mpr ⟨e6,qd.mpr ⟨e7,qd.mpr ⟨e8,λ_ h=>(by nomatch h)⟩⟩⟩⟩
theorem num_v(H:Hm fs h)(c:Cons fs)(hv:v∈VV)(e:lb h v=lb h t):num h t=v-3:=num_or.elim (λq=>(q.2 v hv e).elim) λq=>q.elim λw q=>by
 rw [c v w hv q.1 ((H.iff (vT v hv) (vT w q.1)).mp (e.trans q.2.2.symm))];exact q.2.1
theorem Lc:∀v∈VV,0<=v-3:=by decide
theorem Good.num(P:Prg)(hB:BK K)(G:Good fs E)(H:Hm fs h)(hr:E.root t=some r):∃v,E.val r=some v/\(v=0/\Mine.Internal.num h t= -1\/v∈VV/\Mine.Internal.num h t=v-3/\E.root v=some r):=G.li.elim λes L=>by
 have ht:=L.kn _ _ hr
 refine(L.val.2 r ht.2).imp λv q=>⟨q.1,q.2.imp (λq=>⟨q.1,num_or.elim And.left λw=>w.elim λv w=> ?_⟩) λq=>⟨q.1,num_v H G.cons q.1 ((H.iff (vT v q.1) ht.1).mpr ?_),q.2⟩⟩
 ·have c:=((H.iff (vT v w.1) ht.1).mp w.2.2).symm
  have e:=L.eqs c ⟨r,hr⟩ (L.num c ⟨r,hr⟩ w.1)
  exact(q.2 v w.1 (e.elim λs e=>by rw [e.2,<-e.1,hr])).elim
 ·exact(G.why (P:=P) (n:=0) hB ⟨r,q.2,hr⟩).elim λl q=>q.2.all
variable{g:Aside}{h' l1 l2:List Int}{ra rb va vb:Int}
def Lf(fs:List az):Prop:=∀f∈fs,f.1∈TT/\f.2.1∈TT/\f.2.2∈[(0:Int),2,3,-4,6]
theorem si_mem{x:Int}:x∈sortI l↔x∈l:=(sortI_perm l).mem_iff
theorem si_lt(h:l.Nodup):(sortI l).Pairwise (·<·):=((sortI_rises l).and ((sortI_perm l).nodup_iff.mpr h)).imp Int.lt_iff_le_and_ne.mpr
theorem mark_few(hF:Lf fs){m:Int}(q:m≠0/\∃f∈fs,f.2.2=m):m∈[(-4:Int),2,3,6]:=q.2.elim λf w=>
 (by decide:∀m∈[(0:Int),2,3,-4,6],m≠0->m∈[(-4:Int),2,3,6]) m (w.2▸(hF f w.1).2.2) q.1
theorem lv_mem{f:az}:f∈p7 fs l↔f∈fs/\(f.2.2=0\/f.2.2∈l):=kr.trans (and_congr Iff.rfl ((qi ..).to_iff.trans (or_congr decide_eq_true_iff decide_eq_true_iff)))
theorem ByOK.of(hF:Lf fs)(h:l.Nodup)(q:∀m∈l,m≠0/\∃f∈fs,f.2.2=m):ByOK fs (sortI l):=⟨⟨si_lt h,λx m=>mark_few hF (q x (si_mem.mp m))⟩,λm h=>q m (si_mem.mp h)⟩
theorem tn(hF:Lf fs)(t:Told fs a b l):ByOK fs l/\Cl (F0 (p7 fs l)) a b:=t.elim λfd t=>by
 rw [t.1]
 refine⟨.of hF t.2.1 λm h=>⟨(t.2.2.2.1 m h).1,(t.2.2.2.1 m h).2.elim λu q=>q.elim λv q=>⟨_,q,rfl⟩⟩,t.2.2.2.2.mono λx y q=>q.imp λm q=>lv_mem.mpr ⟨q.1,q.2.imp id si_mem.mpr⟩⟩
theorem ByOK.nd(h:ByOK fs l):l.Nodup:=h.1.1.imp xm
theorem jn_mem:x∈ox l1 l2↔x∈l1\/x∈l2:=by
 refine si_mem.trans (ke.trans ?_)
 rw [kr]
 by_cases q:x∈l1
 ·exact⟨λ_=> .inl q,λ_=> .inl q⟩
 ·rw [dFx q];exact or_congr Iff.rfl (and_iff_left rfl)
theorem ByOK.join(hF:Lf fs)(h1:ByOK fs l1)(h2:ByOK fs l2):ByOK fs (ox l1 l2):= .of hF (List.nodup_append.mpr ⟨h1.nd,h2.nd.filter _,λa ha b hb e=>by
  have:=(kr.mp hb).2
  rw [<-e,dTx ha] at this;exact(by nomatch this)⟩) λm h=>(ke.mp h).elim (h1.2 m) λh=>h2.2 m (kr.mp h).1
theorem Cons.sub(c:Cons fs):Cons (p7 fs l):=λv w hv hw q=>c v w hv hw (q.mono λx y q=>q.imp λm q=>(lv_mem.mp q).1)
noncomputable def N7(x y:Int):Bool:=decide (0<=x)&&(decide (0<=y)&& !decide (x=y))
theorem Good.cause(P:Prg)(hB:BK K)(G:Good fs E)(H:Hm fs h)(ha:E.root a=some ra)(hb:E.root b=some rb):
  (N7 (Mine.Internal.num h a) (Mine.Internal.num h b)=false/\∀n g,Me P (n+2) 5 .st [iv a,iv b] g K E (.dat .none) E)\/∃va vb,(N7 (Mine.Internal.num h a) (Mine.Internal.num h b)=true/\va∈VV/\vb∈VV/\Mine.Internal.num h a=va-3/\Mine.Internal.num h b=vb-3/\E.root va=some ra/\E.root vb=some rb)/\∀n g,Me P (n+2) 5 .st [iv a,iv b] g K E (.dat (.tuple [.int va,.int vb,.int 0])) E:=by
 refine G.li.elim λes L=>(G.num P hB H ha).elim λva qa=>(G.num P hB H hb).elim λvb qb=> ?_
 have ka:=L.kn _ _ ha
 have kb:=L.kn _ _ hb
 by_cases e:ra=rb
 ·refine .inl ⟨?_,λn g=>l5a ha (e▸hb)⟩
  have q:lb h a=lb h b:=(H.iff ka.1 kb.1).mpr ((G.why (P:=P) (n:=0) hB ⟨ra,ha,e▸hb⟩).elim λl q=>q.2.all)
  unfold N7 Mine.Internal.num
  rw [q,dTx rfl]
  show(_&&(_&&false))=false
  rw [Bool.and_false,Bool.and_false]
 ·refine qa.2.elim (λz=> .inl ⟨by rw [z.2];rfl,λn g=>l5c ka.2 ha hb e qa.1 qb.1 (.inl z.1)⟩) λwa=>qb.2.elim (λz=> .inl ⟨?_,λn g=>l5c ka.2 ha hb e qa.1 qb.1 (.inr z.1)⟩) λwb=> .inr ⟨va,vb,⟨?_,wa.1,wb.1,wa.2.1,wb.2.1,wa.2.2,wb.2.2⟩,λn g=>l5b ha hb e qa.1 qb.1 (λz=>absurd (z▸wa.1) (by decide)) λz=>absurd (z▸wb.1) (by decide)⟩
  ·unfold N7;rw [z.2];exact Bool.and_false _
  ·unfold N7
   rw [wa.2.1,wb.2.1,dTx (Lc _ wa.1),dTx (Lc _ wb.1),dFx λz=>e (sJx (wa.2.2.symm.trans (((Int.sub_left_inj 3).mp z:va=vb).symm▸wb.2.2)))];rfl
theorem Good.apart(P:Prg)(hB:BK K)(G:Good fs E)(H:Hm fs h)(ha:E.root a=some ra)(hb:E.root b=some rb)(n:Nat)(g:Aside):Me P (n+3) 4 .st [iv a,iv b] g K E (.dat (.bool (N7 (Mine.Internal.num h a) (Mine.Internal.num h b)))) E:=
 (G.cause P hB H ha hb).elim (λq=>q.1▸l4f (q.2 n g)) λq=>q.elim λva q=>q.elim λvb q=>q.1.1▸l4t (q.2 n g)
theorem Good.whyA(P:Prg)(n:Nat)(hB:BK K)(G:Good fs E)(hF:Lf fs)(H:Hm fs h)(ha:E.root a=some ra)(hb:E.root b=some rb)(q:N7 (Mine.Internal.num h a) (Mine.Internal.num h b)=true):
  ∃l,(∀g,Me P (n+4) 28 .st [iv a,iv b] g K E (.dat (.list (zs l))) E)/\ByOK fs l/\∀h',Hm (p7 fs l) h'->Mine.Internal.num h' a=Mine.Internal.num h a/\Mine.Internal.num h' b=Mine.Internal.num h b:=by
 refine(G.cause P hB H ha hb).elim (λz=>by rw [z.1] at q;exact(by nomatch q)) λz=>z.elim λva z=>z.elim λvb z=> ?_
 have w:=z.1.2
 refine(G.why (P:=P) (n:=n) hB ⟨ra,ha,w.2.2.2.2.1⟩).elim λx hx=>(G.why (P:=P) (n:=n) hB ⟨rb,hb,w.2.2.2.2.2⟩).elim λy hy=> ?_
 have bx:=tn hF hx.2
 have by_:=tn hF hy.2
 refine G.li.elim λes L=>⟨ox x y,λg=>l28 (z.2 (n+1) g) (l29 (ds:=[]) (hx.1 g) (hy.1 g) (ja (t7 bx.1.1) (by decide)) (ja (t7 by_.1.1) (by decide))),bx.1.join hF by_.1,λh' H'=> ?_⟩
 have mo:∀{l:List Int} {a v:Int},(∀m∈l,m∈ox x y)->Cl (F0 (p7 fs l)) a v->Cl (F0 (p7 fs (ox x y))) v a:=λs c=>(c.mono λx y q=>q.imp λm q=>lv_mem.mpr ⟨(lv_mem.mp q).1,(lv_mem.mp q).2.imp id (s _)⟩).symm
 have tT:=λ{t r:Int} (h:E.root t=some r)=>(L.kn _ _ h).1
 rw [w.2.2.1,w.2.2.2.1]
 exact⟨num_v H' G.cons.sub w.1 ((H'.iff (vT _ w.1) (tT ha)).mpr (mo (λm h=>jn_mem.mpr (.inl h)) bx.2)),num_v H' G.cons.sub w.2.1 ((H'.iff (vT _ w.2.1) (tT hb)).mpr (mo (λm h=>jn_mem.mpr (.inr h)) by_.2))⟩
theorem Ci(hF:Lf fs)(q:ClashJ fs l):ByOK fs l/\(∀h,Hm (p7 fs l) h->clH h=true)/\∀h,Hm fs h->clH h=true:=q.elim λv q=>q.elim λw q=>
 have b:=tn hF q.2
 have no:∀{fs h},Hm fs h->Cl (F0 fs) v w->clH h=true:=λH c=>(Bool.eq_false_or_eq_true _).resolve_right λz=>q.1.2.2 (H.cons.mp z v w q.1.1 q.1.2.1 c)
 ⟨b.1,λh H=>no H b.2,λh H=>no H q.2.all⟩
variable{E' S:Eng}{top:List az}{lv:List (List az)}{ms known:List Int}{m:Int}
noncomputable def ip(lv:List (List az)):List az:=lv.reverse.flatten
theorem flt_cons:ip (top::lv)=ip lv++top:=by unfold ip;rw [yd,List.flatten_append];exact cGx _ (jk _)
noncomputable def Hist(P:Prg)(K:Bks):List (List az)->List Int->Eng->Prop
 |[],_,_=>False
 |_::lv,ms,E=>(lv=[]/\ms=[])\/∃S ms',ms=ms'++[(S.trail.length:Int)]/\Good (ip lv) S/\Stp P K S E/\Hist P K lv ms' S
theorem Hist.ext(h:Hist P K lv ms E)(s:Stp P K E E'):Hist P K lv ms E':=by
 cases lv with
 |nil=>exact h
 |cons f lv=>exact h.imp id λh=>h.imp λS h=>h.imp λms' h=>⟨h.1,h.2.1,h.2.2.1.trans s,h.2.2.2⟩
theorem Hist.drop:∀{lv:List (List az)} {ms:List Int} {E:Eng} {n:Nat},Hist P K lv ms E->n+1<lv.length->∃S mk0 mk1,ms=mk0++(S.trail.length:Int)::mk1/\mk1.length=n/\Good (ip (lv.drop (n+1))) S/\Stp P K S E/\Hist P K (lv.drop (n+1)) mk0 S:=by
 intro lv
 induction lv with
 |nil=>exactλh=>h.elim
 |cons f lv ih=>
  intro ms E n h q
  refine h.elim (λh=>by rw [h.1] at q;exact(Nat.not_lt_zero _ (yb q)).elim) λh=>h.elim λS h=>h.elim λms' h=> ?_
  cases n with
  |zero=>exact⟨S,ms',[],h.1,rfl,h.2⟩
  |succ n=>exact(ih h.2.2.2 (yb q)).imp λS2 q=>q.imp λmk0 q=>q.elim λmk1 q=>⟨mk1++[(S.trail.length:Int)],by rw [h.1,q.1,jy];rfl,je.trans (cGx (·+1) q.2.1),q.2.2.1,q.2.2.2.1.trans h.2.2.1,q.2.2.2.2⟩
theorem Hist.len:∀{lv:List (List az)} {ms:List Int} {E:Eng},Hist P K lv ms E->ms.length+1=lv.length:=by
 intro lv
 induction lv with
 |nil=>exactλh=>h.elim
 |cons f lv ih=>exactλ{ms E} h=>h.elim (λh=>by rw [h.1,h.2];rfl) λh=>h.elim λS h=>h.elim λms' h=>by rw [h.1,je];exact cGx (·+1) (ih h.2.2.2)
structure LawInv(P:Prg)(K:Bks)(lv:List (List az))(known:List Int)(E:Eng):Prop where
 fok:Lf (ip lv)
 good:Good (ip lv) E
 hist:Hist P K lv E.marks E
 kn:KR known E.root
 nd:known.Nodup
theorem F6{kn:List Int}{u:Int}(h:kn.Nodup):(H6 kn u).Nodup:=by
 unfold H6
 split
 ·exact h
 ·exact fk h (by assumption)
theorem fold_nd{lr:List Int->Int->List Int}{u:Int}(hl:∀kn x,kn.Nodup->(lr kn x).Nodup){ps:List (Int×Int)}:∀{kn:List Int},kn.Nodup->(ps.foldl (sv lr u) kn).Nodup:=by
 induction ps with
 |nil=>exactλh=>h
 |cons p ps ih=>exactλ{kn} h=>ih (kn:=sv lr u kn p) (by
   unfold sv
   split
   ·exact hl _ _ h
   ·exact h)
theorem uu{m:Nat}:∀{kn:List Int} {u:Int},kn.Nodup->(be m kn u).Nodup:=by
 induction m with
 |zero=>exactλh=>h
 |succ m ih=>exactλh=>F6 (fold_nd (λ_ _=>ih) h)
theorem LawInv.mlen(I:LawInv P K lv known E)(hl:lv.length<=1000):E.marks.length<=1000:=ja (ko _) (ja (jd I.hist.len) hl)
theorem Good.tlen(G:Good fs E):E.trail.length<=66:=G.li.elim λ_ L=>L.tlen
theorem LawInv.push(I:LawInv P K lv known E):LawInv P K ([]::lv) known {E with marks:=E.marks++[(E.trail.length:Int)]}:=by
 have e:ip ([]::lv)=ip lv:=flt_cons.trans (jk _)
 have G:Good (ip ([]::lv)) {E with marks:=E.marks++[(E.trail.length:Int)]}:=e.symm▸⟨I.good.li,I.good.uv,I.good.cl,I.good.qu⟩
 exact⟨e.symm▸I.fok,G,.inr ⟨E,E.marks,rfl,I.good,Stp.refl.to rfl rfl,I.hist⟩,I.kn,I.nd⟩
theorem Ii(hB:BK K)(hF:Lf (ip lv))(hh:Hist P K lv E.marks E)(kn:KR known E.root)(nd:known.Nodup)(hm:lv.length<=1000)(ht:E.trail.length<=66)(hc:E.clash=none\/E.clv=E.marks.length){k:Nat}(hk:k+1<lv.length):
  ∃E',(∀g,∃g',g'.r=g.r/\FnI P (n+6) .s2 38 [.obj .house,iv (k+1:Nat)] (hp P g K E) (.dat .none) (hp P g' K E'))/\LawInv P K (lv.drop (k+1)) known E':=by
 refine(hh.drop hk).elim λS q=>q.elim λmk0 q=>q.elim λmk1 q=> ?_
 have hl:=hh.len
 refine(pop_ok (n:=n) (mk0:=mk0) (mk1:=mk1) (p:=(k+1:Nat)) hB q.2.2.1 q.2.2.1.cons q.2.2.2.1 (by rw [q.2.1];rfl) q.1 (ja (ko _) (ja (jd hl) hm)) ht (hc.imp id λh=>by rw [h,q.1,je];exact qz.mpr (ya (qy _)))).imp λE' r=>⟨r.1,λf m=>hF f ?_,r.2.1,by rw [r.2.2.2.1];exact q.2.2.2.2.ext r.2.2.1,λz=>(kn z).trans (r.2.2.2.2 _).symm,nd⟩
 have m:=List.mem_flatten.mp m
 exact m.elim λl m=>List.mem_flatten.mpr ⟨l,xx.mpr (List.mem_of_mem_drop (xx.mp m.1)),m.2⟩
theorem LawInv.add(hB:BK K)(I:LawInv P K lv known E)(hm:lv.length<=1000)(ht:t∈TT):∃E',(∀g,Me P (n+6) 10 .st [iv t] g K E (.dat .none) E')/\LawInv P K lv (be 3 known (t-3)) E':=
 (oq (P:=P) (n:=n) hB I.good I.good.cons ht (I.mlen hm)).elim λE' r=>⟨E',r.1,I.fok,r.2.1,r.2.2.2.1.symm▸I.hist.ext r.2.2.1,r.2.2.2.2.2 known I.kn,uu I.nd⟩
theorem LawInv.merge(hB:BK K)(I:LawInv P K (top::lv) known E)(hm:(top::lv).length<=1000)(ha:a∈TT)(hb:b∈TT)(hmk:m∈[(0:Int),2,3,-4,6]):
  ∃E',(∀g,Me P (n+7) 14 .st [iv a,iv b,.dat (.int m)] g K E (.dat .none) E')/\Lf (ip ((top++[(a,b,m)])::lv))/\((E'.clash=none/\LawInv P K ((top++[(a,b,m)])::lv) (be 3 (be 3 known (a-3)) (b-3)) E')\/∃l,E'.clash=some l/\ClashJ (ip ((top++[(a,b,m)])::lv)) l/\
   (lv≠[]->∃E2,(∀g,∃g',g'.r=g.r/\FnI P (n+6) .s2 38 [.obj .house,iv (1:Nat)] (hp P g K E') (.dat .none) (hp P g' K E2))/\LawInv P K lv (be 3 (be 3 known (a-3)) (b-3)) E2)):=by
 have e:ip ((top++[(a,b,m)])::lv)=ip (top::lv)++[(a,b,m)]:=by rw [flt_cons,flt_cons,jy]
 have hF:Lf (ip ((top++[(a,b,m)])::lv)):=λf q=>(cm (e▸q)).elim (I.fok f) λz=>z▸⟨ha,hb,hmk⟩
 refine(merge_ok (P:=P) (n:=n) (m:=m) hB I.good I.good.cons ha hb (I.mlen hm)).imp λE' r=>⟨r.1,hF,?_⟩
 have hh:Hist P K ((top++[(a,b,m)])::lv) E'.marks E':=Hist.ext (lv:=(top++[(a,b,m)])::lv) (r.2.2.1.symm▸I.hist) r.2.1
 have kn:=r.2.2.2.2.1 known I.kn
 have nd:(be 3 (be 3 known (a-3)) (b-3)).Nodup:=uu (uu I.nd)
 refine r.2.2.2.2.2.elim (λG=> .inl ⟨G.cl,hF,e.symm▸G,hh,kn,nd⟩) λq=> .inr<|q.imp λl q=>⟨q.1,e.symm▸q.2.2,λhn=> ?_⟩
 exact Ii (n:=n) (k:=0) hB hF hh kn nd hm r.2.2.2.1 (.inr (q.2.1.trans (cGx (λl=>((wj l:Nat):Int)) r.2.2.1.symm))) (xi (List.length_pos_iff.mpr hn))
theorem lawInv0:LawInv P K [[]] [] Eng.nul:=by
 have no:∀{t},¬Kn (λ_:Int=>(none:Option Int)) t:=λh=>h.elim λ_ h=>(by nomatch h)
 have of:∀{α:Type} {p:Int->α->Prop},Of (λ_=>none) (λ_=>none) p:=⟨λ_ _=>rfl,λ_ h=>(by nomatch h)⟩
 have L:LI [] Eng.nul.toCor 0 [] []:=⟨λ_ _ h=>((by nomatch h)),λ_ _ h=>(no h).elim,of,of,of,λ_ _ h=>((by nomatch h)),⟨⟨λ_ _ _ h=>((by nomatch h)),λ_ _ _ h=>((by nomatch h)),λt=>⟨[],t,.nil t,rfl⟩⟩,⟨λ_ _ _ h=>((by nomatch h))⟩,λp e q h=>(List.append_ne_nil_of_right_ne_nil p (List.cons_ne_nil e q) h.symm).elim⟩,λa _ h=>(no (t:=a) (h.imp λ_ h=>h.1)).elim,λ_ h=>((by nomatch h)),λ_ _ _ h=>(no h).elim,λ_ h=>((by nomatch h)),λ_ h=>((by nomatch h)),by decide⟩
 exact⟨λ_ h=>((by nomatch h)),⟨⟨[],L⟩,λv _ _ _ h=>(no (t:=v) (h.imp λ_ h=>h.1)).elim,rfl,rfl⟩,.inl ⟨rfl,rfl⟩,λ_=>⟨λh=>((by nomatch h)),λh=>(no h).elim⟩,qt⟩
variable{kn κ ks:List Int}{L1 L2:List (List Int)}{k:Int}
theorem Gj(p:L1.Perm L2)(h:HdL L2):ma L1=ma L2:=Ef ((List.mergeSort_perm L1 _).trans p) h (srt_pw L1)
theorem HdL.perm(p:L1.Perm L2)(h:HdL L2):HdL L1:=⟨λl m=>h.1 l (p.mem_iff.mp m),(p.map _).nodup_iff.mpr h.2⟩
noncomputable def cg(h kn:List Int)(k:Int):List Int:=(kn.filter λx=>decide (lb h (x+3)=k)).map (·+3)
theorem row_mem:z∈cg h kn k↔∃x∈kn,lb h (x+3)=k/\x+3=z:=by
 unfold cg
 refine jf.trans (exists_congr λx=> ?_)
 rw [kr,decide_eq_true_iff,and_assoc]
noncomputable def rn(h kn:List Int)(k:Int):List Int:=sortI (cg h kn k)
theorem G8{α β:Type}{f:α->β}{l:List α}(h:l.Nodup)(g:∀a∈l,∀b∈l,f a=f b->a=b):(l.map f).Nodup:=List.pairwise_map.mpr (h.imp_of_mem λha hb n e=>n (g _ ha _ hb e))
theorem Gf(hk:∃x∈kn,lb h (x+3)=k):rn h kn k≠[]/\lb h ((rn h kn k).headD 0)=k:=by
 have m:∃z,z∈rn h kn k:=hk.elim λx q=>⟨x+3,si_mem.mpr (row_mem.mpr ⟨x,q.1,q.2,rfl⟩)⟩
 cases e:rn h kn k with
 |nil=>exact m.elim λz m=>by rw [e] at m;exact(by nomatch m)
 |cons y l=>exact⟨List.cons_ne_nil _ _,(row_mem.mp (si_mem.mp (show y∈rn h kn k by rw [e];exact .head _))).elim λx q=>q.2.2▸q.2.1⟩
theorem D0(hn:κ.Nodup)(hk:∀k∈κ,∃x∈kn,lb h (x+3)=k):HdL (κ.map (rn h kn)):=
 ⟨λl m=>(jf.mp m).elim λk q=>q.2▸(Gf (hk k q.1)).1,by
  rw [jt]
  exact G8 hn λa ha b hb e=>(Gf (hk a ha)).2.symm.trans ((cGx (lb h) e).trans (Gf (hk b hb)).2)⟩
theorem LawInv.rows(I:LawInv P K lv known E)(H:Hm (ip lv) h)(hB:BK K)(n1:ks.Nodup)(h1:∀t,t∈ks↔Kn E.root t)(n2:κ.Nodup)(h2:∀k,k∈κ↔∃x∈known,lb h (x+3)=k):HdL (ot E ks)/\ma (ot E ks)=ma (κ.map (rn h known)):=by
 refine I.good.li.elim λes L=> ?_
 have inT:∀{z},Kn E.root z->z∈TT:=λk=>k.elim λr k=>(L.kn _ _ k).1
 have hc:∀{a b},Kn E.root a->Kn E.root b->(lb h a=lb h b↔Eqr E.root a b):=λka kb=>⟨λe=>L.eqs ((H.iff (inT ka) (inT kb)).mp e) ka kb,λe=>(H.iff (inT ka) (inT kb)).mpr ((I.good.why (P:=P) (n:=0) hB e).elim λl q=>q.2.all)⟩
 have k3:∀{z},Kn E.root z->z-3∈known:=λ{z} k=>(I.kn _).mpr (by rw [xn];exact k)
 have rs:∀r,E.root r=some r->sortI ((E.mem r).getD [])=rn h known (lb h r):=λr hr=>(L.mem.2 r hr).elim λm hm=>by
  rw [hm.1]
  refine eq_sortI ((sortI_perm m).trans ((List.perm_ext_iff_of_nodup hm.2.1 (G8 (I.nd.filter _) λa _ b _ e=>(Int.add_left_inj 3).mp e)).mpr λz=>(hm.2.2 z).trans (Iff.trans ?_ row_mem.symm))) (sortI_rises m)
  exact⟨λq=>⟨z-3,k3 ⟨r,q⟩,by rw [xn];exact(hc ⟨r,q⟩ ⟨r,hr⟩).mpr ⟨r,q,hr⟩,xn ..⟩,λq=>q.elim λx q=>((hc ((I.kn x).mp q.1) ⟨r,hr⟩).mp q.2.1).elim λs e=>q.2.2▸e.1.trans (e.2.symm.trans hr)⟩
 have fm:∀t,t∈ks.filter (λt=>decide (E.root t=some t))↔E.root t=some t:=λt=>by
  rw [kr,decide_eq_true_iff,h1];exact and_iff_right_of_imp λe=>⟨t,e⟩
 have e1:ot E ks=((ks.filter λt=>decide (E.root t=some t)).map (lb h)).map (rn h known):=by
  rw [jt];exact xg λt m=>rs t ((fm t).mp m)
 have p:((ks.filter λt=>decide (E.root t=some t)).map (lb h)).Perm κ:=by
  refine(List.perm_ext_iff_of_nodup (G8 (n1.filter _) λa ha b hb e=> ?_) n2).mpr λk=>jf.trans (Iff.trans ?_ (h2 k).symm)
  ·have ra:=(fm a).mp ha
   have rb:=(fm b).mp hb
   exact((hc ⟨a,ra⟩ ⟨b,rb⟩).mp e).elim λs q=>sJx (ra.symm.trans (q.1.trans (q.2.symm.trans rb)))
  ·refine⟨λq=>q.elim λt q=>⟨t-3,k3 ⟨t,(fm t).mp q.1⟩,by rw [xn];exact q.2⟩,λq=>q.elim λx q=>((I.kn x).mp q.1).elim λr hr=> ?_⟩
   have rr:=(L.kn _ _ hr).2
   exact⟨r,(fm r).mpr rr,((hc ⟨r,rr⟩ ⟨r,hr⟩).mpr ⟨r,rr,hr⟩).trans q.2⟩
 have Hd:=D0 n2 λk m=>(h2 k).mp m
 have pp:=e1▸p.map (rn h known)
 exact⟨Hd.perm pp,Gj pp Hd⟩
end
section
variable{P:Prg}{n m:Nat}{g:Aside}{K:Bks}{E:Eng}{L:Lw}{u:Int}{kn:List Int}
theorem e_known:up (hl P g K E L) .known (.list true ((zs L.known).map .dat++[iv u]))=hl P g K E {L with known:=L.known++[u]}:=b5 (λτ h=>by
 cases τ with
 |known=>exact(h rfl).elim
 |ls k t=>cases k<;>rfl
 |dct k=>cases k<;>rfl
 |_=>rfl) (cGx (λl=>some (AObj.list true l)) zs_snoc.symm)
theorem Kw.len(h:Kw kn):kn.length<=11:=d5 (T:=hz) h.1 λz m=>by
 have q:=(by decide:∀t∈TT,t-3∈hz) _ (h.2 z m)
 rw [wc] at q;exact q
theorem Kw.ad(h:Kw kn)(hu:u+3∈TT):Kw (H6 kn u):=⟨F6 h.1,λz m=>(adK_mem.mp m).elim (h.2 z) λe=>e▸hu⟩
theorem Kw.fold{lr:List Int->Int->List Int}{ps:List (Int×Int)}(H:∀p∈ps,p.2=u->∀kn,Kw kn->Kw (lr kn p.1)):∀{kn:List Int},Kw kn->Kw (ps.foldl (sv lr u) kn):=by
 induction ps with
 |nil=>exactλh=>h
 |cons p ps ih=>exactλ{kn} h=>ih (λq m=>H q (.tail _ m)) (kn:=sv lr u kn p) (by
   unfold sv
   split
   ·exact H p (.head _) (by assumption) _ h
   ·exact h)
theorem ap_apps:∀p∈apps,Ap (p.2+3) (p.1+3):=(by decide:∀p∈apps,(p.2+3,p.1+3)∈argL)
theorem l79:∀{u:Int},Dp m (u+3)->SL P (n+m) g K E (be m) u/\∀kn,Kw kn->Kw (be m kn u):=by
 induction m with
 |zero=>exactλh=>h.elim
 |succ m ih=>
  intro u h
  have H:∀p∈apps,p.2=u->SL P (n+m) g K E (be m) p.1/\∀kn,Kw kn->Kw (be m kn p.1):=λp q e=>ih (h.2 _ (e▸ap_apps p q))
  have F:∀{kn},Kw kn->Kw (apps.foldl (sv (be m) u) kn):=Kw.fold λp q e=>(H p q e).2
  refine⟨λL d=> ?_,λkn d=>(F d).ad h.1⟩
  refine enter c79 rt rt ?_
  refine Ba ?_
  have hv:argL.map apD=apps.map λp=>AV.dat (.tuple [.int p.1,.int p.2]):=rfl
  generalize argL.map apD=vs at hv⊢
  refine l79v hv H d ?_
  have d':=F d
  refine⟨zs (apps.foldl (sv (be m) u) L.known),rfl,dw ((jp _ _).mpr ⟨cp,rfl⟩) ?_⟩
  rw [tv]
  show br _ _ _
  by_cases e:u∈apps.foldl (sv (be m) u) L.known
  ·rw [show be (m+1) L.known u=apps.foldl (sv (be m) u) L.known from if_pos e]
   exact ax (cGx (!·) (dTx e)) b9
  ·rw [show be (m+1) L.known u=apps.foldl (sv (be m) u) L.known++[u] from if_neg e]
   refine b8 (cGx (!·) (dFx e)) ⟨ei (ja d'.len (by decide)),?_⟩
   exact a8 e_known b9
variable{x i turn t:Int}{h l:List Int}{lv:List (List az)}{b':Tg->Option AObj}
theorem tt_ix(ht:t∈TT):ao (t-3) (zs TT)=some (.int t):=by
 unfold ao zs
 rw [if_pos (tt_r t ht).1,jw,(by decide:∀t∈TT,TT[(t-3).toNat]? =some t) t ht];rfl
theorem me(hx:x+3∈TT):ao x (zs TT)=some (.int (x+3)):=by
 have q:=tt_ix hx
 rw [wc] at q;exact q
theorem Dd(hl:h.length=11)(hx:x+3∈TT):FnI P (n+1) .all 75 [.dat (.list (zs h)),iv x] b' (iv (num h (x+3))) b':=by
 have q:=l75' (P:=P) (n:=n) (b':=b') hl hx
 rw [wc] at q;exact q
theorem lb_iu(hl:h.length=11)(hx:x+3∈TT):ao x (zs h)=some (.int (lb h (x+3))):=by
 have q:=g6 hl hx
 rw [wc] at q;exact q
theorem ix_in(h0:0<=i)(h1:i<l.length):∃u∈l,ao i (zs l)=some (.int u):=by
 have e:i.toNat<l.length:=(Int.toNat_lt h0).mpr h1
 refine⟨l[i.toNat],List.getElem_mem e,?_⟩
 unfold ao zs
 rw [if_pos h0,jw,qo e];rfl
theorem ix_mod(hl:l≠[]):∃u∈l,ao (turn%(zs l).length) (zs l)=some (.int u)/\(0:Int)<(zs l).length:=by
 have z:(zs l).length=l.length:=jb _
 have p:(0:Int)<(zs l).length:=z▸Int.natCast_pos.mpr (List.length_pos_iff.mpr hl)
 exact(ix_in (l:=l) (i:=turn%(zs l).length) (Int.emod_nonneg _ (Ne.symm (xm p))) (z▸Int.emod_lt_of_pos _ p)).imp λu q=>⟨q.1,q.2,p⟩
noncomputable def vld(h kn:List Int):List Int:=kn.filter λx=>decide (0<=num h (x+3))
noncomputable def oth(h:List Int)(k:Int)(vl:List Int):List Int:=vl.filter λx=> !decide (num h (x+3)=k)
set_option maxHeartbeats 4000000 in
theorem l80(hB:BK K)(I:LawInv P K lv L.known E)(H:Hm (ip lv) h)(hx:L.ok L.ids)(hf:L.facts L.ids=(ip lv).map p5)(ht:L.terms=TT)(hl:(ip lv).length<=1000)(kd:Kw L.known):FnI P (n+5) .st 80 [.obj .state,.obj .house,.dat (.list (zs h)),iv turn] (Mine.Internal.hl P g K E L) (.dat (.bool true)) (Mine.Internal.hl P g K E L):=by
 have h6:∀{k},k<=11->k<=1000000:=λh=>ja h (by decide)
 refine enter c80 rt rt ?_
 rw [show(ar 0 [AV.obj .state,.obj .house,.dat (.list (zs h)),iv turn])=[(0,.obj .state),(1,.obj .house),(2,.dat (.list (zs h))),(3,iv turn)] from rfl]
 refine og (b:=Mine.Internal.hl P g K E L) (τ:= .known) (o:= .list true ((zs L.known).map .dat)) rfl fy rfl ?_
 refine⟨o0,ei (h6 kd.len),?_⟩
 rw [d8]
 refine mw (λx=>decide (0<=num h (x+3))) PyData.int (λx m K k=> ?_) (λx m K k=>k) λρ'=>ig ?_
 ·exact b7 (Dd H.I.len (kd.2 x m)) rt k
 refine l9 (b:=Mine.Internal.hl P g K E L) (τ:= .known) rfl (cGx (λl=>some (AObj.list true l)) d8) ?_
 generalize hv:L.known.filter (λx=>decide (0<=num h (x+3)))=vl
 have hm:∀x∈vl,x∈L.known/\0<=num h (x+3):=λx m=>by
  rw [<-hv] at m;exact⟨(kr.mp m).1,oDx (kr.mp m).2⟩
 have vlen:vl.length<=11:=hv▸ja (wm ..) kd.len
 by_cases hn:vl=[]
 ·rw [hn];exact done
 have e0:Cc (.list (zs vl)) (.list [])=false:=by
  cases vl with
  |nil=>exact(hn rfl).elim
  |cons x vl=>exact ua
 refine dw ((jp _ _).mpr ⟨cp (rs:=vl),rfl⟩) (ax e0 ?_)
 refine(ix_mod (turn:=turn) hn).elim λu hu=> ?_
 refine⟨ja (jd (jb _)) (h6 vlen),hu.2.2,a7 (x:=ao (turn%(zs vl).length) (zs vl)) hu.2.1 ⟨ja (jd (jb _)) (h6 vlen),?_⟩⟩
 have ku:=hm u hu.1
 have uT:=kd.2 u ku.1
 refine(((I.kn u).mp ku.1).elim λr hr=>(I.good.num P hB H hr).elim λv qv=> ?_)
 have wv:=qv.2.resolve_left λz=>by rw [z.2] at ku;exact absurd ku.2 (by decide)
 have hk:num h (u+3)+3=v:=by rw [wv.2.1];exact xn ..
 refine b7 (Dd H.I.len uT) rt ?_
 refine(I.good.why (P:=P) (n:=n+2) hB ⟨r,hr,wv.2.2⟩).elim λl hl'=> ?_
 have b:=tn I.fok hl'.2
 refine(l78 (P:=P) (n:=n+2) hx hf (λf m=>⟨(I.fok f m).1,(I.fok f m).2.1⟩) hl b.1).elim λh2 H2=> ?_
 refine a7 (x:=ao u (zs L.terms)) (ht.symm▸me uT) ⟨ht.symm▸by decide,?_⟩
 have iv_:ao (num h (u+3)) (zs L.terms)=some (.int v):=by rw [ht,<-hk];exact me (hk.symm▸vT v wv.1)
 refine a7 (x:=ao (num h (u+3)) (zs L.terms)) iv_ ⟨ht.symm▸by decide,?_⟩
 refine b7 (hl'.1 {g with r:=Fy L}) rt ?_
 refine b7 (H2.2 g K E) rt ?_
 have i2:=H2.1.I.len
 refine a7 (x:=ao u (zs h2)) (lb_iu i2 uT) ⟨s7 i2,?_⟩
 have F3:ao (num h (u+3)) (zs h2)=some (.int (lb h2 v)):=by rw [<-hk];exact lb_iu i2 (hk.symm▸vT v wv.1)
 refine a7 (x:=ao (num h (u+3)) (zs h2)) F3 ⟨s7 i2,?_⟩
 refine ax (lz ((H2.1.iff uT (vT v wv.1)).mpr b.2)) ?_
 refine⟨ai (ac (h6 vlen)),?_⟩
 rw [jt]
 refine mw (h:=iv) (λx=> !decide (num h (x+3)=num h (u+3))) PyData.int (λx m K k=> ?_) (λx m K k=>k) λρ'=>ig ?_
 ·refine b7 (Dd H.I.len (kd.2 x (hm x m).1)) rt ?_
  exact k
 generalize hv3:vl.filter (λx=> !decide (num h (x+3)=num h (u+3)))=vl3
 have hm3:∀x∈vl3,x∈vl/\num h (x+3)≠num h (u+3):=λx m=>by
  rw [<-hv3] at m;exact⟨(kr.mp m).1,λe=>by have:=(kr.mp m).2;rw [e,dTx rfl] at this;exact(by nomatch this)⟩
 have vlen3:vl3.length<=11:=hv3▸ja (wm ..) vlen
 by_cases hn3:vl3=[]
 ·rw [hn3];exact done
 have e3:Cc (.list (zs vl3)) (.list [])=false:=by
  cases vl3 with
  |nil=>exact(hn3 rfl).elim
  |cons x vl=>exact ua
 refine dw ((jp _ _).mpr ⟨cp (rs:=vl3),rfl⟩) (ax e3 ?_)
 refine(ix_mod (turn:=turn/3) hn3).elim λw hw=> ?_
 refine⟨⟨by decide,rfl⟩,ja (jd (jb _)) (h6 vlen3),hw.2.2,a7 (x:=ao (turn/3%(zs vl3).length) (zs vl3)) hw.2.1 ⟨ja (jd (jb _)) (h6 vlen3),?_⟩⟩
 have q3:=hm3 w hw.1
 have kw:=hm w q3.1
 have wT:=kd.2 w kw.1
 refine((I.kn w).mp kw.1).elim λrw_ hrw=> ?_
 have ap:N7 (num h (u+3)) (num h (w+3))=true:=by unfold N7;rw [dTx ku.2,dTx kw.2,dFx (Ne.symm q3.2)];rfl
 refine(I.good.whyA P n hB I.fok H hr hrw ap).elim λl4 W=> ?_
 refine(l78 (P:=P) (n:=n+2) hx hf (λf m=>⟨(I.fok f m).1,(I.fok f m).2.1⟩) hl W.2.1).elim λh4 H4=> ?_
 refine a7 (x:=ao u (zs L.terms)) (ht.symm▸me uT) ⟨ht.symm▸by decide,?_⟩
 refine a7 (x:=ao w (zs L.terms)) (ht.symm▸me wT) ⟨ht.symm▸by decide,?_⟩
 refine b7 (W.1 {g with r:=Fy L}) rt ?_
 refine b7 (H4.2 g K E) rt ?_
 refine b7 (Dd H.I.len wT) rt ?_
 refine b7 (Dd H4.1.I.len uT) rt ?_
 refine b7 (Dd H4.1.I.len wT) rt ?_
 have N:=W.2.2 h4 H4.1
 rw [N.1,N.2]
 exact dw ((jp _ _).mpr ⟨cp (rs:=[num h (u+3),num h (w+3)]),cp (rs:=[num h (u+3),num h (w+3)])⟩) (A5 (cGx (λb=>AV.dat (.bool b)) (fg (d:= .list (zs [num h (u+3),num h (w+3)])) cp)))
variable{k:Int}{κ us:List Int}{b:Tg->Option AObj}{kk:KB}{o:AObj}{w:Bool}
theorem up_law:up (hp P g K E) .known o=hp P {g with r:=up g.r .known o} K E:=funext λτ=>by
 cases τ with
 |ls k t=>cases k<;>rfl
 |dct k=>cases k<;>rfl
 |_=>rfl
noncomputable def A2(h κ kn:List Int):List (Int×AV):=κ.map λk=>(k,.dat (.list (zs (cg h kn k))))
theorem E7:cg h (kn++[u]) k=if k=lb h (u+3) then cg h kn k++[u+3] else cg h kn k:=by
 unfold cg
 rw [List.filter_append,kh]
 by_cases e:k=lb h (u+3)
 ·rw [if_pos e,xq (p:=λx=>decide (lb h (x+3)=k)) (dTx e.symm)];rfl
 ·rw [if_neg e,xo (p:=λx=>decide (lb h (x+3)=k)) (by rw [dFx (Ne.symm e)];exact jx)];exact jk _
theorem lk_row:(k∈κ/\lk (A2 h κ kn) k=some (.dat (.list (zs (cg h kn k)))))\/(k∉κ/\lk (A2 h κ kn) k=none):=by
 induction κ with
 |nil=>exact .inr ⟨(λh=>(by nomatch h)),rfl⟩
 |cons y κ ih=>
  show(k∈y::κ/\lk ((y,_)::A2 h κ kn) k=_)\/_
  rw [lk_cons]
  by_cases e:y=k
  ·exact .inl ⟨e▸ .head _,by rw [if_pos e,e]⟩
  ·rw [if_neg e]
   exact ih.imp (λq=>⟨.tail _ q.1,q.2⟩) λq=>⟨λm=>(jh.mp m).elim (Ne.symm e) q.1,(lk_cons.trans (if_neg e)).trans q.2⟩
theorem any_key:(A2 h κ kn).any (λp=>decide (p.1=k))=true↔k∈κ:=by
 unfold A2
 rw [List.any_map,xt]
 exact⟨λq=>q.elim λy q=>oDx q.2▸q.1,λq=>⟨k,q,dTx rfl⟩⟩
theorem row_set(hk:∀x∈kn,lb h (x+3)∈κ):lset (A2 h κ kn) (lb h (u+3)) (.dat (.list (zs (cg h kn (lb h (u+3))++[u+3]))))=A2 h (H6 κ (lb h (u+3))) (kn++[u]):=by
 unfold lset H6
 have old:∀k,k≠lb h (u+3)->(k,AV.dat (.list (zs (cg h kn k))))=(k,AV.dat (.list (zs (cg h (kn++[u]) k)))):=λk e=>by rw [E7,if_neg e]
 have new:cg h (kn++[u]) (lb h (u+3))=cg h kn (lb h (u+3))++[u+3]:=by rw [E7,if_pos rfl]
 by_cases q:lb h (u+3)∈κ
 ·rw [if_pos q,if_pos (any_key.mpr q)]
  unfold A2
  rw [jt]
  refine xg λk _=> ?_
  show(if k=lb h (u+3) then _ else _)=_
  by_cases e:k=lb h (u+3)
  ·rw [if_pos e,e,new]
  ·rw [if_neg e,old k e]
 ·rw [if_neg q,if_neg λz=>q (any_key.mp z)]
  unfold A2
  rw [kh]
  refine congr (cGx _ (xg λk m=>old k λe=>q (e▸m))) ?_
  rw [jz,new];rfl
noncomputable def m81r:M:= .seti (.bin .add (.lm (.var 7) .get (.cons (.sub (.var 2) (.var 6)) (.cons (.lst (.nil)) (.nil)))) (.lst (.cons (.sub (.var 3) (.var 6)) (.nil)))) (.var 7) (.sub (.var 2) (.var 6)) (.nil)
noncomputable abbrev rR(h:List Int):List (Nat×AV):=[(0,.obj .state),(1,.obj .house),(2,.dat (.list (zs h))),(3,.dat (.list (zs TT))),(4,.obj .known)]
theorem rows_w(hl:h.length=11):∀{us kn κ:List Int} {kk:KB},(∀x∈us,x+3∈TT)->kn.length+us.length<=1000->κ.length<=kn.length->κ.Nodup->(∀k,k∈κ↔∃x∈kn,lb h (x+3)=k)->(∀κ':List Int,κ'.Nodup->κ'.length<=1000->(∀k,k∈κ'↔∃x∈kn++us,lb h (x+3)=k)->kk .next ⟨rR h++[(7,.obj (.tmp 0))],[(0,.dictL true (A2 h κ' (kn++us)))],b⟩)->
  lp ((af P n m81r).b (.st,[.known])) (mj true [6]) (IC.keep [0,1,2,3,4,7]) kk (us.map iv) ⟨rR h++[(7,.obj (.tmp 0))],[(0,.dictL true (A2 h κ kn))],b⟩:=by
 intro us
 induction us with
 |nil=>
  intro kn κ kk _ q1 q2 nd hk hK
  have:=hK κ nd (ja q2 (ja (ji _ _) q1)) (by rw [jk];exact hk)
  rw [jk] at this
  exact this
 |cons u us ih=>
  intro kn κ kk hx q1 q2 nd hk hK
  have uT:=hx u (.head _)
  have z:=s7 hl
  have tl:(zs TT).length<=1000000:=by decide
  have rl:(zs (cg h kn (lb h (u+3)))++[PyData.int (u+3)]).length<=1000000:=by
   rw [je,show(zs (cg h kn (lb h (u+3)))).length=(cg h kn (lb h (u+3))).length from jb _,show(cg h kn (lb h (u+3))).length=(kn.filter λx=>decide (lb h (x+3)=lb h (u+3))).length from jb _]
   exact ja (jm (ja (wm ..) (ja (ji _ _) q1))) (by decide)
  have il:=lb_iu hl uT
  have val:∀{Q:AV->Prop},Q (.dat (.list (zs (cg h kn (lb h (u+3))))))->i9 (lk (A2 h κ kn) (lb h (u+3))) Q (Q (.dat (.list []))):=λ{Q} q=>(lk_row (h:=h) (κ:=κ) (kn:=kn)).elim (λw=>Dw w.2 q) λw=>Dx w.2 (by
   have e:cg h kn (lb h (u+3))=[]:=List.map_eq_nil_iff.mpr (List.filter_eq_nil_iff.mpr λx m e=>w.1 ((hk _).mpr ⟨x,m,oDx e⟩))
   rw [e] at q;exact q)
  refine a7 (x:=ao u (zs h)) il ⟨z,?_⟩
  refine val ?_
  refine a7 (x:=ao u (zs TT)) (me uT) ⟨tl,?_⟩
  refine⟨rl,?_⟩
  refine a7 (x:=ao u (zs h)) il ⟨z,?_⟩
  refine⟨ja (jd (jb _)) (ja q2 (ja (ji _ _) (ja q1 (by decide)))),?_⟩
  have e1:zs (cg h kn (lb h (u+3)))++[PyData.int (u+3)]=zs (cg h kn (lb h (u+3))++[u+3]):=(kh (f:=PyData.int) (l₁:=cg h kn (lb h (u+3))) (l₂:=[u+3])).symm
  refine ci (ih (kn:=kn++[u]) (κ:=H6 κ (lb h (u+3))) (λx m=>hx x (.tail _ m)) (by rw [je,qh];show _+(1+us.length)<=_;rw [we 1];exact q1) ?_ (F6 nd) (λk=> ?_) λκ' n' l' h'=> ?_) (cGx (λl=>(⟨rR h++[(7,AV.obj (.tmp 0))],[(0,AObj.dictL true l)],b⟩:IC)) ((cGx (λd=>lset (A2 h κ kn) (lb h (u+3)) (.dat (.list d))) e1).trans (row_set λx m=>(hk _).mpr ⟨x,m,rfl⟩)))
  ·unfold H6
   split
   ·rw [je];exact ja q2 (ji _ _)
   ·rw [je,je];exact xl q2 _
  ·refine adK_mem.trans (Iff.trans (or_congr (hk k) Iff.rfl) ?_)
   exact⟨λq=>q.elim (λq=>q.imp λx q=>⟨ki _ q.1,q.2⟩) λe=>⟨u,qc _ (.head _),e.symm⟩,λq=>q.elim λx q=>(cm q.1).imp (λm=>⟨x,m,q.2⟩) λ(e:x=u)=>e▸q.2.symm⟩
  ·have:=hK κ' n' l' (λk=>by rw [h' k,jy];rfl)
   rw [jy];exact this
variable{y:Int}{fs:List az}{T:List (Nat×AObj)}
theorem andv_ap{Q:KE}{c:IC}{u:Mo}(h8:c.ρ.lookup 8=some (iv x))(h10:c.ρ.lookup 10=some (iv y))(q:Q (.dat (.bool (N7 x y))) c):(af P n (.andv (.cmp .ge (.var 8) (.con (.int 0))) (.andv (.cmp .ge (.var 10) (.con (.int 0))) (.one (.cmp .ne (.var 8) (.var 10)))))).e u c Q:=by
 unfold N7 at q
 refine a7 h8 ?_
 by_cases e:0<=x
 ·rw [dTx e] at q
  refine b8 (dTx e) (a7 h10 ?_)
  by_cases e2:0<=y
  ·rw [dTx e2] at q
   exact b8 (dTx e2) (a7 h8 (a7 h10 q))
  ·rw [dFx e2] at q
   refine ax (dFx e2) ?_
   rw [dFx e2];exact q
 ·rw [dFx e] at q
  refine ax (dFx e) ?_
  rw [dFx e];exact q
noncomputable def m81v:M:= .set 10 (.fn 75 (.cons (.var 2) (.cons (.var 9) (.nil)))) (.ifs (.cmp .ne (.met (.var 1) 4 (.cons (.sub (.var 3) (.var 6)) (.cons (.sub (.var 3) (.var 9)) (.nil)))) (.andv (.cmp .ge (.var 8) (.con (.int 0))) (.andv (.cmp .ge (.var 10) (.con (.int 0))) (.one (.cmp .ne (.var 8) (.var 10)))))) (.ret (.con (.bool false))) (.nil) (.nil))
noncomputable abbrev vR(h:List Int)(u:Int):List (Nat×AV):=rR h++[(6,iv u),(8,iv (num h (u+3)))]
theorem chk_v(hB:BK K)(G:Good fs E)(H:Hm fs h)(hu:u+3∈TT)(ku:Kn E.root (u+3)):(∀x∈us,x+3∈TT/\Kn E.root (x+3))->kk .next ⟨vR h u,T,hp P g K E⟩->
  lp ((af P (n+3) m81v).b (.st,[.known])) (mj true [9]) (IC.keep [0,1,2,3,4,6,8]) kk (us.map iv) ⟨vR h u,T,hp P g K E⟩:=by
 induction us with
 |nil=>exactλ_ hk=>hk
 |cons x us ih=>
  intro hx hk
  have hx':=hx x (.head _)
  refine ku.elim λru hru=>hx'.2.elim λrx hrx=> ?_
  have tl:(zs TT).length<=1000000:=by decide
  refine b7 (Dd H.I.len hx'.1) rt ?_
  refine a7 (x:=ao u (zs TT)) (me hu) ⟨tl,?_⟩
  refine a7 (x:=ao x (zs TT)) (me hx'.1) ⟨tl,?_⟩
  refine b7 (G.apart P hB H hru hrx n g) rt ?_
  refine andv_ap rfl rfl ?_
  refine ax (cGx (!·) (fg (d:= .bool (N7 (num h (u+3)) (num h (x+3)))) rfl)) ?_
  exact ci (ih (λy m=>hx y (.tail _ m)) hk) rfl
noncomputable def m81u:M:= .set 8 (.fn 75 (.cons (.var 2) (.cons (.var 6) (.nil)))) (.ifs (.cmp .ne (.met (.var 1) 6 (.cons (.sub (.var 3) (.var 6)) (.nil))) (.ite (.cmp .ge (.var 8) (.con (.int 0))) (.sub (.var 3) (.var 8)) (.con (.int 0)))) (.ret (.con (.bool false))) (.nil) (.fori false [9] true (.var 4) m81v [0,1,2,3,4,6,8] (.nil)))
theorem chk_u(hB:BK K)(G:Good fs E)(H:Hm fs h)(hr:g.r .known=some (.list false ((zs kn).map .dat)))(hx:∀x∈kn,x+3∈TT/\Kn E.root (x+3)):(∀x∈us,x∈kn)->kk .next ⟨rR h,T,hp P g K E⟩->
  lp ((af P (n+3) m81u).b (.st,[.known])) (mj true [6]) (IC.keep [0,1,2,3,4]) kk (us.map iv) ⟨rR h,T,hp P g K E⟩:=by
 induction us with
 |nil=>exactλ_ hk=>hk
 |cons u us ih=>
  intro hm hk
  have hu:=hx u (hm u (.head _))
  refine hu.2.elim λr hru=>(G.num P hB H hru).elim λv qv=> ?_
  have tl:(zs TT).length<=1000000:=by decide
  refine b7 (Dd H.I.len hu.1) rt ?_
  refine a7 (x:=ao u (zs TT)) (me hu.1) ⟨tl,?_⟩
  refine b7 (l6 (n:=n+2) hru qv.1) rt ?_
  have end_:(af P (n+3) (.fori false [9] true (.var 4) m81v [0,1,2,3,4,6,8] (.nil))).b (.st,[.known]) ⟨rR h++[(6,iv u),(8,iv (num h (u+3)))],T,hp P g K E⟩ (th (lp ((af P (n+3) m81u).b (.st,[.known])) (mj true [6]) (IC.keep [0,1,2,3,4]) kk (us.map iv)) kk):=by
   refine a7 (x:=g.r .known) hr ⟨o0,?_⟩
   show lp _ _ _ _ ((zs kn).map .dat) _
   rw [d8]
   refine chk_v hB G H hu.1 hu.2 hx ?_
   exact ci (ih (λy m=>hm y (.tail _ m)) hk) rfl
  refine qv.2.elim (λz=> ?_) λz=> ?_
  ·refine ax (dFx (by rw [z.2];decide)) ?_
   exact ax (lz z.1) end_
  ·refine b8 (dTx (z.2.1▸Lc v z.1)) ?_
   have q:ao (num h (u+3)) (zs TT)=some (.int v):=by rw [z.2.1];exact tt_ix (vT v z.1)
   refine a7 (x:=ao (num h (u+3)) (zs TT)) q ⟨tl,?_⟩
   exact ax (lz rfl) end_
variable{ks:List Int}{Ls:List (List Int)}
theorem Fv:lay (.list (vw Ls))=true:=by
 have h1:PyData.canLayAll0 (vw Ls)=true:=by
  unfold vw
  induction Ls with
  |nil=>rfl
  |cons x l ih=>exact(jp _ _).mpr ⟨(a9 (cp (rs:=x))).1,ih⟩
 have h3:∀x:List Int,PyData.depthAll (zs x)<=0:=λx=>by
  unfold zs
  induction x with
  |nil=>exact jc _
  |cons x l ih=>exact Nat.max_le.mpr ⟨jc _,ih⟩
 have h2:PyData.depthAll (vw Ls)<=1:=by
  clear h1
  unfold vw
  induction Ls with
  |nil=>exact jo _
  |cons x l ih=>exact Nat.max_le.mpr ⟨jm (h3 x),ih⟩
 exact(jp _ _).mpr ⟨h1,dTx (ja (jm h2) (by decide))⟩
set_option maxHeartbeats 4000000 in
theorem l81(hB:BK K)(I:LawInv P K lv L.known E)(H:Hm (ip lv) h)(ht:L.terms=TT)(kd:Kw L.known):FnI P (n+5) .st 81 [.obj .state,.obj .house,.dat (.list (zs h))] (Mine.Internal.hl P g K E L) (.dat (.bool true)) (Mine.Internal.hl P g K E L):=by
 refine enter c81 rt rt ?_
 rw [show(ar 0 [AV.obj .state,.obj .house,.dat (.list (zs h))])=[(0,.obj .state),(1,.obj .house),(2,.dat (.list (zs h)))] from rfl]
 have tl:(TT.map iv).length<=1000000:=by decide
 have c1:∀t:Int,Me P (n+4) 2 .all [iv t] {g with r:=Fy L} K E (.dat (.bool (E.root t).isSome)) E:=λt=>l2
 refine⟨by rw [d8,ht];exact tl,?_⟩
 rw [d8,ht]
 refine mw (h:=iv) (λ_=>true) (λt=> .bool (E.root t).isSome) (λx m K k=>k) (λx m K k=> ?_) λρ'=>ig ?_
 ·exact b7 (c1 x) rt k
 refine⟨by decide,by decide,?_⟩
 show Fe _ _ _ _ (hz.map iv) _ _
 refine mw (l:=hz) (h:=iv) (λ_=>true) (λx=> .bool (decide (x∈L.known))) (λx m K k=>k) (λx m K k=> ?_) λρ'=>ig ?_
 ·exact⟨_,rfl,dw ((jp _ _).mpr ⟨cp,rfl⟩) (tv▸k)⟩
 rw [yf.mpr λ_ _=>rfl,yf.mpr λ_ _=>rfl]
 have e1:(hz.map λx=>PyData.bool (decide (x∈L.known)))=TT.map λt=> .bool (E.root t).isSome:=by
  rw [show TT=hz.map (·+3) from rfl,jt]
  refine xg λx _=>cGx PyData.bool (Bool.eq_iff_iff.mpr ?_)
  rw [decide_eq_true_iff,I.kn x]
  exact wn.symm
 rw [e1]
 refine dw rfl (ax (cGx (!·) (fg rfl)) ?_)
 refine⟨(λ_ m=>(by nomatch m)),?_⟩
 refine og (b:=Mine.Internal.hl P g K E L) (τ:= .known) (o:= .list true ((zs L.known).map .dat)) rfl fy rfl ?_
 refine⟨o0,?_⟩
 show lp ((af P (n+4) m81r).b (.st,[.known])) (mj true [6]) (IC.keep [0,1,2,3,4,7]) _ ((zs L.known).map .dat) ⟨rR h++[(7,.obj (.tmp 0))],[(0,.dictL true (A2 h [] []))],_⟩
 rw [d8]
 refine rows_w H.I.len kd.2 (ja (jd (qn _)) (ja kd.len (by decide))) (jc 0) qt (λk=>⟨(λm=>(by nomatch m)),λm=>m.elim λx m=>(by nomatch m.1)⟩) λκ n2 kl h2=> ?_
 refine l9 (b:=Mine.Internal.hl P g K E L) (τ:= .known) rfl (cGx (λl=>some (AObj.list true l)) d8) ?_
 have rows:∀ks:List Int,ks.Nodup->(∀t,t∈ks↔Kn E.root t)->HdL (ot E ks)/\ma (ot E ks)=ma (κ.map (rn h L.known))/\ks.length<=60:=λks n1 h1=>(I.rows H hB n1 h1 n2 h2).imp id λq=>⟨q,ja (d5 (T:=TT) n1 λt m=>(I.good.li.elim λes L=>((h1 t).mp m).elim λr k=>(L.kn _ _ k).1)) (by decide)⟩
 have C:=l7 (P:=P) (n:=n+3) (g:={g with r:=Fy L}) (K:=K) rows λt e=>I.good.li.elim λes L=>(L.mem.2 t e).imp λm q=>⟨q.1,jq (d5 (T:=TT) q.2.1 λz m=>((L.kn _ _ ((q.2.2 z).mp m))).1) (by decide)⟩
 refine b7 C rt ?_
 refine⟨.tmp 0,.dictL true (A2 h κ L.known),.dictL false (A2 h κ L.known),rfl,Cw,?_⟩
 have eκ:((A2 h κ L.known).map λp=>AV.dat (.int p.1))=κ.map iv:=by unfold A2;rw [jt];rfl
 refine⟨by rw [jb];exact ja (jd (jb _)) (ja kl (by decide)),?_⟩
 show Fe _ _ _ _ ((A2 h κ L.known).map λp=>AV.dat (.int p.1)) _ _
 rw [eκ]
 refine mw (h:=iv) (λ_=>true) (λk=> .list (zs (rn h L.known k))) (λx m K k=>k) (λx m K k=> ?_) λρ'=> ?_
 ·refine a7 (x:=lk (A2 h κ L.known) x) (lk_row.elim (·.2) λq=>(q.1 m).elim) ?_
  refine⟨_,rfl,jq (ja (jd (jb _)) (ja (wm ..) kd.len)) (by decide),k⟩
 rw [yf.mpr λ_ _=>rfl]
 refine ig ⟨rfl,?_⟩
 have κl:κ.length<64:=jq (d5 (T:=h) n2 λk m=>((h2 k).mp m).elim λx q=>q.2▸ur H.I.len (kd.2 x q.1)) (by rw [H.I.len];decide)
 refine⟨κ.map (rn h L.known),by unfold vw;rw [jt];rfl,by rw [jb];exact κl,D0 n2 λk m=>(h2 k).mp m,?_⟩
 refine dw ((jp _ _).mpr ⟨Fv,Fv⟩) (ax (cGx (!·) (fg Fv)) ?_)
 refine og (b:=Mine.Internal.hl P g K E L) (τ:= .known) (o:= .list true ((zs L.known).map .dat)) rfl fy rfl ?_
 refine⟨o0,?_⟩
 rw [d8,show up (Mine.Internal.hl P g K E L) .known (.list false (L.known.map iv))=hp P {g with r:=up (Fy L) .known (.list false (L.known.map iv))} K E from up_law]
 refine ci (chk_u hB I.good H (by show some (AObj.list false _)=_;rw [d8]) (λx m=>⟨kd.2 x m,(I.kn x).mp m⟩) (λu m=>m) ?_) rfl
 rw [<-up_law (g:={g with r:=Fy L}) (o:= .list false (L.known.map iv))]
 exact l9 (b:=Mine.Internal.hl P g K E L) (τ:= .known) rfl (cGx (λl=>some (AObj.list true l)) d8) done
end
section
variable{P:Prg}{n m i:Nat}{g:Aside}{K:Bks}{E:Eng}{L:Lw}{u k t d:Int}{ids:List Nat}{lv:List (List az)}{top:List az}{kk:KB}{ds:List PyData}
noncomputable def LvOK(f:Nat->Option (List PyData)):List (List az)->Prop
 |[]=>True
 |top::lv=>f lv.length=some (top.map p5)/\LvOK f lv
variable{f:Nat->Option (List PyData)}
theorem LvOK.drop(h:LvOK f lv):∀k,LvOK f (lv.drop k):=by
 induction lv with
 |nil=>exactλk=>by rw [List.drop_nil];exact h
 |cons f lv ih=>exactλk=>Nat.casesOn k h λk=>ih h.2 k
noncomputable def Lw.at(L:Lw)(i:Nat)(d:List PyData):Lw:={L with lv:=λj=>if j=i then some d else L.lv j}
theorem LvOK.at(h:LvOK L.lv lv)(q:lv.length<=i):LvOK (L.at i ds).lv lv:=by
 induction lv with
 |nil=>exact h
 |cons f lv ih=>exact⟨(if_neg (qw (Nat.lt_of_succ_le q))).trans h.1,ih h.2 (qg q)⟩
theorem Cv:∀k,(ip (lv.drop k)).length<=(ip lv).length:=by
 induction lv with
 |nil=>exactλk=>by rw [List.drop_nil];exact jc _
 |cons f lv ih=>exactλk=>Nat.casesOn k (jc _) λk=>ja (ih k) (by rw [flt_cons,je];exact ji _ _)
theorem Lx{l l':List Nat}:L.facts (l++l')=L.facts l++L.facts l':=by
 induction l with
 |nil=>rfl
 |cons i l ih=>exact(cGx ((L.lv i).getD []++·) ih).trans (jy ..).symm
theorem LvOK.facts(h:LvOK L.lv lv):L.facts (List.range lv.length)=(ip lv).map p5:=by
 induction lv with
 |nil=>rfl
 |cons f lv ih=>
  rw [flt_cons,kh,<-ih h.2,List.length_cons,List.range_succ,Lx]
  exact cGx _ ((jk _).trans (cGx (Option.getD · []) h.1))
theorem LvOK.ok(h:LvOK L.lv lv):L.ok (List.range lv.length):=by
 induction lv with
 |nil=>exactλ_ m=>(by nomatch m)
 |cons f lv ih=>exactλi m=>(Nat.lt_or_eq_of_le (xz (wd.mp m))).elim (λq=>ih h.2 i (wd.mpr q)) λe=>⟨_,e▸h.1⟩
theorem e_lvl{vs:List AV}(e:vs=ds.map .dat):up (hl P g K E L) (.lvl i) (.list true vs)=hl P g K E (L.at i ds):=by
 refine e▸b5 (λτ h=> ?_) (cGx (λd:Option (List PyData)=>d.bind Mine.Internal.ls) (if_pos rfl))
 cases τ with
 |lvl j=>exact cGx (λd:Option (List PyData)=>d.bind Mine.Internal.ls) (if_neg λq=>h (cGx Tg.lvl q)).symm
 |ls k t=>cases k<;>rfl
 |dct k=>cases k<;>rfl
 |_=>rfl
theorem Cr{vs:List AV}(e:vs=ids.map λi=> .obj (.lvl i)):up (hl P g K E L) .levels (.list true vs)=hl P g K E {L with ids:=ids}:=by
 refine e▸b5 (λτ h=> ?_) rfl
 cases τ with
 |levels=>exact(h rfl).elim
 |ls k t=>cases k<;>rfl
 |dct k=>cases k<;>rfl
 |_=>rfl
theorem M5{K α:Type}[DecidableEq K]{f:K->Option α}{k:K}{u:α}(h:f k=some u):a6 f k u=f:=funext λz=>by
 by_cases e:z=k
 ·rw [e,ag,h]
 ·rw [ah e]
theorem e_state{f:Str->Option AV}(h:f=bt (λ_=>none) [(S "terms",.dat (.list (zs L.terms))),(S "levels",.obj .levels),(S "known",.obj .known)]):up (hl P g K E L) .state (.dictS (a6 f (S "levels") (.obj .levels)))=hl P g K E L:=by
 rw [M5 (h▸rfl),h]
 exact b5 (λτ h=>rfl) rfl
noncomputable abbrev ρ4(d:Int):List (Nat×AV):=[(0,.obj .feed),(1,.obj .state),(2,.obj .house),(4,.dat (.list (zs TT))),(3,iv d)]
noncomputable def m82p(i:Nat):M:= .ex (.lm (.sub (.var 1) (.con (.str (S "levels")))) .append (.cons (.own (.lvl i) (.lst .nil)) (.nil))) (.ex (.met (.var 2) 37 (.nil)) (.nil))
theorem b_push(hi:L.ids=List.range i)(h1:E.marks.length<=1000000)(h2:E.trail.length<=1000000)(h3:i<=1000000)(hk:∀ρ',kk .next ⟨ρ',[],hl P g K {E with marks:=E.marks++[(E.trail.length:Int)]} {L.at i [] with ids:=List.range (i+1)}⟩):
  (af P (n+1) (m82p i)).b (.s2,[]) ⟨ρ4 d,[],hl P g K E L⟩ kk:=by
 refine⟨dp,(λoh e=> ?_),?_⟩
 ·cases e
  exactλv m=>(jf.mp m).elim λj q=>q.2▸λz=>Nat.lt_irrefl i (jq (jd (cGx (λτ=>match τ with| .lvl j=>j|_=>0) z).symm) (wd.mp (hi▸q.1)))
 refine a8 (e_lvl (ds:=[]) rfl) ?_
 refine⟨?_,a8 (Cr (L:=L.at i []) (ids:=List.range (i+1)) ?_) ?_⟩
 ·rw [jb];show L.ids.length<=_;rw [hi,qx];exact h3
 ·show L.ids.map _++_=_
  rw [hi,List.range_succ,kh];rfl
 refine b7 (l37 (g:={g with r:=Fy {L.at i [] with ids:=List.range (i+1)}}) h1 h2) rt ?_
 exact hk _
end
section
variable{P:Prg}{n m i N k:Nat}{g g':Aside}{K:Bks}{E E':Eng}{L:Lw}{u v w x d:Int}{ids:List Nat}{kk:KB}
theorem cy{α β:Type}[DecidableEq α]{f:α->Option β}{k j:α}{v w:β}(h:a6 f k v j=some w):w=v\/f j=some w:=by
 by_cases e:j=k
 ·rw [e,ag] at h;exact .inl (sJx h).symm
 ·rw [ah e] at h;exact .inr h
theorem std_q{y:Nat}{ρ:List (Nat×AV)}{ws:List AV}{F:IC->Prop}{u:Mo}(h:ρ.lookup y=some (.obj .state))(e:ws=ids.map λi=> .obj (.lvl i))(hn:(nu u .levels&&ρ.all λp=>nt .levels p.2)=true)(q:F ⟨ρ,[],hl P g K E {L with ids:=ids}⟩):
  std ⟨ρ,[],hl P g K E L⟩ u y (S "levels") .levels (.list true ws) F:=by
 refine a7 h ?_
 refine dw ?_ ⟨λv m=> ?_,(λj v n e=> ?_),a8 ((cGx (λb=>up b .state _) (Cr e)).trans (e_state (L:={L with ids:=ids}) rfl)) q⟩
 ·have:=a9 hn
  exact(jp _ _).mpr ⟨this.1,(jp _ _).mpr ⟨this.2,rfl⟩⟩
 ·rw [e] at m
  exact(jf.mp m).elim λi q=>q.2▸rfl
 ·exact(cy e).elim (λe=>e▸λz=>(by nomatch z)) λe=>(cy ((ah n).symm.trans e)).elim (λe=>e▸trivial) λe=>(by nomatch e)
noncomputable def m82q:M:= .set 5 (.bin .add (.con (.int 1)) (.fn 72 (.cons (.var 0) (.cons (.bin .sub (.blt .len (.cons (.sub (.var 1) (.con (.str (S "levels")))) (.nil))) (.con (.int 1))) (.nil))))) (.ex (.met (.var 2) 38 (.cons (.var 5) (.nil))) (.setd 1 (S "levels") (.levels) (.slu (.sub (.var 1) (.con (.str (S "levels")))) (.bin .sub (.blt .len (.cons (.sub (.var 1) (.con (.str (S "levels")))) (.nil))) (.var 5))) (.nil)))
theorem b_pop(hs:L.spot<=1000)(hc:L.cells.length<=1000)(hi:L.ids=List.range N)(hN:N<=1000)(ex:bf L.cells L.spot ((N:Int)-1)=k)(hk:k+1<N)
  (F:FnI P (n+1) .s2 38 [.obj .house,iv (k+1:Nat)] (hl P g K E {L with spot:=L.spot+1}) (.dat .none) (hl P g' K E' {L with spot:=L.spot+1})) (hq:∀ρ',kk .next ⟨ρ',[],hl P g' K E' {L with spot:=L.spot+1,ids:=List.range (N-(k+1))}⟩):
  (af P (n+1) m82q).b (.s2,[]) ⟨ρ4 d,[],hl P g K E L⟩ kk:=by
 have len:∀{α:Type} {f:Nat->α},(L.ids.map f).length=N:=by rw [hi];exactλ{α f}=>(jb _).trans qx
 have hN':∀{α:Type} {f:Nat->α},(L.ids.map f).length<=1000000:=λ{α f}=>len▸ja hN (by decide)
 refine⟨hN',?_⟩
 rw [len]
 have S72:=l72 (P:=P) (n:=n) (g:=g) (K:=K) (E:=E) (L:=L) (wide:=(N:Int)-1) (Int.sub_pos_of_lt (qz.mpr (jq (jm (jo k)) hk))) hs hc
 rw [ex] at S72
 refine b7 S72 rt ?_
 have e1:(1:Int)+k=(k+1:Nat):=Int.add_comm ..
 show(af P (n+1) (.ex (.met (.var 2) 38 (.cons (.var 5) (.nil))) _)).b (.s2,[]) ⟨ρ4 d++[(5,iv (1+k))],[],_⟩ kk
 rw [e1]
 refine b7 F rt ?_
 have e2:(N:Int)-(k+1:Nat)=(N-(k+1):Nat):=(Int.ofNat_sub (qk hk)).symm
 refine⟨hN',?_⟩
 rw [len]
 refine a7 (x:=fq none (some ((N:Int)-(k+1:Nat))) none (L.ids.map λi=>AV.obj (.lvl i))) (a:=(L.ids.map λi=>AV.obj (.lvl i)).take (N-(k+1))) (by rw [e2];exact slOf_take) ⟨hN',?_⟩
 refine std_q (ids:=List.range (N-(k+1))) rfl ?_ rfl (hq _)
 rw [hi,<-xj,List.take_range,Nat.min_eq_left (Nat.sub_le _ _)]
variable{ds:List PyData}
noncomputable def Lw.nx(L:Lw):Lw:={L with spot:=L.spot+1}
theorem l72e{wide:Int}(hw:0<wide)(hs:L.spot<=1000)(hc:L.cells.length<=1000)(ex:bf L.cells L.spot wide=x):FnI P (n+1) .st 72 [.obj .feed,iv wide] (hl P g K E L) (iv x) (hl P g K E L.nx):=ex▸l72 hw hs hc
noncomputable def Lw.ln(L:Lw)(u:Int):Lw:={L with known:=be 3 L.known u}
theorem l79e(hu:u+3∈TT)(kd:Kw L.known):FnI P (n+3) .st 79 [.obj .state,iv u] (hl P g K E L) (.dat .none) (hl P g K E (L.ln u))/\Kw (L.ln u).known:=⟨(l79 (m:=3) (dp3 hu)).1 L kd,(l79 (P:=P) (n:=n) (g:=g) (K:=K) (E:=E) (m:=3) (dp3 hu)).2 _ kd⟩
theorem me_hl{id:Nat}{md:Md}{as:List AV}{r:AV}(F:∀g,Me P n id md as g K E r E'):FnI P n md id (.obj .house::as) (hl P g K E L) r (hl P g K E' L):=F _
noncomputable def m82l:M:= .set 6 (.fn 72 (.cons (.var 0) (.cons (.con (.int 11)) (.nil)))) (.ex (.fn 79 (.cons (.var 1) (.cons (.var 6) (.nil)))) (.ex (.met (.var 2) 10 (.cons (.sub (.var 4) (.var 6)) (.nil))) (.nil)))
theorem b_learn(hs:L.spot<=1000)(hc:L.cells.length<=1000)(ex:bf L.cells L.spot 11=u)(hu:u+3∈TT)(kd:Kw L.known)
  (F:∀g,Me P (n+3) 10 .st [iv (u+3)] g K E (.dat .none) E') (hq:∀ρ',kk .next ⟨ρ',[],hl P g K E' (L.nx.ln u)⟩):
  (af P (n+3) m82l).b (.s2,[]) ⟨ρ4 d,[],hl P g K E L⟩ kk:=by
 have S72:=l72 (P:=P) (n:=n+2) (g:=g) (K:=K) (E:=E) (L:=L) (wide:=11) (by decide) hs hc
 rw [ex] at S72
 refine b7 S72 rt ?_
 refine b7 (l79e (n:=n) (L:=L.nx) hu kd).1 rt ?_
 refine a7 (x:=ao u (zs TT)) (me hu) ⟨by decide,?_⟩
 refine b7 (me_hl F) rt ?_
 exact hq _
noncomputable def m82m:M:= .sets [6,7] (.cons (.fn 72 (.cons (.var 0) (.cons (.con (.int 11)) (.nil)))) (.cons (.fn 72 (.cons (.var 0) (.cons (.con (.int 11)) (.nil)))) (.nil))) (.set 8 (.sub (.tup (.cons (.con (.int 0)) (.cons (.con (.int 2)) (.cons (.con (.int 3)) (.cons (.neg (.con (.int 4))) (.cons (.con (.int 2)) (.cons (.con (.int 6)) (.nil)))))))) (.fn 72 (.cons (.var 0) (.cons (.con (.int 6)) (.nil))))) (.ex (.lm (.sub (.sub (.var 1) (.con (.str (S "levels")))) (.neg (.con (.int 1)))) .append (.cons (.tup (.cons (.var 6) (.cons (.var 7) (.cons (.var 8) (.nil))))) (.nil))) (.ex (.fn 79 (.cons (.var 1) (.cons (.var 6) (.nil)))) (.ex (.fn 79 (.cons (.var 1) (.cons (.var 7) (.nil)))) (.ex (.met (.var 2) 14 (.cons (.sub (.var 4) (.var 6)) (.cons (.sub (.var 4) (.var 7)) (.cons (.var 8) (.nil))))) (.nil))))))
theorem b_merge{j:Int}(hs:L.spot<=900)(hc:L.cells.length<=1000)(eu:bf L.cells L.spot 11=u)(hu:u+3∈TT)(ev:bf L.cells (L.spot+1) 11=v)(hv:v+3∈TT)
  (ej:bf L.cells (L.spot+1+1) 6=j) (hj:(0<=j/\j<=1000)/\[PyData.int 0,.int 2,.int 3,.int (-4),.int 2,.int 6][j.toNat]? =some (.int w)) (kd:Kw L.known) (hi:L.ids=List.range (i+1)) (hi6:i<1000000) (hd:L.lv i=some ds) (h6:ds.length<=1000000)
  (F:∀g,Me P (n+3) 14 .st [iv (u+3),iv (v+3),.dat (.int w)] g K E (.dat .none) E') (hq:∀ρ',kk .next ⟨ρ',[],hl P g K E' (((L.nx.nx.nx.at i (ds++[.tuple [.int u,.int v,.int w]])).ln u).ln v)⟩):
  (af P (n+3) m82m).b (.s2,[]) ⟨ρ4 d,[],hl P g K E L⟩ kk:=by
 refine b7 (l72e (n:=n+2) (L:=L) (by decide) (ja hs (by decide)) hc eu) rt (b7 (l72e (n:=n+2) (L:=L.nx) (by decide) (ja (jm hs) (by decide)) hc ev) rt ?_)
 refine b7 (l72e (n:=n+2) (L:=L.nx.nx) (by decide) (ja (jm (jm hs)) (by decide)) hc ej) rt ?_
 refine dw ((jp _ _).mpr ⟨dTx hj.1.1,dTx hj.1.2⟩) (a7 (x:=[PyData.int 0,.int 2,.int 3,.int (-4),.int 2,.int 6][j.toNat]?) hj.2 ?_)
 have lr:(((List.range (i+1)).map λi=>AV.obj (.lvl i)).length)=i+1:=(jb _).trans qx
 refine a7 (x:=ao (-1) (L.nx.nx.nx.ids.map λi=>AV.obj (.lvl i))) (a:= .obj (.lvl i)) ?_ ⟨?_,?_⟩
 ·show ao (-1) (L.ids.map _)=_
  rw [hi]
  refine(if_neg (by decide)).trans ((if_pos rfl).trans ?_)
  rw [lr,yo,jw,List.getElem?_range (wq i)];rfl
 ·show(L.ids.map _).length<=_
  rw [hi,lr];exact hi6
 have el:(L.lv i).bind Mine.Internal.ls=some (.list true (ds.map .dat)):=by rw [hd];rfl
 refine a7 (x:=(L.lv i).bind Mine.Internal.ls) el (a7 (x:=(L.lv i).bind Mine.Internal.ls) el ?_)
 refine⟨ai h6,a8 (e_lvl (i:=i) (L:=L.nx.nx.nx) (ds:=ds++[.tuple [.int u,.int v,.int w]]) ?_) ?_⟩
 ·rw [kh];rfl
 have k1:=l79e (P:=P) (n:=n) (g:=g) (K:=K) (E:=E) (L:=L.nx.nx.nx.at i (ds++[.tuple [.int u,.int v,.int w]])) hu kd
 refine b7 k1.1 rt (b7 (l79e (n:=n) hv k1.2).1 rt ?_)
 refine a7 (x:=ao u (zs TT)) (me hu) ⟨by decide,?_⟩
 refine a7 (x:=ao v (zs TT)) (me hv) ⟨by decide,?_⟩
 refine b7 (me_hl F) rt ?_
 exact hq _
variable{c:List Int}{lv:List (List az)}{top:List az}{b b':Tg->Option AObj}{md:Md}{as:List AV}{a:AV}
theorem FnI.up{id:Nat}(h:n<=m)(F:FnI P n md id as b a b'):FnI P m md id as b a b':=λI=>⟨λA G s xs h1 h2 h3=>(F I).1 A G s xs h1 (jq (jv (ym 2 h) _) h2) (jq (jv (ym 20 h) _) h3),(F I).2⟩
structure LS(m:Nat)(L:Lw)(lv:List (List az)):Prop where
 ids:L.ids=List.range lv.length
 lev:LvOK L.lv lv
 kd:Kw L.known
 ht:L.terms=TT
 ce:L.cells.length<=44
 sp:L.spot<=4*m+1
 ln:lv.length<=m+1
 fl:(ip lv).length<=m
theorem lnext_r(hw:0<w):0<=bf c i w/\bf c i w<w:=by
 unfold bf
 cases c[i]? with
 |none=>exact⟨Int.emod_nonneg _ (Ne.symm (xm hw)),Int.emod_lt_of_pos _ hw⟩
 |some x=>exact⟨Int.emod_nonneg _ (Ne.symm (xm hw)),Int.emod_lt_of_pos _ hw⟩
theorem t9(hw:0<N):∃k,k<N/\bf c i N=(k:Nat):=by
 have q:=lnext_r (c:=c) (i:=i) (Int.natCast_pos.mpr hw)
 exact⟨(bf c i N).toNat,(Int.toNat_lt q.1).mpr q.2,(Int.toNat_of_nonneg q.1).symm⟩
theorem et:bf c i 11+3∈TT:=(t9 (c:=c) (i:=i) (N:=11) (by decide)).elim λk q=>(cGx (·+(3:Int)) q.2)▸(by decide:∀k<11,((k:Nat):Int)+3∈TT) k q.1
theorem lnext_m:∃w∈[(0:Int),2,3,-4,6],(0<=bf c i 6/\bf c i 6<=1000)/\[PyData.int 0,.int 2,.int 3,.int (-4),.int 2,.int 6][(bf c i 6).toNat]? =some (.int w):=by
 refine(t9 (c:=c) (i:=i) (N:=6) (by decide)).elim λk q=> ?_
 rw [show bf c i 6=k from q.2,Int.toNat_natCast]
 refine((by decide:∀k<6,∃w∈[(0:Int),2,3,-4,6],[(0:Int),2,3,-4,2,6][k]? =some w) k q.1).imp λw r=>⟨r.1,⟨wz _,Int.ofNat_le.mpr (ja (qk q.1) (by decide))⟩,?_⟩
 show([(0:Int),2,3,-4,2,6].map PyData.int)[k]? =_
 rw [jw,r.2];rfl
noncomputable def m82r(i:Nat):M:= .ifs (.cmp .eq (.var 3) (.con (.int 5))) (m82p i) (.ifs (.and (.cmp .eq (.var 3) (.con (.int 6))) (.cmp .gt (.blt .len (.cons (.sub (.var 1) (.con (.str (S "levels")))) (.nil))) (.con (.int 1)))) m82q (.ifs (.cmp .eq (.var 3) (.con (.int 7))) m82l (.ifs (.cmp .ne (.var 3) (.con (.int 6))) m82m (.nil) (.nil)) (.nil)) (.nil)) (.nil)
theorem ph(i:Nat)(hs:L.spot<=1000)(hc:L.cells.length<=1000)(ht:L.terms=TT)(h:(af P (n+7) (m82r i)).b (.s2,[]) ⟨ρ4 (bf L.cells L.spot 8),[],hl P g K E L.nx⟩ (A7 (.dat .none) b')):FnI P (n+8) .s2 82 [.obj .feed,.obj .state,.obj .house] (hl P g K E L) (.dat .none) b':=by
 refine enter (c82 i) rt rt ?_
 refine b7 (l72e (n:=n+6) (L:=L) (by decide) hs hc rfl) rt ?_
 show(af P (n+7) (m82r i)).b (.s2,[]) ⟨[(0,.obj .feed),(1,.obj .state),(2,.obj .house),(4,.dat (.list (zs L.terms))),(3,iv (bf L.cells L.spot 8))],[],hl P g K E L.nx⟩ (A7 (.dat .none) b')
 rw [ht];exact h
def Out(P:Prg)(n:Nat)(K:Bks)(m:Nat)(E':Eng)(L':Lw)(lv':List (List az)):Prop:=LS m L' lv'/\Lf (ip lv')/\(LawInv P K lv' L'.known E'\/∃top rest l,lv'=top::rest/\E'.clash=some l/\ClashJ (ip lv') l/\
 (rest≠[]->∃E2,(∀g,∃g':Aside,g'.r=g.r/\FnI P (n+6) .s2 38 [.obj .house,iv (1:Nat)] (hp P g K E') (.dat .none) (hp P g' K E2))/\LawInv P K rest L'.known E2))
theorem l82(hB:BK K)(I:LawInv P K lv L.known E)(s:LS m L lv)(hm:m<=100):∃E' L' lv',(∀g,∃g',FnI P (n+8) .s2 82 [.obj .feed,.obj .state,.obj .house] (hl P g K E L) (.dat .none) (hl P g' K E' L'))/\Out P n K (m+1) E' L' lv':=by
 have hc:L.cells.length<=1000:=ja s.ce (by decide)
 have hs:L.spot<=401:=ja s.sp (jm (ym 4 hm))
 have hs':L.spot<=1000:=ja hs (by decide)
 have h101:lv.length<=101:=ja s.ln (jm hm)
 have hl':lv.length<=1000:=ja h101 (by decide)
 have big:∀{k},k<=1000->k<=1000000:=λh=>ja h (by decide)
 have sp:∀k,k<=4->L.spot+k<=4*(m+1)+1:=λk h=>ja (xc s.sp h) (jd (Nat.succ_add _ _))
 by_cases x5:bf L.cells L.spot 8=5
 ·refine⟨_,_,[]::lv,λg=>⟨g,ph lv.length hs' hc s.ht (b8 (gn x5) (b_push s.ids (big (I.mlen hl')) (ja I.good.tlen (by decide)) (big hl') λρ'=>b9))⟩,⟨rfl,⟨if_pos rfl,s.lev.at (jc _)⟩,s.kd,s.ht,s.ce,sp 1 (by decide),jm s.ln,?_⟩,I.push.fok,.inl I.push⟩
  rw [flt_cons,jk];exact qm s.fl
 by_cases x6:bf L.cells L.spot 8=6
 ·have llen:(L.nx.ids.map λi=>AV.obj (.lvl i)).length=lv.length:=(jb _).trans ((cGx wj s.ids).trans qx)
  have lb6:(L.nx.ids.map λi=>AV.obj (.lvl i)).length<=1000000:=llen▸big hl'
  by_cases h1:lv.length<=1
  ·refine⟨E,L.nx,lv,λg=>⟨g,ph 0 hs' hc s.ht (ax (de x5) (b8 (gn x6) ⟨lb6,ax (dFx ?_) (ax (de (by rw [x6];decide)) (ax (lz x6) b9))⟩))⟩,⟨s.ids,s.lev,s.kd,s.ht,s.ce,sp 1 (by decide),qm s.ln,qm s.fl⟩,I.fok,.inl I⟩
   rw [llen]
   exact Int.not_lt.mpr (Int.ofNat_le.mpr h1)
  ·have hN:1<lv.length:=Nat.lt_of_not_le h1
   refine(t9 (c:=L.cells) (i:=L.spot+1) (N:=lv.length-1) (Nat.sub_pos_of_lt hN)).elim λk q=> ?_
   have hk:k+1<lv.length:=Nat.add_lt_of_lt_sub q.1
   refine(Ii (n:=n) hB I.fok I.hist I.kn I.nd hl' I.good.tlen (.inl I.good.cl) hk).elim λE' r=> ?_
   refine⟨E',{L.nx.nx with ids:=List.range (lv.length-(k+1))},lv.drop (k+1),λg=>(r.1 {g with r:=Fy L.nx.nx}).elim λg' r=>⟨g',ph 0 hs' hc s.ht (ax (de x5) (b8 (gn x6) ⟨lb6,b8 (dTx ?_) (b_pop (N:=lv.length) (g':=g') (ja (jm hs) (by decide)) hc s.ids hl' ?_ hk ?_ λρ'=>b9)⟩))⟩,⟨by rw [List.length_drop],s.lev.drop _,s.kd,s.ht,s.ce,sp 2 (by decide),ja (jd (List.length_drop ..)) (ja (Nat.sub_le _ _) (qm s.ln)),ja (Cv _) (qm s.fl)⟩,r.2.fok,.inl r.2⟩
   ·rw [llen];exact qz.mpr hN
   ·rw [<-q.2,Int.ofNat_sub (qk hN)];rfl
   ·rw [show hl P g' K E' {L.nx with spot:=L.nx.spot+1}=hp P g' K E' from cGx (λr=>hp P {g' with r:=r} K E') r.1.symm]
    exact r.2.up (ko _)
 have kd2:∀{L:Lw} {u:Int},u+3∈TT->Kw L.known->Kw (L.ln u).known:=λ{L u} h kd=>(l79e (P:=P) (n:=n) (g:=⟨λ_ _=>none,λ_=>none,λ_=>none⟩) (K:=K) (E:=E) (L:=L) h kd).2
 by_cases x7:bf L.cells L.spot 8=7
 ·refine(I.add (n:=n) hB hl' (et (c:=L.cells) (i:=L.spot+1))).elim λE' r=> ?_
  have r2:=r.2
  rw [wc] at r2
  exact⟨E',L.nx.nx.ln (bf L.cells (L.spot+1) 11),lv,λg=>⟨g,ph 0 hs' hc s.ht (ax (de x5) (ax (de x6) (ax rfl (b8 (gn x7) (b_learn (n:=n+4) (ja (jm hs) (by decide)) hc rfl et s.kd (λg=>(r.1 g).up (ko _)) λρ'=>b9)))))⟩,⟨s.ids,s.lev,kd2 et s.kd,s.ht,s.ce,sp 2 (by decide),qm s.ln,qm s.fl⟩,I.fok,.inl r2⟩
 cases lv with
 |nil=>exact I.hist.elim
 |cons top lv=>
  refine(lnext_m (c:=L.cells) (i:=L.spot+1+1+1)).elim λw W=> ?_
  refine(I.merge (n:=n) hB hl' (et (c:=L.cells) (i:=L.spot+1)) (et (c:=L.cells) (i:=L.spot+1+1)) W.1).elim λE' r=> ?_
  rw [wc,wc] at r
  have fl:=s.fl
  rw [flt_cons,je] at fl
  refine⟨E',((L.nx.nx.nx.nx.at lv.length (top.map p5++[.tuple [.int (bf L.cells (L.spot+1) 11),.int (bf L.cells (L.spot+1+1) 11),.int w]])).ln (bf L.cells (L.spot+1) 11)).ln (bf L.cells (L.spot+1+1) 11),(top++[(bf L.cells (L.spot+1) 11+3,bf L.cells (L.spot+1+1) 11+3,w)])::lv,λg=>⟨g,ph 0 hs' hc s.ht (ax (de x5) (ax (de x6) (ax rfl (ax (de x7) (b8 (oj x6) ?_)))))⟩,⟨s.ids,?_,?_,s.ht,s.ce,sp 4 (by decide),qm s.ln,?_⟩,r.2.1,?_⟩
  ·exact b_merge (n:=n+4) (ja (jm hs) (by decide)) hc rfl et rfl et rfl W.2 s.kd s.ids (kg (wq _) (big hl')) s.lev.1 (ja (jd (jb _)) (ja (ja (Nat.le_add_left _ _) fl) (ja hm (by decide)))) r.1 λρ'=>b9
  ·refine⟨(if_pos rfl).trans (cGx some ?_),s.lev.2.at (jc _)⟩
   rw [kh]
   show _=_++[PyData.tuple [.int (_+3-3),.int (_+3-3),.int w]]
   rw [wc,wc]
  ·exact kd2 et (kd2 et s.kd)
  ·rw [flt_cons,je,je];exact jm fl
  ·exact r.2.2.imp (·.2) λq=>q.elim λl q=>⟨_,_,l,rfl,q⟩
variable{l h:List Int}{ρ:List (Nat×AV)}
theorem LS.fct(s:LS m L lv):L.ok L.ids/\L.facts L.ids=(ip lv).map p5:=by rw [s.ids];exact⟨s.lev.ok,s.lev.facts⟩
noncomputable def m83B:M:= .ifs (.or (.not (.val (.fn 81 (.cons (.var 4) (.cons (.var 3) (.cons (.var 6) (.nil))))))) (.not (.val (.fn 80 (.cons (.var 4) (.cons (.var 3) (.cons (.var 6) (.cons (.bin .add (.var 5) (.blt .len (.cons (.sub (.var 4) (.con (.str (S "known")))) (.nil)))) (.nil))))))))) (.ret (.con (.bool false))) (.nil) (.nil)
theorem Hb(hB:BK K)(I:LawInv P K lv L.known E)(s:LS m L lv)(hm:m<=101)(H:Hm (ip lv) h)(h3:ρ.lookup 3=some (.obj .house))(h4:ρ.lookup 4=some (.obj .state))(h5:ρ.lookup 5=some (iv x))(h6:ρ.lookup 6=some (.dat (.list (zs h))))(hk:(ρ.all λp=>kpU .st p.2)=true)(q:kk .next ⟨ρ,[],hl P g K E L⟩):
  (af P (n+5) m83B).b (.top,[]) ⟨ρ,[],hl P g K E L⟩ kk:=by
 have fl:(ip lv).length<=1000:=ja s.fl (ja hm (by decide))
 refine a7 h4 (a7 h3 (a7 h6 ?_))
 refine b7 (l81 (n:=n) hB I H s.ht s.kd) ((jp _ _).mpr ⟨(jp _ _).mpr ⟨rfl,hk⟩,rfl⟩) ?_
 refine a7 (x:=ρ.lookup 4) h4 (a7 h3 (a7 h6 (a7 h5 (a7 h4 ?_))))
 refine⟨ei (ja s.kd.len (by decide)),?_⟩
 refine b7 (l80 (n:=n) hB I H s.fct.1 s.fct.2 s.ht fl s.kd) ((jp _ _).mpr ⟨(jp _ _).mpr ⟨rfl,hk⟩,rfl⟩) ?_
 exact q
theorem home(s:LS m L lv)(hm:m<=101)(F:Lf (ip lv)):∃h,Hm (ip lv) h/\(∀{n g E},FnI P (n+1) .all 77 [.obj .state] (hl P g K E L) (Ct (ip lv)) (hl P g K E L))/\∀{n σ},FnI P (n+1) .all 74 [Ct (ip lv)] σ (.dat (.list (zs h))) σ:=by
 have fl:(ip lv).length<=1000:=ja s.fl (ja hm (by decide))
 refine(l74 (P:=P) (n:=0) (λf q=>⟨(F f q).1,(F f q).2.1⟩) fl).imp λh r=>⟨r.1,λ{n g E}=> ?_,λ{n σ}=>(r.2 σ).up (jm (jo n))⟩
 have q:=l77 (P:=P) (n:=n) (g:=g) (K:=K) (E:=E) s.fct.1 (by rw [s.fct.2,jb];exact ja fl (by decide))
 rw [s.fct.2] at q;exact q
noncomputable abbrev ρ7(ns:Obj->Prop)(x:Int)(h:List Int)(d:PyData):List (Nat×AV):=[(0,.raw ns),(1,.obj .feed),(2,.obj .bank),(3,.obj .house),(4,.obj .state),(5,iv x),(7,.dat d),(6,.dat (.list (zs h)))]
noncomputable def m83A:M:= .set 8 (.fn 78 (.cons (.var 4) (.cons (.var 7) (.nil)))) (.ifs (.or (.cmp .isv (.var 8) (.con .none)) (.not (.val (.fn 76 (.cons (.var 8) (.nil)))))) (.ret (.con (.bool false))) (.nil) (.ifs (.cmp .eq (.blt .len (.cons (.sub (.var 4) (.con (.str (S "levels")))) (.nil))) (.con (.int 1))) (.ret (.con (.bool true))) (.nil) (.ex (.met (.var 3) 38 (.cons (.con (.int 1)) (.nil))) (.setd 4 (S "levels") (.levels) (.slu (.sub (.var 4) (.con (.str (S "levels")))) (.neg (.con (.int 1)))) (.set 6 (.fn 74 (.cons (.fn 77 (.cons (.var 4) (.nil))) (.nil))) (.ifs (.cmp .isnot (.met (.var 3) 8 (.nil)) (.con .none)) (.ret (.con (.bool false))) (.nil) (.nil)))))))
theorem LS.pop(s:LS m L (top::lv)):LS m {L with ids:=List.range lv.length} lv:=⟨rfl,s.lev.2,s.kd,s.ht,s.ce,s.sp,qg s.ln,ja (Cv (lv:=top::lv) 1) s.fl⟩
theorem b_clash{rest:List (List az)}{ns:Obj->Prop}(hB:BK K)(s:LS m L lv)(hm:m<=101)(F:Lf (ip lv))(e:lv=top::rest)(C:ClashJ (ip lv) l)(hq:∀a c,a=AV.dat (.bool true)->kk (.ret a) c)
  (hp_:rest≠[]->∃E2,(∀g,∃g':Aside,g'.r=g.r/\FnI P (n+6) .s2 38 [.obj .house,iv (1:Nat)] (hp P g K E) (.dat .none) (hp P g' K E2))/\LawInv P K rest L.known E2/\∀g h,Hm (ip rest) h->∀h8,kk .next ⟨ρ7 ns x h (.list (zs l))++[(8,.dat (.list (zs h8)))],[],hl P g K E2 {L with ids:=List.range rest.length}⟩):
  (af P (n+6) m83A).b (.top,[]) ⟨ρ7 ns x h (.list (zs l)),[],hl P g K E L⟩ kk:=by
 have cb:=Ci F C
 have fl:(ip lv).length<=1000:=ja s.fl (ja hm (by decide))
 refine(l78 (P:=P) (n:=n+4) s.fct.1 s.fct.2 (λf q=>⟨(F f q).1,(F f q).2.1⟩) fl cb.1).elim λh8 H8=> ?_
 refine b7 (H8.2 g K E) rt ?_
 have T:=l76' (P:=P) (n:=n+5) (b':=hl P g K E L) H8.1.I.len
 rw [cb.2.1 h8 H8.1] at T
 refine b7 T rt ?_
 have ll:(L.ids.map λi=>AV.obj (.lvl i)).length=rest.length+1:=(jb _).trans ((cGx wj s.ids).trans (qx.trans (cGx wj e)))
 have lb6:(L.ids.map λi=>AV.obj (.lvl i)).length<=1000000:=ll▸ja (ja (jd (cGx wj e).symm) s.ln) (ja (jm hm) (by decide))
 refine⟨lb6,?_⟩
 rw [ll]
 by_cases r0:rest=[]
 ·exact b8 (gn (by rw [r0];rfl)) (hq _ _ rfl)
 refine ax (de λz=>r0 (List.length_eq_zero_iff.mp (Nat.succ.inj (Int.ofNat.inj z)))) ?_
 refine(hp_ r0).elim λE2 q=>(q.1 {g with r:=Fy L}).elim λg' w=> ?_
 have w2:=w.2.up (jc (n+6))
 rw [show hp P g' K E2=hl P g' K E2 L from cGx (λr=>hp P {g' with r:=r} K E2) w.1] at w2
 refine b7 w2 rt ?_
 refine⟨lb6,?_⟩
 refine std_q (ids:=List.range rest.length) rfl ?_ rfl ?_
 ·show(L.ids.map _).take ((L.ids.map _).length-1)=_
  rw [ll,s.ids,<-xj,List.take_range,e];exact cGx (λk=>(List.range k).map _) (Nat.min_eq_left (ko _))
 refine(home (P:=P) (K:=K) (e▸s).pop hm q.2.1.fok).elim λh2 H2=> ?_
 refine b7 H2.2.1 rt (b7 H2.2.2 rt ?_)
 have C8:=l8 (P:=P) (n:=n+5) (g:={g' with r:=Fy {L with ids:=List.range rest.length}}) (K:=K) (E:=E2) λl z=>by rw [q.2.1.good.cl] at z;exact(by nomatch z)
 rw [q.2.1.good.cl] at C8
 refine b7 C8 rt ?_
 exact q.2.2 g' h2 H2.1 h8
variable{ns:Obj->Prop}
noncomputable def m83C:M:= .ex (.fn 82 (.cons (.var 1) (.cons (.var 4) (.cons (.var 3) (.nil))))) (.sets [6,7] (.cons (.fn 74 (.cons (.fn 77 (.cons (.var 4) (.nil))) (.nil))) (.cons (.met (.var 3) 8 (.nil)) (.nil))) (.ifs (.cmp .ne (.cmp .isnot (.var 7) (.con .none)) (.fn 76 (.cons (.var 6) (.nil)))) (.ret (.con (.bool false))) (.nil) (.ifs (.cmp .isnot (.var 7) (.con .none)) m83A (.nil) m83B)))
noncomputable abbrev ρ5(ns:Obj->Prop):List (Nat×AV):=[(0,.raw ns),(1,.obj .feed),(2,.obj .bank),(3,.obj .house),(4,.obj .state)]
theorem lap(hB:BK K)(I:LawInv P K lv L.known E)(s:LS m L lv)(hm:m<=100)(hr:∀c,kk (.ret (.dat (.bool true))) c)
  (hq:∀g E L lv ρ',gy [0,1,2,3,4] ρ'=ρ5 ns->LawInv P K lv L.known E->LS (m+1) L lv->kk .next ⟨ρ',[],hl P g K E L⟩):
  (af P (n+8) m83C).b (.top,[]) ⟨ρ5 ns++[(5,iv x)],[],hl P g K E L⟩ kk:=by
 refine(l82 (n:=n) hB I s hm).elim λE' r=>r.elim λL' r=>r.elim λlv' r=>(r.1 g).elim λg' w=> ?_
 have s':=r.2.1
 have F:=r.2.2.1
 have hm':=jm hm
 refine(home (P:=P) (K:=K) s' hm' F).elim λh H=> ?_
 refine b7 w rt (b7 H.2.1 rt (b7 H.2.2 rt ?_))
 refine r.2.2.2.elim (λI'=> ?_) λq=>q.elim λtop q=>q.elim λrest q=>q.elim λl q=> ?_
 ·have C8:=l8 (P:=P) (n:=n+7) (g:={g' with r:=Fy L'}) (K:=K) (E:=E') λl z=>by rw [I'.good.cl] at z;exact(by nomatch z)
  rw [I'.good.cl] at C8
  refine b7 C8 rt ?_
  have T:=l76' (P:=P) (n:=n+7) (b':=hl P g' K E' L') H.1.I.len
  rw [H.1.cons.mpr I'.good.cons] at T
  refine b7 T rt ?_
  exact Hb (n:=n+3) hB I' s' hm' H.1 rfl rfl rfl rfl rfl (hq g' E' L' lv' (ρ7 ns x h .none) rfl I' s')
 ·have cb:=Ci F q.2.2.1
  have C8:=l8 (P:=P) (n:=n+7) (g:={g' with r:=Fy L'}) (K:=K) (E:=E') λl z=>by rw [q.2.1] at z;exact sJx z▸ja (t7 cb.1.1) (by decide)
  rw [q.2.1] at C8
  refine b7 C8 rt ?_
  have T:=l76' (P:=P) (n:=n+7) (b':=hl P g' K E' L') H.1.I.len
  rw [cb.2.2 h H.1] at T
  refine b7 T rt ?_
  refine b_clash (n:=n+2) hB s' hm' F q.1 q.2.2.1 (λa c e=>e▸hr c) λhn=>(q.2.2.2 hn).imp λE2 z=>⟨λg=>(z.1 g).imp λg' w=>⟨w.1,w.2.up (ji _ 2)⟩,z.2,λg h2 H2 h8=> ?_⟩
  have s2:=(q.1▸s').pop
  exact Hb (n:=n+3) hB z.2 s2 hm' H2 rfl rfl rfl rfl rfl (hq _ _ _ _ _ rfl z.2 s2)
variable{t:Int}
noncomputable def m83E:M:= .ret (.ite (.cmp .ne (.sub (.var 4) (.con (.str (S "known")))) (.lst (.nil))) (.cmp .ge (.met (.var 3) 6 (.cons (.sub (.sub (.var 4) (.con (.str (S "terms")))) (.sub (.sub (.var 4) (.con (.str (S "known")))) (.con (.int 0)))) (.nil))) (.con (.int 0))) (.cmp .eq (.met (.var 3) 7 (.nil)) (.lst (.nil))))
theorem b_end(hB:BK K)(I:LawInv P K lv L.known E)(s:LS m L lv)(hr:∀c,kk (.ret (.dat (.bool true))) c):(af P (n+1) m83E).b (.top,[]) ⟨ρ5 ns,[],hl P g K E L⟩ kk:=by
 refine⟨zs L.known,rfl,dw ((jp _ _).mpr ⟨cp,rfl⟩) ?_⟩
 cases e:L.known with
 |cons u kn=>
  have mu:u∈L.known:=e▸ .head _
  have ut:=s.kd.2 u mu
  refine b8 (cGx (!·) ua) ?_
  refine a7 (x:=ao 0 ((zs L.known).map AV.dat)) (a:=iv u) (by rw [e];rfl) ⟨ei (ja s.kd.len (by decide)),?_⟩
  refine a7 (x:=ao u (zs L.terms)) (s.ht.symm▸me ut) ⟨s.ht.symm▸by decide,?_⟩
  refine((I.kn u).mp mu).elim λr hr'=>I.good.li.elim λes W=>(W.val.2 r (W.kn _ _ hr').2).elim λv q=> ?_
  refine b7 (l6 (g:={g with r:=Fy L}) hr' q.1) rt ?_
  have v0:decide (0<=v)=true:=q.2.elim (λz=>by rw [z.1];rfl) λz=>dTx (Int.le_trans (Lc v z.1) (Int.sub_le_self _ (by decide)))
  show kk (.ret (.dat (.bool (decide (0<=v))))) _
  rw [v0];exact hr _
 |nil=>
  refine ax (cGx (!·) (fg rfl)) ?_
  have no:∀t,¬Kn E.root t:=λt q=>by
   have:=(I.kn (t-3)).mpr (by rw [xn];exact q)
   rw [e] at this;exact(by nomatch this)
  have C:=l7 (P:=P) (n:=n) (g:={g with r:=Fy L}) (K:=K) (E:=E) (R:=[]) (λks _ h=> ?_) λt q=>(no t ⟨t,q⟩).elim
  ·refine b7 C rt ?_
   refine dw rfl ?_
   show kk (.ret (.dat (.bool (Cc (.list []) (.list []))))) _
   rw [fg rfl];exact hr _
  ·cases ks with
   |nil=>exact⟨⟨(λl m=>(by nomatch m)),qt⟩,List.mergeSort_nil,jo _⟩
   |cons t ks=>exact(no t ((h t).mp (.head _))).elim
theorem laps(hB:BK K)(hr:∀c,kk (.ret (.dat (.bool true))) c):∀{N m:Nat} {g:Aside} {E:Eng} {L:Lw} {lv:List (List az)} {ρ':List (Nat×AV)},m+N<=101->gy [0,1,2,3,4] ρ'=ρ5 ns->LawInv P K lv L.known E->LS m L lv->
  (∀g E L lv,LawInv P K lv L.known E->LS (m+N) L lv->kk .next ⟨ρ5 ns,[],hl P g K E L⟩)->lp ((af P (n+8) m83C).b (.top,[])) (mj true [5]) (IC.keep [0,1,2,3,4]) kk ((List.range' m N).map λ(i:Nat)=>iv i) ⟨ρ',[],hl P g K E L⟩:=by
 intro N
 induction N with
 |zero=>
  intro m g E L lv ρ' _ hk I s q
  show kk .next ⟨gy [0,1,2,3,4] ρ',_,_⟩
  rw [hk];exact q _ _ _ _ I s
 |succ N ih=>
  intro m g E L lv ρ' hm hk I s q
  have e:m+(N+1)=m+1+N:=(wg m N).symm
  rw [List.range'_succ,jz]
  show(af P (n+8) m83C).b (.top,[]) ⟨aq (gy [0,1,2,3,4] ρ') 5 (iv m),[],hl P g K E L⟩ _
  rw [hk]
  refine lap hB I s (Nat.le_of_succ_le_succ (ja (ji _ N) (e▸hm))) hr λg E L lv ρ' hk I s=> ?_
  exact ih (e▸hm) hk I s (e▸q)
variable{cs:List Int}{o:AObj}
noncomputable def m83F:M:= .fori false [5] true (.blt .range (.cons (.bin .add (.con (.int 3)) (.fn 72 (.cons (.var 1) (.cons (.con (.int 6)) (.nil))))) (.nil))) m83C [0,1,2,3,4] m83E
theorem b_laps(hB:BK K)(I:LawInv P K lv L.known E)(s:LS 0 L.nx lv)(hr:∀c,kk (.ret (.dat (.bool true))) c)(e:gy [0,1,2,3,4] ρ=ρ5 ns)(h1:ρ.lookup 1=some (.obj .feed))(hk:(ρ.all λp=>kpU .st p.2)=true):(af P (n+8) m83F).b (.top,[]) ⟨ρ,[],hl P g K E L⟩ kk:=by
 refine a7 h1 ?_
 refine(t9 (c:=L.cells) (i:=L.spot) (N:=6) (by decide)).elim λk q=> ?_
 refine b7 (l72e (n:=n+7) (L:=L) (x:=k) (by decide) (ja (qg s.sp) (by decide)) (ja s.ce (by decide)) q.2) ((jp _ _).mpr ⟨(jp _ _).mpr ⟨rfl,hk⟩,rfl⟩) ?_
 have hk:k<=5:=xz q.1
 refine⟨⟨?_,?_⟩,?_⟩
 ·exact wz (3+k)
 ·exact Int.ofNat_le.mpr (ja (jv hk 3) (by decide:3+5<=1000000))
 show lp _ _ _ _ (rngL (3+k)) _
 rw [show rngL (3+k)=(List.range' 0 (3+k)).map λ(i:Nat)=>iv i from by rw [<-List.range_eq_range'];rfl]
 refine laps (n:=n) (kk:=th (λc2=>(af P (n+8) m83E).b (.top,[]) c2 kk) kk) (L:=L.nx) hB hr (N:=3+k) (m:=0) (ja (jd (qn _)) (ja (jv hk 3) (by decide))) e I s λg E L lv I s=> ?_
 exact b_end hB I s hr
noncomputable def L0(cs:List Int):Lw:=⟨cs.take 44,0,[0],λi=>if i=0 then some [] else none,[],TT⟩
noncomputable def h0(cs:List Int):Tg->Option AObj:=up (λ_=>none) .feed (Cu (cs.take 44) 0)
noncomputable def h1(P:Prg)(cs:List Int):Tg->Option AObj:=t4 (A0 K2) P.B (vq K2) (up (h0 cs) .bank (.inst P.B []))
noncomputable def h2(P:Prg)(cs:List Int):Aside:=asd (up (h1 P cs) .house (.inst P.C []))
theorem e_start:up (up (up (up (hp P (h2 P cs) KZ E) (.lvl 0) (.list true [])) .levels (.list true [.obj (.lvl 0)])) .known (.list true [])) .state (.dictS (bt (λ_=>none) [(S "terms",.dat (.list (zs TT))),(S "levels",.obj .levels),(S "known",.obj .known)]))=hl P (h2 P cs) KZ E (L0 cs):=funext λτ=>by
 cases τ with
 |ls k t=>cases k<;>rfl
 |dct k=>cases k<;>rfl
 |lvl k=>cases k<;>rfl
 |_=>rfl
noncomputable def m83G:M:= .set 4 (.own (.state) (.dS (.pr (.con (.str (S "terms"))) (.fn 73 (.cons (.var 2) (.nil))) (.pr (.con (.str (S "levels"))) (.own (.levels) (.lst (.cons (.own (.lvl 0) (.lst (.nil))) (.nil)))) (.pr (.con (.str (S "known"))) (.own (.known) (.lst (.nil))) (.nil)))))) m83F
theorem ls0:LS 0 (L0 cs).nx [[]]:=⟨rfl,⟨rfl,trivial⟩,⟨qt,λ_ m=>(by nomatch m)⟩,rfl,List.length_take_le _ _,jc 1,jc 1,jc 0⟩
theorem b_start(hr:∀c,kk (.ret (.dat (.bool true))) c):(af P (n+9) m83G).b (.top,[]) ⟨[(0,.raw ns),(2,.obj .bank),(1,.obj .feed),(3,.obj .house)],[],hp P (h2 P cs) K2 Eng.nul⟩ kk:=by
 refine b7 (l73 (n:=n+6) (g:=h2 P cs) (E:=Eng.nul)) rt ?_
 refine⟨dp,(λoh e=>(by nomatch e)),a8 (σ':=up (hp P (h2 P cs) KZ Eng.nul) (.lvl 0) (.list true [])) rfl ?_⟩
 refine⟨(λv m=>jg.mp m▸rfl),(λoh e=>(by nomatch e)),a8 (σ':=up (up (hp P (h2 P cs) KZ Eng.nul) (.lvl 0) (.list true [])) .levels (.list true [.obj (.lvl 0)])) rfl ?_⟩
 refine⟨dp,(λoh e=>(by nomatch e)),a8 (σ':=up (up (up (hp P (h2 P cs) KZ Eng.nul) (.lvl 0) (.list true [])) .levels (.list true [.obj (.lvl 0)])) .known (.list true [])) rfl ?_⟩
 refine⟨(λx v e=>(cy e).elim (λe=>e▸rfl) λe=>(cy e).elim (λe=>e▸rfl) λe=>(cy e).elim (λe=>e▸trivial) λe=>(by nomatch e)),a8 e_start ?_⟩
 exact b_laps (n:=n+1) (ns:=ns) bkKZ lawInv0 ls0 hr rfl rfl rfl
theorem ue{U:Tg->Prop}{s:Nat}:(Cu c s).keeps U:=λx v e=>(cy e).elim (λe=>e▸trivial) λe=>(cy e).elim (λe=>e▸trivial) λe=>(by nomatch e)
theorem h0_keeps{U:Tg->Prop}{τ:Tg}(e:h0 cs τ=some o):o.keeps U:=by
 by_cases q:τ= .feed
 ·rw [q] at e;exact sJx e▸ue
 ·exact nomatch (bc q).symm.trans e
theorem ls_keeps{U:Tg->Prop}(e:ls ds=some o):o.keeps U:=sJx e▸λ_ m=>(jf.mp m).elim λ_ e=>e.2▸trivial
theorem bk_keeps{U:Tg->Prop}(e:vq K2 k=some o):o.keeps U:=by
 rcases k with _|_|_|_|_|_|_|_|_|_|k
 case succ.succ.succ.succ.succ.succ.succ.succ.succ.zero=>
  exact sJx e▸λx v e=>(cy e).elim (λe=>e▸trivial) λe=>(cy e).elim (λe=>e▸trivial) λe=>(by nomatch e)
 case succ.succ.succ.succ.succ.succ.succ.succ.succ.succ=>exact(by nomatch e)
 all_goals exact ls_keeps e
theorem h1_keeps{τ:Tg}(n:τ≠ .house)(e:h1 P cs τ=some o):o.keeps (·≠ .house):=by
 cases τ with
 |bank=>exact sJx e▸λp m=>ed (qf.mp (rfl:(A0 K2).all (λp=>nt .house p.2)=true) p m)
 |bk k=>exact bk_keeps e
 |feed=>exact sJx e▸ue
 |ls k t=>cases k<;>exact(aj e rfl).elim
 |dct k=>cases k<;>exact(aj e rfl).elim
 |_=>exact(aj e rfl).elim
theorem l83(hz:cs.length<=1000)(hr:∀c,kk (.ret (.dat (.bool true))) c):(af P (n+9) m83).b (.top,[]) ⟨[(0,.raw (Cf cs))],[],λ_=>none⟩ kk:=by
 refine⟨cs,rfl,ac (ja hz (by decide)),?_⟩
 refine⟨ja (List.length_take_le _ _) (by decide),?_⟩
 refine⟨(λx v e=>(cy e).elim (λe=>e▸trivial) λe=>(cy e).elim (λe=>e▸trivial) λe=>(by nomatch e)),a8 (σ':=h0 cs) ?_ ?_⟩
 ·unfold h0 Cu zs
  rw [<-xj];rfl
 refine⟨n+8,rfl,.ini,_,l43 (n:=n+6) (b:=up (h0 cs) .bank (.inst P.B [])) rfl (λj=>rfl),(λτ o h e=>h0_keeps e),dw rfl ?_⟩
 refine⟨n+8,rfl,.ini,_,l0 (n:=n+7) (K:=K2) (b:=up (h1 P cs) .house (.inst P.C [])) rfl ⟨rfl,λk=>rfl⟩ (λk=>rfl),(λτ o h e=>h1_keeps h e),dw rfl ?_⟩
 exact b_start hr
end
section
variable{W:Wd}{ns:List Int}{vs:List Value}
theorem no_cell{x:Str}{l:List (Str×NameKind)}(h:(l.all λy=>y.2 != .cell)=true):l.lookup x≠some .cell:=by
 induction l with
 |nil=>exactλe=>(by nomatch e)
 |cons y l ih=>
  have h:=a9 h
  intro e
  rw [kf] at e
  split at e
  ·have h1:(y.2 != .cell)=true:=h.1
   rw [sJx e] at h1
   exact absurd h1 (by decide)
  ·exact ih h.2 e
noncomputable def lawD(nm:Str)(cd:Value)(fa L:Nat):FD:=⟨callerA.deeper (envOf nm (pg.sc 83) L fa cd),envOf nm (pg.sc 83) L fa cd,[L],by kernel_rfl⟩
theorem lawD_ok{P:Prg}{nm:Str}{cd:Value}{fa L:Nat}:FS ((lawD nm cd fa L).f P 9):=
 ⟨(lawD nm cd fa L).k,rfl,rfl,rfl,(by show 1+claimMargin+1+2*9<900;decide),(by show 4+3+20*9<9000;decide),(λx y c e=>(by nomatch e)),(λx c e=>(by nomatch e)),.head _,λa ha=> .inl (jg.mp ha),(λ_ x c e=>(by nomatch e)),λx e=>absurd e (no_cell (l:=(pg.sc 83).names) (by kernel_rfl))⟩
theorem law_go(k:KF W.K){L fa l:Nat}{m:Str->Option Value}{cd:Value}{nm:Str}{Q:Flow->Shared->Prop}{E:Value->Shared->Prop}{s:Shared}{B:List Stmt}(hB:B=pg.body 83)(Fr0:Fr W.b L s.heap m)(hm:m (S "script")=some (.ref l))(hl:W.b.IsList l vs.toArray)(hi:IntsAre vs ns)(hz:ns.length<=1000)
  (q:∀s',SS s s'->(∃m',Fr W.b L s'.heap m')->Q (.ret (.bool true)) s'):wpAny (Mk W) (callerA.deeper (envOf nm (pg.sc 83) L fa cd)) (execs B (envOf nm (pg.sc 83) L fa cd)) Q E s:=by
 obtain⟨ol,ho,hc,n,hd⟩:=id hl
 have hPL:W.b.get? L=none:=qp.mpr λo e=>qr.mpr Fr0.above (Heap.lt_size e)
 have c1:=a9 (a9 (a9 (a9 c83).1).1).1
 have hs:∀τ o,(g7 [] λ_=>none) τ=some o->False:=λτ o e=>by
  cases q:τ.ti with
  |none=>rw [d3 q] at e;cases e
  |some _=>rw [ly q] at e;cases e
 have hk:(pg.sc 83).names.lookup (S "script")=some .local:=by kernel_rfl
 refine((ok (P:=prg W k) (n:=9) (vok_of (oDx c1.1) c1.2) m83).b (.top,[]) ⟨[(0,.raw (Cf ns))],[],λ_=>none⟩ _ (l83 (n:=0) (kk:=λfl _=>fl= .ret (.dat (.bool true))) hz λc=>rfl) λτ o e=>(hs τ o e).elim).casesOn λfl c' X i1 e1=> ?_
 rw [e1] at X
 have look:∀x v,List.lookup x (te n83 [(0,.raw (Cf ns))])=some v->x=S "script"/\v= .raw (Cf ns):=λx v e=>by
  have e:List.lookup x [(S "script",AV.raw (Cf ns))]=some v:=e
  rw [kf] at e
  split at e
  ·rename_i g;exact⟨beq_iff_eq.mp g,(sJx e).symm⟩
  ·cases e
 have St:ST ((lawD nm cd fa L).f (prg W k) 9) (IC.cx n83 ⟨[(0,.raw (Cf ns))],[],λ_=>none⟩) ⟨W.b.get?,λ_=>none,λ_=>none,λ_=>0,λ_=>none⟩ s.heap:=
  ⟨⟨λa o e=>e,λa o e=>e.elim (Fr0.keep a o) (nomatch ·),(λa τ o e=>(by nomatch e)),(λa τ o e=>(by nomatch e)),(λa o e=>(by nomatch e)),λτ o e=>(hs τ o e).elim,λτ o a e=>(hs τ o e).elim,λτ o a e=>(hs τ o e).elim,(λa τ e=>(by nomatch e))⟩,
   lawD_ok,⟨m,Fr0.ns,λx v e _=>by
    obtain⟨rfl,rfl⟩:=look x v e
    exact⟨_,hm,l,ol,rfl,ho,hc,_,n,hd,hi⟩⟩,λx v e z=>by
    rw [(look x v e).1] at z
    exact z.elim (λz=>by cases hk.symm.trans z) (λz=>by cases hk.symm.trans z),(λx c e=>(by nomatch e)),λa ha=>by
    rw [jg.mp ha]
    exact Gh.has_not ⟨rfl,hPL,rfl,rfl⟩,(λx c e=>(by nomatch e))⟩
 refine wM (X (lawD nm cd fa L) rfl B (hB▸(a9 c83).2) _ s St) (λf s' r=> ?_) λ_ _ z=>z.elim
 obtain⟨G',_,S',⟨v,e,rv⟩,ss⟩:=r
 rw [e,show v= .bool true from rv]
 exact q s' ss (S'.fr.ns.imp λm' z=>⟨z.1,λb o e=>S'.sr.prot _ _ (.inl (S'.sr.base _ _ e)),Fr0.above⟩)
end
end Mine.Internal
namespace Mine.Internal.head
def tw10004968210546728623:=True
def tw10046488721125158466:=True
def tw10064413085623696276:=True
def tw1012307322726500892:=True
def tw10144926432722608811:=True
def tw10165431968968751118:=True
def tw10178686243629489081:=True
def tw10196448298402465541:=True
def tw10209039374229592208:=True
def tw10218059707884530613:=True
def tw102436769383368030:=True
def tw10245341562508545917:=True
def tw1026916259146773914:=True
def tw10288341847844054694:=True
def tw10289556748277466078:=True
def tw10310981372384372519:=True
def tw10313022789138511893:=True
def tw10323350097857441997:=True
def tw10326433227229921549:=True
def tw10333269780963272991:=True
def tw10338859181450622609:=True
def tw10343487397458017819:=True
def tw10390551338457105969:=True
def tw10403513753302479130:=True
def tw104248997913267698:=True
def tw10440470256551273718:=True
def tw10441500689708926378:=True
def tw10465892010561581982:=True
def tw10467852365440921670:=True
def tw10478411361968804352:=True
def tw10483051397799219287:=True
def tw10532295789626618253:=True
def tw10543712386442291379:=True
def tw10574963512794415595:=True
def tw1059163318146682468:=True
def tw10611000914816789194:=True
def tw10657940773215961958:=True
def tw10677006617423633188:=True
def tw10696463899954577153:=True
def tw10703926824214995897:=True
def tw10714201629055478824:=True
def tw10742104010770387711:=True
def tw10743851739164386354:=True
def tw10749026946326621215:=True
def tw10771887539982464465:=True
def tw10778376083544448290:=True
def tw10781547089232763873:=True
def tw10786028702629105334:=True
def tw10793811875839641842:=True
def tw10805854467555709794:=True
def tw10806634533459545381:=True
def tw1081918594029998349:=True
def tw10827897679061541192:=True
def tw10829295815040425643:=True
def tw10835457729697442157:=True
def tw10845594368882550940:=True
def tw10875764276356024609:=True
def tw10885930716135163624:=True
def tw10910662148547809146:=True
def tw10918473249476564785:=True
def tw10919377325588878479:=True
def tw10936523832443784857:=True
def tw1094486055635779632:=True
def tw10982946209367121509:=True
def tw11032554134783566749:=True
def tw11046677887984482611:=True
def tw1108876809500496841:=True
def tw11148025639844457423:=True
def tw11164902317844157328:=True
def tw11175660098989979826:=True
def tw11232978470920408358:=True
def tw1125208917562807246:=True
def tw11278131861169923487:=True
def tw11287203536343631484:=True
def tw11309609833603199455:=True
def tw11312444847361870107:=True
def tw11333961214768286601:=True
def tw11377860342115682839:=True
def tw11409394182237674072:=True
def tw11414849079480288724:=True
def tw11485815400417367690:=True
def tw11498089366116190899:=True
def tw11509219436781461689:=True
def tw11532515657967676718:=True
def tw11542963386671024406:=True
def tw1154745801677483937:=True
def tw11566841906782242053:=True
def tw11575903973748849822:=True
def tw11604614444025938197:=True
def tw11654851693395710637:=True
def tw11661065636700889516:=True
def tw11679397435755134892:=True
def tw11680863635135381657:=True
def tw11706630770760164152:=True
def tw11709681379492831003:=True
def tw11729432960898958820:=True
def tw11734387023926553616:=True
def tw11735541712165610263:=True
def tw11743441244443810487:=True
def tw11798683024389638473:=True
def tw11811601694450153820:=True
def tw11860589723203421292:=True
def tw11929757218136065980:=True
def tw11931392740866613471:=True
def tw11947121389895320567:=True
def tw11964108435493509918:=True
def tw11966087129274986415:=True
def tw11982184262622975068:=True
def tw12042323147584365760:=True
def tw12049423146163859425:=True
def tw12071836986092510387:=True
def tw12075202227317634358:=True
def tw12078229439370049644:=True
def tw12097889611720191176:=True
def tw12102787196800394369:=True
def tw12125221754952656040:=True
def tw12142385515706650059:=True
def tw12169433661247332737:=True
def tw12203473416507285816:=True
def tw1221140237713410010:=True
def tw12228158594811739220:=True
def tw12229761515936767099:=True
def tw12268107022977922378:=True
def tw12278463079101488128:=True
def tw12303835990030654623:=True
def tw12304027531897825301:=True
def tw12306518083596781285:=True
def tw12314344313618072767:=True
def tw12322725726572001430:=True
def tw12328297505516256082:=True
def tw12349259055231604262:=True
def tw12400829552769024433:=True
def tw12455520345694358024:=True
def tw1247117338844145269:=True
def tw1247440197491546652:=True
def tw12490366024630467340:=True
def tw12533188119829535936:=True
def tw12534521552944749137:=True
def tw12566224135570047525:=True
def tw12583066597068699183:=True
def tw1258453716306658304:=True
def tw12584948273278941721:=True
def tw12604432008983877658:=True
def tw12619512236032086282:=True
def tw12621192663148488146:=True
def tw12639482037638911433:=True
def tw12648024291328057292:=True
def tw12708123234126680708:=True
def tw12708590966113040610:=True
def tw12742234505937585760:=True
def tw12757151084355026914:=True
def tw1278451321631604521:=True
def tw12813849968160126556:=True
def tw12824015591217091490:=True
def tw12833563696867029993:=True
def tw12876724109531853304:=True
def tw12881004197342179623:=True
def tw12887062192404025258:=True
def tw12905125323518435587:=True
def tw12906616878968439657:=True
def tw12962800675557643984:=True
def tw12969973581304291635:=True
def tw12992531038351979029:=True
def tw13007202087462836646:=True
def tw13038121054318420537:=True
def tw13052173369479026832:=True
def tw13074133843078740547:=True
def tw13105012303010250491:=True
def tw13109634056560066191:=True
def tw13111057102255539402:=True
def tw13141228108489976410:=True
def tw13148544108415269593:=True
def tw13149666652136121732:=True
def tw1317351591387112958:=True
def tw13221240968849860500:=True
def tw13231323889132105171:=True
def tw1323558778686592361:=True
def tw13251416305544386811:=True
def tw13252064799419665012:=True
def tw13257972016065767947:=True
def tw13272653632137012334:=True
def tw1328941141683245047:=True
def tw13311012694725994139:=True
def tw13312725732919641165:=True
def tw13388910588309091474:=True
def tw13398390100420220105:=True
def tw13401292336569751603:=True
def tw13430421801755068649:=True
def tw13433233657428206792:=True
def tw13436008565774967011:=True
def tw13446957514743792861:=True
def tw13456512384384106229:=True
def tw13486987100687975238:=True
def tw13503784445409987810:=True
def tw13537632495512367073:=True
def tw13565100068041680847:=True
def tw13565670087438899335:=True
def tw1358449597577685809:=True
def tw13589924676094017053:=True
def tw13647467613375884496:=True
def tw1373012823760850595:=True
def tw13752030441720751821:=True
def tw13763259863565942290:=True
def tw13790758832561892277:=True
def tw13812406104552094168:=True
def tw13825956281807410768:=True
def tw13839247677454372258:=True
def tw13851134797264264420:=True
def tw13854868483263387329:=True
def tw13864285028588155430:=True
def tw13864736982000498215:=True
def tw13882234696957952739:=True
def tw13896250499497688330:=True
def tw13912586304887420795:=True
def tw13938314743558959367:=True
def tw14082094871413604490:=True
def tw14086282813714110018:=True
def tw14109380674944687050:=True
def tw1411274099146372379:=True
def tw14158428439919870864:=True
def tw14172424672946166034:=True
def tw14202255950262162344:=True
def tw14228115194959108029:=True
def tw14231805517815195468:=True
def tw14250243553150720892:=True
def tw14255320843353542408:=True
def tw14294982102292943780:=True
def tw14363887742018839356:=True
def tw14367920226926963119:=True
def tw14375063571132334751:=True
def tw14397015532696111410:=True
def tw14401466065109191019:=True
def tw14405755211371057577:=True
def tw14417383327440295455:=True
def tw1442861384686113144:=True
def tw14431188939852883394:=True
def tw14477604489051941744:=True
def tw14493282511541016206:=True
def tw14504264663935038925:=True
def tw14506496976691018925:=True
def tw1453673589703148230:=True
def tw14549435271706706224:=True
def tw14558566372639728533:=True
def tw14564241988698318373:=True
def tw14566449394318177135:=True
def tw14582795887350676893:=True
def tw14594217352909989919:=True
def tw14594469244564773350:=True
def tw14615677475450882168:=True
def tw14633424208812532277:=True
def tw14640619569106899106:=True
def tw1466144664807686202:=True
def tw14668652841965053954:=True
def tw14686138366110421397:=True
def tw14686663619095853031:=True
def tw14704451711062366978:=True
def tw14716760239956993399:=True
def tw14776828949437865282:=True
def tw14804807535031770434:=True
def tw14809388494844252968:=True
def tw14813904526722990485:=True
def tw1485951079949661044:=True
def tw14901954603512784952:=True
def tw14902749303576689216:=True
def tw14902837588030647693:=True
def tw14907395632340382734:=True
def tw14912406250155844462:=True
def tw14929068417886092385:=True
def tw14930278808943442820:=True
def tw14939700357920408252:=True
def tw14946424000415424946:=True
def tw14947980960965689406:=True
def tw14988240910421226704:=True
def tw15063069900258622093:=True
def tw1506493122784522776:=True
def tw15075481993605988605:=True
def tw150979079722049991:=True
def tw15099370444278567809:=True
def tw15106323820558608180:=True
def tw1511891059713779943:=True
def tw15128749181546931122:=True
def tw15138065235074995841:=True
def tw1515345725807219654:=True
def tw15161549903426448246:=True
def tw15182858166330841093:=True
def tw15185695549473199070:=True
def tw15201846218156111944:=True
def tw15202921462499427706:=True
def tw15225103352731655138:=True
def tw15228381388097102857:=True
def tw15266530685898783443:=True
def tw15279990767845995955:=True
def tw15311939220964185106:=True
def tw15318860832186169591:=True
def tw15329731994807047032:=True
def tw15332405847694572972:=True
def tw15359864109289789:=True
def tw15363273018220560083:=True
def tw15368349496343960223:=True
def tw15369050550832876565:=True
def tw15370769205218274421:=True
def tw15413299265640824211:=True
def tw15418431880819366655:=True
def tw15419450125499025513:=True
def tw15450062323825198675:=True
def tw15455170188983691658:=True
def tw15457526710863194040:=True
def tw15472401753886037627:=True
def tw1547330158025341957:=True
def tw15489742176703056555:=True
def tw1550954271274045814:=True
def tw15517624276369520:=True
def tw15520181941019334340:=True
def tw15527012874900490798:=True
def tw15553797352527871753:=True
def tw15554606659924641141:=True
def tw15572949344126905646:=True
def tw15631718473216897701:=True
def tw15647054619291945445:=True
def tw15650233195626454259:=True
def tw15654466625531938742:=True
def tw1567440863127649582:=True
def tw1567943673962162336:=True
def tw1568912342305137357:=True
def tw15738198401836456268:=True
def tw15785167706613062101:=True
def tw15792559764004085117:=True
def tw15830968035239220771:=True
def tw15880288827581452567:=True
def tw15893317856969978209:=True
def tw15901977628048607438:=True
def tw15911472369724303455:=True
def tw15912091044079083978:=True
def tw15925507543600243961:=True
def tw15929665536996360311:=True
def tw15938720242040571570:=True
def tw15949383635835789312:=True
def tw15974479345488772459:=True
def tw15987298236799223137:=True
def tw15991991953990720742:=True
def tw15996938239223969416:=True
def tw15997579793656432842:=True
def tw16002366332284682119:=True
def tw16030568412080735523:=True
def tw16055707317498819497:=True
def tw16068889945890959238:=True
def tw16102659116359997740:=True
def tw16138420628824636225:=True
def tw16149152401294737200:=True
def tw16170722059020510766:=True
def tw16256651097423524758:=True
def tw16293861684877478311:=True
def tw16297892007826214052:=True
def tw16299635379590263345:=True
def tw16358555599909018182:=True
def tw16361214446219043315:=True
def tw16392708975658356464:=True
def tw16415695218750827382:=True
def tw16460313092685165067:=True
def tw16470738274083341248:=True
def tw16503587982116582554:=True
def tw16531991790674821415:=True
def tw16551592612956221458:=True
def tw16554526779789546084:=True
def tw1656181690755500009:=True
def tw16581240675931604764:=True
def tw16598778423583430539:=True
def tw16623005101582439649:=True
def tw1662621770911083758:=True
def tw16638095363847938142:=True
def tw16692537232037948051:=True
def tw16728021840846876412:=True
def tw16729595403625350564:=True
def tw16735458998607260250:=True
def tw16777521522860482247:=True
def tw16797182098154794100:=True
def tw16840755293988039984:=True
def tw16854100568098985125:=True
def tw16880951475479886921:=True
def tw1688876610941822724:=True
def tw16926460743057495162:=True
def tw16936995887192446143:=True
def tw16951711990063688785:=True
def tw16979452091659690644:=True
def tw17013429710562117009:=True
def tw1705665465591260045:=True
def tw17097786386387354645:=True
def tw17100331334522449688:=True
def tw17132605601930520564:=True
def tw17139050826911359295:=True
def tw17143094881623060519:=True
def tw17150324978993449234:=True
def tw17155148735901461053:=True
def tw17165501156494301525:=True
def tw17201647169419101183:=True
def tw17237208602118822938:=True
def tw17263427690546889705:=True
def tw17292970962960149322:=True
def tw17297219793221002926:=True
def tw17333868739752232385:=True
def tw1735712362863950725:=True
def tw1737130595558553925:=True
def tw17391939332154934924:=True
def tw17393854343980579928:=True
def tw17407171449609617371:=True
def tw17421213231281661734:=True
def tw17431456679323178533:=True
def tw17455982768175728529:=True
def tw17484823706847619055:=True
def tw17500755431956896192:=True
def tw17506308255386958906:=True
def tw17546743832020271483:=True
def tw17547070963897388926:=True
def tw17567876552396240469:=True
def tw17576387167790452266:=True
def tw17576806870698252327:=True
def tw17589853756644411302:=True
def tw17594429827846230351:=True
def tw17608012506762601549:=True
def tw17613311456908602385:=True
def tw17618437575947658335:=True
def tw17630976985212021252:=True
def tw17644897776439644728:=True
def tw17650822020619547663:=True
def tw1765596292035907629:=True
def tw17682342131244598394:=True
def tw17708814002326905842:=True
def tw17713489380645325301:=True
def tw17743693862729980614:=True
def tw17803472654852465174:=True
def tw17840676843927578194:=True
def tw17841386997120191728:=True
def tw17856491329550843911:=True
def tw17870151092536345100:=True
def tw17879266493245626914:=True
def tw17929221164090874782:=True
def tw17981709744806268:=True
def tw17994589576782617821:=True
def tw18002631600328936663:=True
def tw18027623137396611546:=True
def tw1803827914629316465:=True
def tw18039750520779619118:=True
def tw18071378121363579176:=True
def tw18104016066901283141:=True
def tw18126802804303514045:=True
def tw18129246944988500376:=True
def tw18179354985623308581:=True
def tw18185829208802879769:=True
def tw18218894547561957484:=True
def tw18231679819947193826:=True
def tw18245091190975670729:=True
def tw18255462893550846401:=True
def tw18289451761536356138:=True
def tw18290675023729231418:=True
def tw18308072863541763719:=True
def tw18349109515238182760:=True
def tw18374166688396529900:=True
def tw18405740669185776274:=True
def tw18407380456907040068:=True
def tw1844467570389974658:=True
def tw1865247970343085854:=True
def tw1865986355926888367:=True
def tw1871131430832029716:=True
def tw1881055677477116581:=True
def tw1901947026874951026:=True
def tw1903809553442905389:=True
def tw1926143298797657736:=True
def tw1940695373123240344:=True
def tw1944605091054254097:=True
def tw1977347409374276855:=True
def tw1987557369150731712:=True
def tw1988755030936440388:=True
def tw1998152975310809562:=True
def tw2005824559283308544:=True
def tw2007915535196607075:=True
def tw2011731968932453:=True
def tw2043087103621964997:=True
def tw2043889385310230855:=True
def tw204814726684615984:=True
def tw2064619252918735094:=True
def tw2065884973380166366:=True
def tw2078090517514532923:=True
def tw2080864317826152883:=True
def tw2088969971902092759:=True
def tw2110877475482146926:=True
def tw2118006493534568469:=True
def tw2120349209514560818:=True
def tw2124781625166719259:=True
def tw2131911711366185128:=True
def tw2134257966403761398:=True
def tw215088660058033229:=True
def tw2169281033359032037:=True
def tw2211164086160396607:=True
def tw2300749246909507682:=True
def tw2323926309532271586:=True
def tw2336261679802283833:=True
def tw2369519236851512631:=True
def tw2373247585403660244:=True
def tw2398718288924477558:=True
def tw2422478181749461736:=True
def tw2423416151595942688:=True
def tw2430787486173218795:=True
def tw2431657681545466639:=True
def tw2439738643158869041:=True
def tw2441318031446764311:=True
def tw2453521283205649659:=True
def tw245658227047641187:=True
def tw246766493212783410:=True
def tw2468129496273715989:=True
def tw2469965030768400839:=True
def tw2598828398090235752:=True
def tw2608704221948599230:=True
def tw2611384508635057486:=True
def tw2624494413115057283:=True
def tw265169152525730486:=True
def tw2670417021402637304:=True
def tw2674806861483370198:=True
def tw2684990472390245953:=True
def tw2688960552751689224:=True
def tw2694128037389889325:=True
def tw2714067042623201800:=True
def tw2736538178757748039:=True
def tw2755820643727113742:=True
def tw2760578795835352852:=True
def tw2762088878838790826:=True
def tw2782546592773990476:=True
def tw278581248325843523:=True
def tw2829670097903492755:=True
def tw2841162563835548407:=True
def tw2851065943783126841:=True
def tw28651559375178625:=True
def tw2869377799857603687:=True
def tw2894152552507235424:=True
def tw2918443117542427209:=True
def tw2919749146745499586:=True
def tw2960898139891119717:=True
def tw298335191302580495:=True
def tw2990656774574987593:=True
def tw2993739083611638239:=True
def tw3003217347886287976:=True
def tw3052639238020543699:=True
def tw3077082300529035021:=True
def tw3087972217934253931:=True
def tw3097101300178927752:=True
def tw3111883404516310774:=True
def tw3135906202827797507:=True
def tw3146642883932764321:=True
def tw3154329806151034382:=True
def tw3170996000379527775:=True
def tw3202537428888129816:=True
def tw3241465772588796232:=True
def tw3244887638059355566:=True
def tw3248080294440303433:=True
def tw327085425411541729:=True
def tw3334355388040290027:=True
def tw3343984374828313861:=True
def tw3366343033411239668:=True
def tw3382608214973111774:=True
def tw3398423038984232883:=True
def tw3421387750874743176:=True
def tw3442542328804436530:=True
def tw3515292167392647833:=True
def tw3539023208464144308:=True
def tw3563018587571817148:=True
def tw3563479953845385512:=True
def tw35754638678869335:=True
def tw3600112065676380631:=True
def tw360943114214951545:=True
def tw3635525712308927271:=True
def tw364950591144210386:=True
def tw3664162495101484743:=True
def tw368270107659410887:=True
def tw3706193764460939757:=True
def tw3719757830788971985:=True
def tw3729568987708025634:=True
def tw3735690946278787565:=True
def tw3752576746709973395:=True
def tw3777320951872502428:=True
def tw379154397386507432:=True
def tw3796036621921146727:=True
def tw3803949532724674133:=True
def tw3824990019111102402:=True
def tw384100419241242765:=True
def tw3869182881569682240:=True
def tw3897190675560765510:=True
def tw3905749787061621520:=True
def tw3919622968385735570:=True
def tw3922205187945754679:=True
def tw3941796469025250358:=True
def tw4038296290503734956:=True
def tw4050939481493077499:=True
def tw4060700195381250067:=True
def tw4063569851180352202:=True
def tw4067203111510269444:=True
def tw4116136491773717686:=True
def tw4167199826336633745:=True
def tw4238889034677794361:=True
def tw4240350817474645616:=True
def tw4252894043837469053:=True
def tw4255666144921013795:=True
def tw4274313052582936651:=True
def tw4286042419483694078:=True
def tw4293379382155133889:=True
def tw4308027884169681377:=True
def tw4356994229188071200:=True
def tw4371241328660312010:=True
def tw4380319847576138298:=True
def tw4439044264226220048:=True
def tw4443641541309057203:=True
def tw4463040190649093840:=True
def tw4477118761818678279:=True
def tw4486621872756073951:=True
def tw4500438253849987814:=True
def tw4500565936341979993:=True
def tw4517080872264363356:=True
def tw4522409042203475749:=True
def tw4544289106498852243:=True
def tw4550462689801330482:=True
def tw4567146139349149416:=True
def tw458149121178462182:=True
def tw460493647788064181:=True
def tw4606372426461951411:=True
def tw4657073311724733658:=True
def tw4664621624991227399:=True
def tw4696402877033576756:=True
def tw4698016838820866720:=True
def tw4720382259942339842:=True
def tw4723723271744914184:=True
def tw4736740407286332697:=True
def tw4752274641016097417:=True
def tw4766937966870788380:=True
def tw4773304924162895731:=True
def tw4791830553219477182:=True
def tw4804523201834689056:=True
def tw4811286922782717070:=True
def tw4819178420594143062:=True
def tw4872695887633465018:=True
def tw4903428944905943755:=True
def tw4906231476152928751:=True
def tw4925291594519982632:=True
def tw4928989890952316381:=True
def tw4950721183540625033:=True
def tw4958055551472059035:=True
def tw4973950866089583289:=True
def tw4984333546951434225:=True
def tw4986859925826892238:=True
def tw5012512282137399879:=True
def tw5014626033260886234:=True
def tw5024588561011540511:=True
def tw5056389538755327401:=True
def tw5063786239965550723:=True
def tw5066669096059514188:=True
def tw50896459018227149:=True
def tw5091507448127722942:=True
def tw512018409098999112:=True
def tw514689421400378322:=True
def tw5151289576439492714:=True
def tw5152520497178031707:=True
def tw5155368293660787195:=True
def tw5161104113109860643:=True
def tw5180793443103303352:=True
def tw5190979149539639286:=True
def tw5206473230331900655:=True
def tw5212489079905177048:=True
def tw5212892116570103733:=True
def tw5219666640404862078:=True
def tw5233028440317534579:=True
def tw5281672172050905356:=True
def tw5294638443716959948:=True
def tw5305130906047112220:=True
def tw5317467589269379190:=True
def tw533293232872092415:=True
def tw5333940447847632476:=True
def tw5356129408469544919:=True
def tw5357483711101957424:=True
def tw53577880732208605:=True
def tw5360606905099673783:=True
def tw5367720379555559809:=True
def tw5387168689241914674:=True
def tw5389298798316334207:=True
def tw5394941613023254383:=True
def tw54855423550623310:=True
def tw5495607003866541921:=True
def tw5509060068099777413:=True
def tw5531843404549935594:=True
def tw5537773006019800010:=True
def tw5575261005901118753:=True
def tw5585298417887737123:=True
def tw5619015460091722138:=True
def tw5624202546242894388:=True
def tw562981246559913779:=True
def tw5636203721351222531:=True
def tw565821351612907790:=True
def tw5659527908169790468:=True
def tw5681861815129081166:=True
def tw5685686986798369517:=True
def tw5704201658500131572:=True
def tw573855439382118019:=True
def tw574299539326718891:=True
def tw575952367332253668:=True
def tw5761873415233972741:=True
def tw5763261649813281321:=True
def tw581329805104468181:=True
def tw5822558752609508091:=True
def tw5831084495787454658:=True
def tw5841653695726307987:=True
def tw5853792966756943488:=True
def tw587879504650686322:=True
def tw5888525843779206497:=True
def tw5916877048245317213:=True
def tw5977049746020086556:=True
def tw5987770974067822719:=True
def tw600998845896309522:=True
def tw6015909709239590028:=True
def tw6056312283027283868:=True
def tw6068694611635865590:=True
def tw6106758186589717010:=True
def tw6112729762522461468:=True
def tw6118928204495084398:=True
def tw6131334067915698399:=True
def tw6151381817749291079:=True
def tw6152317046425230877:=True
def tw6157534640335305333:=True
def tw6163553270827759087:=True
def tw6166150500733165240:=True
def tw6176450103178853079:=True
def tw6200549489047768835:=True
def tw6204776756014468711:=True
def tw6220086916755017475:=True
def tw6295136114372876325:=True
def tw6302871324792935842:=True
def tw6306348304699022004:=True
def tw6326262103661479924:=True
def tw6345962803626072704:=True
def tw6360992666864919060:=True
def tw6411576796020146635:=True
def tw6441196650915534850:=True
def tw6486626807529291079:=True
def tw6501993735153680131:=True
def tw6536087584392566282:=True
def tw6556444311515432407:=True
def tw6558063594523118537:=True
def tw660241337831805204:=True
def tw6621614135285147381:=True
def tw6630738010656775419:=True
def tw6683920079252563978:=True
def tw6719656258133677700:=True
def tw672570726121695013:=True
def tw6747066739558179449:=True
def tw6748114179996522941:=True
def tw6750202040354555455:=True
def tw676965902777963080:=True
def tw6786778168509544517:=True
def tw682274491873781752:=True
def tw6823611985272463914:=True
def tw6835922771926613386:=True
def tw6846318180604402755:=True
def tw68791429988877841:=True
def tw6929394149058840621:=True
def tw6942814329375804992:=True
def tw695893946633948039:=True
def tw6962018899104020525:=True
def tw6984558992135690208:=True
def tw6991033499335250837:=True
def tw7002126486309990682:=True
def tw7004043142383214097:=True
def tw70407987180004669:=True
def tw7043688390471808656:=True
def tw7087371699663613359:=True
def tw7143396152686458431:=True
def tw7174902123892306615:=True
def tw7190595422212573131:=True
def tw7193755697066404029:=True
def tw7199030120425877829:=True
def tw7223094090682507471:=True
def tw7258877458190152819:=True
def tw7264651287706605586:=True
def tw727871655853585494:=True
def tw7288914432739094182:=True
def tw7376887436866901289:=True
def tw7398455674930932470:=True
def tw7453933950953202983:=True
def tw7468600366217884352:=True
def tw7487491745404429767:=True
def tw7527910484675740831:=True
def tw7528653340019378867:=True
def tw7549307538722317195:=True
def tw756069217127356742:=True
def tw7561941497841929019:=True
def tw7594393393143898134:=True
def tw7630614333878801388:=True
def tw7631663945417758667:=True
def tw7648735959780661627:=True
def tw7651935194775108272:=True
def tw7653770046041843074:=True
def tw7658535187610471328:=True
def tw7669542570389801355:=True
def tw7685603406797835371:=True
def tw7692529387714484404:=True
def tw7706266995361183031:=True
def tw7717097885034689735:=True
def tw7739960990069688279:=True
def tw7742056743536037903:=True
def tw7800988372487446763:=True
def tw7807750171704021493:=True
def tw7810815386330201434:=True
def tw7828029103933373108:=True
def tw7840641359469246451:=True
def tw7842224052649319562:=True
def tw7871040755861822600:=True
def tw7871400988371781522:=True
def tw7876380749562137144:=True
def tw78849457177150641:=True
def tw7887325764628733692:=True
def tw7914099146338004751:=True
def tw7918417721700312308:=True
def tw7934260813177360937:=True
def tw7950528230231018194:=True
def tw7980799833586399067:=True
def tw8025419442395314943:=True
def tw8035035416736859024:=True
def tw8053394759554831559:=True
def tw8091988528312788240:=True
def tw8122885039181923333:=True
def tw8143839383226190842:=True
def tw8164521253129739317:=True
def tw8173076531526851503:=True
def tw819674490487190345:=True
def tw8230188563286494058:=True
def tw8240196137473303414:=True
def tw8248575341118134407:=True
def tw8273974295544231241:=True
def tw8281194103447150273:=True
def tw8291344588662555915:=True
def tw8294512905778329867:=True
def tw829481414352493308:=True
def tw8300548885825651709:=True
def tw8300570662155676107:=True
def tw8317966185173962836:=True
def tw8321119226527775237:=True
def tw8333125123008790743:=True
def tw8333159287748754907:=True
def tw8341041181660773101:=True
def tw8343031900333054849:=True
def tw8350303324170192991:=True
def tw8352361911407452151:=True
def tw8363271796746967752:=True
def tw8374713163410265017:=True
def tw8376988493439413397:=True
def tw8380034559641552496:=True
def tw8383906017190836089:=True
def tw8397667373497710178:=True
def tw8406964992398057563:=True
def tw8427403130609186562:=True
def tw8457352393125183420:=True
def tw8470793768573589947:=True
def tw8488015001772446612:=True
def tw8491820067614933743:=True
def tw8498120614926182078:=True
def tw8519620345645670909:=True
def tw8564634812336065805:=True
def tw8568197537054905324:=True
def tw863897650399445024:=True
def tw8675860802291742457:=True
def tw8691739093245523341:=True
def tw8702156241834018706:=True
def tw8708866331712903190:=True
def tw8712476970917502265:=True
def tw871252903898582465:=True
def tw8730119747510088245:=True
def tw8740491119249365079:=True
def tw8755073441035686192:=True
def tw8792897344874033733:=True
def tw8794538426755590552:=True
def tw8799397525684243439:=True
def tw8828762066905357110:=True
def tw8833257954214952982:=True
def tw8839027191431993605:=True
def tw885467010654446384:=True
def tw8882645185676685445:=True
def tw8939615490272855926:=True
def tw8957747082342985962:=True
def tw9021974018963436649:=True
def tw9026177583158334158:=True
def tw9033182001766740417:=True
def tw9060807947222167450:=True
def tw9063132295611338571:=True
def tw9066055609438617168:=True
def tw9094184492450977180:=True
def tw9138265704962542843:=True
def tw9149885144370575409:=True
def tw9178964171498209538:=True
def tw9188221901137457004:=True
def tw9194472977650436620:=True
def tw9204440531228079312:=True
def tw9208760602289501594:=True
def tw9216089146854100675:=True
def tw9217025424471583602:=True
def tw9256776686342206158:=True
def tw9258970225585006825:=True
def tw9270267985669984014:=True
def tw9287645345724030290:=True
def tw9326032329367935924:=True
def tw9343841776052470216:=True
def tw9360740354718025040:=True
def tw9372715231738170429:=True
def tw9417891802631395052:=True
def tw9434034715570441583:=True
def tw9438585840210694724:=True
def tw9456725078930572920:=True
def tw946311343286843416:=True
def tw9486179325711558089:=True
def tw9514788811957211624:=True
def tw9537380183471018052:=True
def tw9548861120244870157:=True
def tw9554088087165546030:=True
def tw9562597414353034826:=True
def tw9579116799109589182:=True
def tw9633808310430400454:=True
def tw9634045303191909956:=True
def tw9656145585253418624:=True
def tw9686857981684724386:=True
def tw969033425148315049:=True
def tw9694607215696738205:=True
def tw9705949629460322717:=True
def tw9714301357038778298:=True
def tw9714425267121465612:=True
def tw9738642721323792858:=True
def tw9750375429457580736:=True
def tw9788767914283571400:=True
def tw9790775765945250498:=True
def tw985719481007450075:=True
def tw9878117098344619581:=True
def tw9893352306937984402:=True
def tw994578777664213213:=True
def tw9991829656483592240:=True
def tw9993300197053530983:=True
def tw9995642456277745493:=True
end Mine.Internal.head
open PySem PySem.W PyProof.Rows
set_option Elab.async true
set_option maxHeartbeats 8000000
theorem Mine.Internal.head : PySem.Challenge.rw_nz0156_02.Holds := by
  (w_on; o_law; k_head; (case hw => w_witness2); w_strict (k_go0; (all_goals try k_fold); refine law_go (W := Wd.mk _ _ _ _ _ _ _ _ ‹Frag.In _ _› (topRead_of ‹Top _ _ _ _ _ _›)) ?zkf ?zhB ‹Fr _ _ _ _› ?zhm ‹Heap.IsList _ _ _› ‹IntsAre _ _› ?zhz ?zq; (case zkf => constructor <;> kernel_rfl); (case zhB => kernel_rfl); (case zhm => rfl); (case zhz => (simp at *; omega)); (intro s' hs hF; obtain ⟨m', F'⟩ := hF; obtain ⟨g1, g2, g3⟩ := hs; refine goodW_bool (b := true) F' (g1.trans ‹_›) (raisesW_false ?hn) ?hp g3); (case hn => wrow_none_raised); (case hp => first | rfl | kernel_rfl | (simp; done))))
theorem PySem.Challenge.cw_nz0156_02_holds : PySem.Challenge.rw_nz0156_02.Holds := by
  exact Mine.Internal.head
