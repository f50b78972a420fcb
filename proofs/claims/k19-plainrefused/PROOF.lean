import PyProof.Rows.All
import Wide.All
import OpenK.AllK
import Wide.FinOn
import HandS.ForMost
import HandS.ForExc
import PyProof.EqAt
import PyProof.EqKinds
import PyProof.TupleCall
import PyProof.ReprRoads
import KE.KUnpackStar
import HandS.TupAny
import HandS.Deep
import HandS.Style
import HandS.IsInst
import PyProof.Rows.StrCase
import PyProof.ReprLen
import PyProof.StrLawsRepr
import KE.SortKeyHeap
import HandS.SortKw
import HandS.More
import HandS.ExcInit
import HandS.HeadHook1
import HandS.HeadHook2
import HandS.Head0
import HandS.Head1
import HandS.Head2
import KE.KStateDown
import HandS.Lambda
import KE.KNestM
import HandS.Evl
import PyProof.Rows.SetFrom
import HandS.Strs
import PyProof.DictCompW
import HandS.DictComp
import HandS.Iter
import HandS.MakeKwOnly
import HandS.Small
import PyProof.DictStraight
import HandS.FStr
import HandS.RaiseMore
import HandS.Text
import HandS.Call
import PyProof.StrOps2
import PyProof.FitsStr
import HandS.Defaults
import HandS.ExcIs
import HandS.ExcField
import KE.KIsAll
import KE.KTryMore
import HandS.ExcValue
import HandS.EndOwn
import HandS.NestedK
import KE.GoesMore
import KE.GoesEnum
import HandS.ExcOwn
import HandS.ListItems
import PyProof.DelItemList
import HandS.Flow
import KE.DataCmp
import PyProof.SumWalkG
import PyProof.Rows.SeqMore
import PyProof.Rows.SumAny
import HandS.Conv
import PyProof.DictUpdate
import PyProof.NeKinds
import HandS.Dict
import KE.DataMinKey
import KE.SortData
import KE.GoesComp
import KE.GoesRaise
import KE.KAsSuite
import HandS.Zip
import HandS.TupMul
import KE.DataFind
import PySem.Challenge.RW_counterpost_k19_plain_refused
set_option Elab.async false
set_option linter.all false
set_option maxRecDepth 100000
set_option maxHeartbeats 3999999
theorem qf {P : Prop} (h : P := by decide +kernel) : P := h
theorem qg {P : Prop} (h : P := by decide) : P := h
theorem qh {P : Prop} (h : P := by omega) : P := h
theorem qi {P : Prop} (h : P := by exact ⟨rfl, rfl, rfl, by decide +kernel, rfl, by decide +kernel, by decide +kernel⟩) : P := h
theorem qj {c : Prop} [Decidable c] {α : Type} {a b d : α} (h : b = d) (hc : ¬ c := by decide +kernel) : (if c then a else b) = d := (if_neg hc).trans h
open PySem.W renaming Frag → qk, findIn → ql, subIn → qv, nsIn → qx, mg_of → jd, typeIn → jo, hasDictIn → jr, mg_none_of → ju, isFn → jx, exmOne → zl, keepIn → zt, kitOne → ya
open Option renaming map_eq_some_iff → qm, bind_eq_some_iff → jF, map → Qf
open List renaming mem_cons → qo, mem_singleton → qp, length_map → qq, length_append → qr, length_cons → qs, not_mem_nil → qu, mem_cons_self → qw, mem_cons_of_mem → qy, getElem?_eq_getElem → qz, mem_map → jc, length_nil → jh, mem_append → ji, getElem?_set_self → jj, getElem?_eq_some_iff → jk, getElem?_append_left → jl, getElem?_set_ne → jm, map_cons → jn, length_set → jq, getElem?_map → jt, nil_append → jv, append_nil → jw, all_eq_true → zc, all_cons → ze, map_map → zf, getElem_mem → zg, cons_append → zh, drop_eq_getElem_cons → zi, mem_append_left → zk, getElem?_append_right → zm, map_append → zn, find?_cons → zp, all_append → zq, mem_of_getElem? → zu, nodup_append → zv, take_of_length_le → zw, map_nil → zx, length_take → zy, mem_or_eq_of_mem_set → yd, append_assoc → ye, getElem_of_mem → yg, length_drop → yh, drop_length → yi, mem_append_right → ym, size_toArray → yn, flatMap_cons → yo, map_congr_left → yp, filterMap_cons_some → yq, filterMap_cons_none → yr, length → yx, replicate → yz, pairwise_map → Qa, nodup_nil → Qb, all_nil → Qc, getElem?_eq_none → Qe, mem_nil_iff → Qg, lookup_cons → Qh, of_mem_zip → Qk, mem_filter → Ql, filterMap_cons → Qm
open Nat renaming le_trans → jb, zero_le → jf, le_refl → jg, lt_of_le_of_lt → jy, lt_of_lt_of_le → jz, ne_of_lt → zj, lt_or_eq_of_le → yb, zero_add → yj, lt_trans → yy, pow_le_pow_right → Qi, le_of_eq → Qn
open Bool renaming and_true → je, and_eq_true → js, and_false → Qd, and_eq_true_iff → Qj
open PySem.F renaming plainAttrs_list → jp, type_list_append → za, slot_list_append → zb, called_set → zr, type_list_count → yu, slot_list_count → yw
open Int renaming emod_lt_of_pos → yc, le_trans → yf, emod_nonneg → yk
namespace Cp
open PySem PySem.Spec
open PyProof.Rows L2
structure FnG (P:Program) (w:World) (K:qk) (mg:Str->Option Value) (base:Heap) (CX:CXT) (k:Nat) (f:Addr) (fd:FuncData) (ps:List Str) (sp:Sp):Prop where
 arity:∀ {vs:List V} {H:Hp} {Q:VK} {E:XK},sp vs H Q E->vs.length=ps.length
 go:∀ {A:Around} {outer:List Env} {s:Shared} {H:Hp} {args:Args} {us:List Value} {vs:List V} {Q:VK} {E:XK},Room k A->A.guards=some []->Env0 P w K mg base A outer s H ->
  BindsTo s fd args (ps.zip us)->Vals vs us->sp vs H Q E->codeAny (model P w) A (.call (.ref f) args) (λr s'=>CR CX outer P w H s Q E r s') s
section
variable {P:Program} {w:World} {K:qk} {mg:Str->Option Value} {base:Heap} {CX:CXT} {j k:Nat} {f:Addr} {fd:FuncData} {ps:List Str} {sp sp':Sp}
theorem FnG.of (F:FnOk P w K mg base CX k f fd ps sp):FnG P w K mg base CX k f fd ps sp where
 arity:=λq=>F.len _ _ _ _ q
 go:=λroom _=>F.run _ _ _ _ _ _ _ _ _ room
theorem FnG.mono (F:FnG P w K mg base CX j f fd ps sp) (le:j<=k):FnG P w K mg base CX k f fd ps sp where
 arity:=F.arity
 go:=λroom=>F.go (room.mono le)
theorem FnG.imp (F:FnG P w K mg base CX k f fd ps sp) (weaker:∀ vs H Q E,sp' vs H Q E->sp vs H Q E):FnG P w K mg base CX k f fd ps sp' where
 arity:=λq=>F.arity (weaker _ _ _ _ q)
 go:=λroom OS around bound rel q=>F.go room OS around bound rel (weaker _ _ _ _ q)
end
theorem qT {P:Program} {w:World} {K:qk} {mg:Str->Option Value} {base:Heap} {N:List Str} {qual:Str} {sc:Scope} {f:Addr} {cdv:Value} {A:Around} {outer:List Env} {s s':Shared} {H:Hp} {E:XK} {Q:VK} {σ:L2.St} {H':Hp} {v:V} {u:Value}
  (J:Inv (cxOf CX0 P w K mg base N qual sc f cdv A outer s H E) [] σ H' s') (rel:RelV v u) (q:Q v H'):CE outer P w H s Q u s':=by
 refine⟨v,H',?_,?_,?_,?_,rel,q⟩
 ·exact J.os
 ·exact J.bare
 ·exact J.base
 ·exact J.hok
section
variable {X:Cx} {CX:CXT} {k:Nat} {f:Addr} {fd:FuncData} {ps:List Str} {sp:Sp} {dvs:List V} {ds:List Value} {E:XK} {x:Str} {p pos:Pos} {e:Expr} {es:List Expr} {t:TA}
end
theorem fNQ {P:Program} {w:World} {K:qk} {mg mb:Str->Option Value} {s:Shared} {H:Hp} (inK:K.In s.heap) (hmg:s.heap.Ns mainGlobals mg) (hmb:s.heap.Ns builtinsNs mb) (boot:∀ x:Str,x ≠ "__name__"->mb x=bootBuiltins x) (nl:s.heap.NoLimit)
  (gens:s.gens = #[]) (plain:∀ b o es ep,s.heap.get? b=some o->o.data = .dict es ep->H b=none) (free:∀ b o,K.lookup b=some o->H b=none) (hok:HOk P w H s.heap):Env0 P w K mg (hidT s.heap H) callerA [] s H:=by
 have ns:∀ b m,s.heap.Ns b m->(hidT s.heap H).Ns b m:=by
  rintro b m ⟨o,es,ep,there,isd,rest⟩
  exact⟨o,es,ep,hidT_get there (plain b o es ep there isd),isd,rest⟩
 constructor
 ·rfl
 ·constructor
  ·exact λb o known=>hidT_get (inK b o known) (free b o known)
  ·exact ns _ _ hmg
  ·exact⟨mb,ns _ _ hmb,boot⟩
  ·obtain⟨mc,q,r⟩:=nl
   exact⟨mc,ns _ _ q,r⟩
 ·exact λb o there=>of_hidT there
 ·rw[hidT_size]
  exact jg _
 ·trivial
 ·intro b there
  cases there
 ·exact hok
 ·exact .of_eq gens
end Cp
namespace Cp
open PySem PySem.Spec
open PyProof.Rows L2
section
variable {X:Cx}
end
end Cp
namespace Cp
open PySem PySem.Spec
open PyProof.Rows L2
theorem NU {X:Cx} {f:Value->Value->Sem Value} {r r':R2} (h:OpR X f r) (h':OpR X f r'):OpR X f (λx y H Q=>r x y H Q \/ r' x y H Q):=by
 intro pins s σ H x y v u Q inv left right goal
 cases goal with
 | inl goal=>exact h pins s σ H x y v u Q inv left right goal
 | inr goal=>exact h' pins s σ H x y v u Q inv left right goal
def w7S:R2:=λx y H Q=>∃ i j,x = .str i/\y = .str j/\i.length+j.length<=sizeLine/\Q (.str (i++j)) H
def G2 (K:qk):R2:=λx y H Q=>rI0 (λi j=>.int (i+j)) x y H Q \/ w7S x y H Q \/ rCat x y H Q \/ rCatA K x y H Q
theorem VTA {X:Cx}:OpR X (binaryOp .Add) (G2 X.K):=NU op_add (NU (r:=w7S) op_add_str (NU op_cat op_catA))
section
variable {K:qk} {H:Hp} {Q:VK}
theorem oJn {i j:Int} (q:Q (.int (i+j)) H):G2 K (.int i) (.int j) H Q:=.inl ⟨i,j,rfl,rfl,q⟩
theorem fWz {i j:Str} (hz:i.length+j.length<=sizeLine) (q:Q (.str (i++j)) H):G2 K (.str i) (.str j) H Q:=.inr (.inl ⟨i,j,rfl,rfl,hz,q⟩)
theorem ODL {l b:Addr} {xs zs:List V} (h1:H l=some (.lst xs)) (h2:H b=some (.lst zs)) (hz:xs.length+zs.length<=sizeLine) (q:∀ p,H p=none->Q (.ref p) (upd H p (.lst (xs++zs)))):G2 K (.ref l) (.ref b) H Q:=
 .inr (.inr (.inl ⟨l,b,xs,zs,rfl,rfl,h1,h2,hz,q⟩))
end
def gM (K:qk):R2:=λx y H Q=>rEq x y H Q \/ rEqD K x y H Q
def lE (K:qk):R2:=λx y H Q=>rNe x y H Q \/ rNeD K x y H Q
theorem iT6 {X:Cx} (hu:X.A.units+64 < cLine):OpR X (compareOp .Eq) (gM X.K):=NU op_eq (op_eqD hu)
theorem HTW {X:Cx} (hu:X.A.units+64 < cLine):OpR X (compareOp .NotEq) (lE X.K):=NU op_ne (op_neD hu)
section
variable {K:qk} {H:Hp} {Q:VK} {x y:V} {d e:PyData}
theorem NOb (h:scal x y=true) (q:Q (.bl (decide (x=y))) H):gM K x y H Q:=.inl ⟨h,q⟩
theorem oXe (h:scal x y=true) (q:Q (.bl (!decide (x=y))) H):lE K x y H Q:=.inl ⟨h,q⟩
theorem CHh (h1:Dp K H x d) (h2:Dp K H y e) (s1:SeqAt.shaped d=true) (s2:SeqAt.shaped e=true) (q:Q (.bl (PyData.eqv d e)) H):gM K x y H Q:=.inr ⟨d,e,h1,h2,s1,s2,q⟩
theorem CGl (h1:Dp K H x d) (h2:Dp K H y e) (s1:SeqAt.shaped d=true) (s2:SeqAt.shaped e=true) (q:Q (.bl (!PyData.eqv d e)) H):lE K x y H Q:=.inr ⟨d,e,h1,h2,s1,s2,q⟩
end
def x5 (neg:Bool):R2:=λx y H Q=>∃ (c:Nat) (z:Str),x = .str ⟨#[c]⟩/\y = .str z/\Q (.bl (if neg then !decide (c ∈ z.cps.toList) else decide (c ∈ z.cps.toList))) H
def NXp (K:qk):R2:=λx y H Q=>rIn K false x y H Q \/ rInD K x y H Q \/ x5 false x y H Q
def E4 (K:qk):R2:=λx y H Q=>rIn K true x y H Q \/ rNotInD K x y H Q \/ x5 true x y H Q
theorem K14 {X:Cx} (hu:X.A.units+65 < cLine):OpR X (compareOp .In) (NXp X.K):=NU op_in_seq (NU (op_inD hu) (r':=x5 false) op_in_sign)
theorem wJ {X:Cx} (hu:X.A.units+65 < cLine):OpR X (compareOp .NotIn) (E4 X.K):=NU op_notIn_seq (NU (op_notInD hu) (r':=x5 true) op_notIn_sign)
section
variable {K:qk} {H:Hp} {Q:VK} {x:V} {p:Addr} {xs:List V}
theorem g4S (h:SqL K H p xs \/ SqT K H p xs) (hx:flatV x=true) (ha:xs.all flatV=true) (q:Q (.bl (inV x xs)) H):NXp K x (.ref p) H Q:=.inl ⟨p,xs,rfl,h,hx,ha,q⟩
theorem ON (h:SqL K H p xs \/ SqT K H p xs) (hx:flatV x=true) (ha:xs.all flatV=true) (q:Q (.bl (!inV x xs)) H):E4 K x (.ref p) H Q:=.inl ⟨p,xs,rfl,h,hx,ha,q⟩
theorem zD2 {c:Nat} {z:Str} (q:Q (.bl (decide (c ∈ z.cps.toList))) H):NXp K (.str ⟨#[c]⟩) (.str z) H Q:=.inr (.inr ⟨c,z,rfl,rfl,q⟩)
theorem yL {c:Nat} {z:Str} (q:Q (.bl (!decide (c ∈ z.cps.toList))) H):E4 K (.str ⟨#[c]⟩) (.str z) H Q:=.inr (.inr ⟨c,z,rfl,rfl,q⟩)
end
section
variable {X:Cx}
def rLen (K:qk):List V->Hp->VK->Prop:=λargs H Q=>∃ x many,args=[x]/\LenV K x H many/\Q (.int many) H
theorem dX:CallR X (.builtin "len") (rLen X.K):=call_len
end
section
variable {K:qk} {H:Hp} {Q:VK} {p:Addr} {xs:List V} {z:Str}
theorem iBd (h:SqL K H p xs) (q:Q (.int xs.length) H):rLen K [.ref p] H Q:=⟨_,_,rfl,.inl ⟨xs,h,rfl⟩,q⟩
theorem vXw (h:SqT K H p xs) (q:Q (.int xs.length) H):rLen K [.ref p] H Q:=⟨_,_,rfl,.inr ⟨xs,h,rfl⟩,q⟩
theorem ORM (hz:z.length<=sizeLine) (q:Q (.int z.length) H):rLen K [.str z] H Q:=⟨_,_,rfl,⟨hz,rfl⟩,q⟩
end
def Frz (FZ:Addr->Prop):HO->Prop
 | .tup _=>True
 | .frz _ _=>True
 | .ins C _ _=>FZ C
 | _=>False
structure Stp (FZ:Addr->Prop) (M:Addr->Prop) (H H':Hp):Prop where
 keep:∀ a o,H a=some o->(Frz FZ o \/ ¬ M a)->H' a=some o
section
variable {FZ M N:Addr->Prop} {H H1 H2 H':Hp} {K:qk} {a p:Addr} {xs:List V} {o:HO}
theorem Stp.refl:Stp FZ M H H:=⟨λ_ _ h _=>h⟩
theorem Stp.trans (s:Stp FZ M H H1) (t:Stp FZ M H1 H2):Stp FZ M H H2:=⟨λa o h n=>t.keep a o (s.keep a o h n) n⟩
theorem Stp.mono (s:Stp FZ M H H1) (h:∀ a,M a->N a):Stp FZ N H H1:=⟨λa o e n=>s.keep a o e (n.imp id λz q=>z (h a q))⟩
theorem Stp.new (h:H p=none):Stp FZ M H (upd H p o):=⟨λa u e _=>by rw[upd_ne (ne_of_none e h)];exact e⟩
theorem Stp.own (s:Stp FZ M H H1) (h:H p=none):Stp FZ M H (upd H1 p o):=⟨λa u e n=>by rw[upd_ne (ne_of_none e h)];exact s.keep a u e n⟩
theorem Stp.set {u:HO} (s:Stp FZ M H H1) (hm:M p) (h:H p=some u) (hn:¬ Frz FZ u):Stp FZ M H (upd H1 p o):=⟨λa v e n=>by
 by_cases hp:a=p
 ·subst hp
  rw[h] at e
  cases e
  rcases n with n|n
  ·exact absurd n hn
  ·exact absurd hm n
 ·rw[upd_ne hp];exact s.keep a v e n⟩
theorem Stp.at (s:Stp FZ M H H1) (h:H a=some o) (hm:¬ M a):H1 a=some o:=s.keep a o h (.inr hm)
theorem Stp.tup (s:Stp FZ M H H1) (h:SqT K H a xs):SqT K H1 a xs:=by
 rcases h with(h|⟨u,h⟩)|h
 ·exact .inl (.inl (s.keep a _ h (.inl trivial)))
 ·exact .inl (.inr ⟨u,s.keep a _ h (.inl trivial)⟩)
 ·exact .inr h
theorem Stp.free (s:Stp FZ M H H1) (h:H1 p=none):H p=none \/ M p:=by
 cases q:H p with
 | none=>exact .inl rfl
 | some u=>
  refine .inr ?_
  by_cases hm:M p
  ·exact hm
  ·rw[s.keep p u q (.inr hm)] at h;cases h
end
mutual
inductive Tp (K:qk) (H:Hp):V->PyData->Prop
 | non:Tp K H .non .none
 | bl (b:Bool):Tp K H (.bl b) (.bool b)
 | int (i:Int):Tp K H (.int i) (.int i)
 | str (x:Str):Tp K H (.str x) (.str x)
 | tup {a:Addr} {xs:List V} {ds:List PyData}:SqT K H a xs->TpAll K H xs ds->Tp K H (.ref a) (.tuple ds)
inductive TpAll (K:qk) (H:Hp):List V->List PyData->Prop
 | nil:TpAll K H [] []
 | cons {v:V} {vs:List V} {d:PyData} {ds:List PyData}:Tp K H v d->TpAll K H vs ds->TpAll K H (v :: vs) (d :: ds)
end
section
variable {FZ M:Addr->Prop} {H H':Hp} {K:qk}
mutual
theorem Tp.mono (s:Stp FZ M H H'):∀ {v:V} {d:PyData},Tp K H v d->Tp K H' v d
 | _,_,.non=>.non
 | _,_,.bl b=>.bl b
 | _,_,.int i=>.int i
 | _,_,.str x=>.str x
 | _,_,.tup h t=>.tup (s.tup h) (TpAll.mono s t)
theorem TpAll.mono (s:Stp FZ M H H'):∀ {vs:List V} {ds:List PyData},TpAll K H vs ds->TpAll K H' vs ds
 | _,_,.nil=>.nil
 | _,_,.cons h t=>.cons (Tp.mono s h) (TpAll.mono s t)
end
theorem TpAll.length:∀ {vs:List V} {ds:List PyData},TpAll K H vs ds->vs.length=ds.length
 | _,_,.nil=>rfl
 | _,_,.cons _ t=>by rw[qs,qs,t.length]
theorem TpAll.get:∀ {vs:List V} {ds:List PyData} {i:Nat} {v:V},TpAll K H vs ds->vs[i]? = some v->∃ d,ds[i]? = some d/\Tp K H v d
 | _,_,_,_,.nil,there=>by simp at there
 | _,_,0,_,.cons h _,e=>by simp at e;subst e;exact⟨_,rfl,h⟩
 | _,_,i+1,v,.cons _ t,e=>by
  obtain⟨d,h1,h2⟩:=TpAll.get (i:=i) (v:=v) t (by simpa using e)
  exact⟨d,by simpa using h1,h2⟩
theorem TpAll.append:∀ {vs ws:List V} {ds es:List PyData},TpAll K H vs ds->TpAll K H ws es->TpAll K H (vs++ws) (ds++es)
 | _,_,_,_,.nil,s=>s
 | _,_,_,_,.cons h t,s=>.cons h (TpAll.append t s)
end
end Cp
namespace Cp
open PySem PySem.Spec
open PyProof.Rows L2
section
variable {σ:L2.St} {H H1:Hp} {Q:VK} {D:Ends} {t u:TS} {te ta tb tv td ty:TE} {tt tu:TT} {g:TG} {gs:TGs} {x y v:V} {vs:List V} {i:Nat} {R:Bool->Hp->Prop} {R':L2.St->Hp->Prop} {QA:List V->Hp->Prop} {tas:TA} {K:qk} {a:Addr}
def NQH:R2:=λx y H Q=>∃ a v,x = .ref a/\DGet H a y (some v)/\Q v H
theorem ARd {sp:Sp} {E:XK} (q:tas σ H λvs H1=>sp vs H1 Q E):tCall sp [] E tas σ H Q:=by
 have e:(λ(vs:List V) H1=>sp (vs++[]) H1 Q E)=λvs H1=>sp vs H1 Q E:=by funext vs H1;rw[jw]
 show tas σ H λvs H1=>sp (vs++[]) H1 Q E
 rw[e]
 exact q
def But (l:Addr) (H H2:Hp):Prop:=∀ a,a ≠ l->H2 a=H a
theorem But.at {l:Addr} {o:HO} (b:But l H H1) (h:H a=some o) (n:a ≠ l):H1 a=some o:=(b a n).trans h
theorem But.stp {FZ M:Addr->Prop} {l:Addr} {u:HO} (b:But l H H1) (h:H l=some u) (hn:¬ Frz FZ u) (hm:M l):Stp FZ M H H1:=⟨λa o e n=>by
 by_cases hl:a=l
 ·subst hl
  rw[h] at e
  cases e
  exact(n.elim hn λz=>z hm).elim
 ·exact b.at e hl⟩
theorem But.tup {l:Addr} {u:HO} {xs:List V} (b:But l H H1) (h:H l=some u) (hn:¬ Frz (λ_=>True) u) (k:SqT K H a xs):SqT K H1 a xs:=(b.stp (FZ:=λ_=>True) (M:=λz=>z=l) h hn rfl).tup k
theorem _root_.L2.Same.stp {FZ M:Addr->Prop} (s:Same H H1):Stp FZ M H H1:=⟨λa o h _=>s a o h⟩
theorem T5 {o:HO} {p:Addr} (hp:H p=none):Same H (upd H p o):=λb u e=>by rw[upd_ne (ne_of_none e hp)];exact e
theorem eF3 {xs:List V} {i:Int} (h:SqL K H a xs) (e:atI xs i=some v) (q:Q v H):rIx K (.ref a) (.int i) H Q:=.inl ⟨a,xs,i,v,rfl,rfl,h,e,q⟩
theorem pGJ {xs:List V} {i:Int} (h:SqT K H a xs) (e:atI xs i=some v) (q:Q v H):rIx K (.ref a) (.int i) H Q:=.inr (.inl ⟨a,xs,i,v,rfl,rfl,h,e,q⟩)
theorem zK2 {z:Str} {i:Int} {c:Nat} (hz:z.length<=sizeLine) (e:atI z.cps.toList i=some c) (q:Q (.str ⟨#[c]⟩) H):rIx K (.str z) (.int i) H Q:=.inr (.inr ⟨z,i,c,rfl,rfl,hz,e,q⟩)
theorem tyL {l:Addr} {xs:List V} (h:H l=some (.lst xs)):tyV K "list" (.ref l) H:=.inl ⟨rfl,_,SqL.of h⟩
end
end Cp
namespace Cp
open PySem PySem.Spec
open PyProof.Rows L2
def bOc (K:qk) (x:V) (H:Hp) (R:It->Hp->Prop):Prop:=∃ a,x = .ref a/\(∃ xs,SqL K H a xs)/\R (Itl K a) H
def t70 (x:V) (H:Hp) (R:It->Hp->Prop):Prop:=∃ z,x = .str z/\R (Its z) H
def O9S (vs:List V) (H:Hp) (R:It->Hp->Prop):Prop:=∃ j:Int,vs=[.int j]/\-(2 ^ 62)<=j/\j < 2 ^ 62/\R (Itr 0 j.toNat) H
def bVK (K:qk) (vs:List V) (H:Hp) (R:It->Hp->Prop):Prop:=∃ a xs,vs=[.ref a]/\SqL K H a xs/\R (Ite K a) H
section
variable {K:qk} {σ:L2.St} {H H1:Hp} {Q:VK} {D:Ends} {R:It->Hp->Prop} {wi:TI} {g:TG} {tt:TT} {te tl:TE} {ta:TA} {vs:List Nat} {tb:TS} {a:Addr} {xs:List V}
theorem gEj (q:tl σ H λx H1=>bOc K x H1 R):iList K tl σ H R:=q
theorem oCn (q:tl σ H λx H1=>t70 x H1 R):iStr tl σ H R:=q
theorem d12 (q:ta σ H λx H1=>O9S x H1 R):iRng1 ta σ H R:=q
theorem DAH (q:ta σ H λx H1=>bVK K x H1 R):iEnum K ta σ H R:=q
theorem itS {z:Str} (q:R (Its z) H):t70 (.str z) H R:=⟨z,rfl,q⟩
theorem itR1 {j:Int} (h : -(2 ^ 62)<=j/\j < 2 ^ 62) (q:R (Itr 0 j.toNat) H):O9S [.int j] H R:=⟨j,rfl,h.1,h.2,q⟩
theorem itE (h:SqL K H a xs) (q:R (Ite K a) H):bVK K [.ref a] H R:=⟨a,xs,rfl,h,q⟩
def OMB (Nx:Hp->Prop) (Dl:Addr) (y:V) (H4:Hp):Prop:=∃ acc,H4 Dl=some (.lst acc)/\acc.length < sizeLine/\Nx (upd H4 Dl (.lst (acc++[y])))
def PZU (p:Addr) (ps:List (V × V)) (H2:Hp) (Q:VK):Prop:=H2 p=some (.dK [])/\∃ kvs:List (Key × V),ps=kvs.map (λkv=>(kV kv.1,kv.2))/\kvs.length<=15/\Q (.ref p) (upd H2 p (.dK (mergeK [] kvs)))
theorem qUv {trs:List (TE × TE)} (q:∀ p H1,H p=none->Same H H1->H1 p=some (.dK [])->tPairs trs σ H1 λps H2=>PZU p ps H2 Q):tDisp trs σ H Q:=λp hp=>q p _ hp (T5 hp) upd_same
theorem kHo {p:Addr} {kvs:List (Key × V)} (h:H p=some (.dK [])) (k:∀ H1,But p H H1->H1 p=some (.dK (mergeK [] kvs))->Q (.ref p) H1) (hl:kvs.length<=15:=by first|decide|exact Nat.le_of_ble_eq_true rfl):PZU p (kvs.map λkv=>(kV kv.1,kv.2)) H Q:=
 ⟨h,kvs,rfl,hl,k _ (λ_ ha=>upd_ne ha) upd_same⟩
end
section
variable {FZ M:Addr->Prop} {H H1:Hp} {K:qk} {a:Addr} {xs:List V}
theorem Stp.lst (s:Stp FZ M H H1) (h:SqL K H a xs) (n:H a=some (.lst xs)->¬ M a):SqL K H1 a xs:=by
 rcases h with(h|⟨u,h⟩)|h
 ·exact .inl (.inl (s.at h (n h)))
 ·exact .inl (.inr ⟨u,s.keep a _ h (.inl trivial)⟩)
 ·exact .inr h
end
end Cp
namespace Cp
open PySem PySem.Spec
open PyProof.Rows L2
structure Asc (n:Nat) (z:Str):Prop where
 len:z.length<=n
 asc:∀ c ∈ z.cps.toList,c < 128
theorem Asc.mono {n m:Nat} {z:Str} (h:Asc n z) (hl:n<=m):Asc m z:=⟨jb h.len hl,h.asc⟩
theorem wV (z:Str):z.length=z.cps.toList.length:=by simp [Str.length]
theorem EI (a b:Str):(a++b).cps.toList=a.cps.toList++b.cps.toList:=by
 show(a.cps++b.cps).toList=_
 rw[Array.toList_append]
theorem Asc.app {n m:Nat} {a b:Str} (h:Asc n a) (k:Asc m b):Asc (n+m) (a++b):=by
 refine⟨?_,λc hc=>?_⟩
 ·have h1:=h.len
  have h2:=k.len
  rw[wV] at h1 h2 ⊢
  rw[EI,qr]
  omega
 ·rw[EI] at hc
  exact(ji.mp hc).elim (h.asc c) (k.asc c)
theorem Asc.cut {n:Nat} {z:Str} {lo hi:Option Int} (h:Asc n z):Asc n (cutS z lo hi):=by
 refine⟨jb (cutS_length z lo hi) h.len,λc hc=>?_⟩
 have hc':c ∈ (z.cps.toList.drop (HT.sIx z.length 0 lo)).take (HT.sIx z.length z.length hi - HT.sIx z.length 0 lo):=by simpa [cutS] using hc
 exact h.asc c (List.mem_of_mem_drop (List.mem_of_mem_take hc'))
section
variable {K:qk} {H:Hp} {Q:VK} {x:V} {T t:String} {b:Bool}
theorem isi (h:TyX K H x (.type t)) (e:ya K (.type t) (.type T)=some b) (q:Q (.bl b) H):rIsi K [x,.ty T] H Q:=⟨x,.ty T,_,_,b,rfl,.ty T,h,e,q⟩
theorem w3z {z:Str}:TyX K H (.str z) (.type "str"):=.base (.str z)
theorem f0Q {i:Int}:TyX K H (.int i) (.type "int"):=.base (.int i)
theorem EFN {c:Bool}:TyX K H (.bl c) (.type "bool"):=.base (.bl c)
theorem NQz:TyX K H .non (.type "NoneType"):=.base .non
theorem NGe {a:Addr} {xs:List V} (h:H a=some (.lst xs)):TyX K H (.ref a) (.type "list"):=.base (.lst h)
theorem RMy {a:Addr} {xs:List V} (h:H a=some (.tup xs)):TyX K H (.ref a) (.type "tuple"):=.base (.tup h)
theorem JLL {a:Addr} {xs:List (Key × V)} (h:H a=some (.dK xs)):TyX K H (.ref a) (.type "dict"):=.base (.dK h)
end
section
variable {X:Cx} {K:qk} {H:Hp} {Q:VK} {x:V} {d:PyData}
end
end Cp
namespace Cp
open PySem PySem.Spec
open PyProof.Rows L2
def eY (K:qk):List V->Hp->VK->Prop:=λxs H Q=>rIsi K xs H Q \/ rIsiT K xs H Q
def SU (K:qk):List V->Hp->VK->Prop:=λxs H Q=>∃ p ys,xs=[.ref p]/\(SqL K H p ys \/ SqT K H p ys)/\∀ l,H l=none->Q (.ref l) (upd H l (.lst ys))
def P9 (K:qk):List V->Hp->VK->Prop:=λxs H Q=>∃ p ys,xs=[.ref p]/\((SqL K H p ys/\∀ l,H l=none->Q (.ref l) (upd H l (.tup ys))) \/ (SqT K H p ys/\Q (.ref p) H))
def dRv (K:qk):V->List V->Hp->VK->Prop:=λx xs H Q=>∃ a p,∃ ys:List Str,x = .str a/\xs=[.ref p]/\(SqL K H p (ys.map V.str) \/ SqT K H p (ys.map V.str))/\(ys.map (·.length)).sum+ys.length * a.length<=16777216/\Q (.str (Txt.join a ys)) H
section
variable {X:Cx} {K:qk}
theorem rO1 (hK:X.K=K:=by rfl):OpR X (binaryOp .Add) (G2 K):=hK ▸ VTA
theorem kEq (hu:X.A.units+64 < cLine) (hK:X.K=K:=by rfl):OpR X (compareOp .Eq) (gM K):=hK ▸ iT6 hu
theorem kNe (hu:X.A.units+64 < cLine) (hK:X.K=K:=by rfl):OpR X (compareOp .NotEq) (lE K):=hK ▸ HTW hu
theorem kIn (hu:X.A.units+65 < cLine) (hK:X.K=K:=by rfl):OpR X (compareOp .In) (NXp K):=hK ▸ K14 hu
theorem v9Z (hu:X.A.units+65 < cLine) (hK:X.K=K:=by rfl):OpR X (compareOp .NotIn) (E4 K):=hK ▸ wJ hu
theorem nN9 (hK:X.K=K:=by rfl):CallR X (.builtin "len") (rLen K):=hK ▸ dX
theorem mI7 (hK:X.K=K:=by rfl):CallR X (.builtin "isinstance") (eY K):=hK ▸ CallR.or call_isi call_isiT
theorem e3y (hK:X.K=K:=by rfl):CallR X (.type "list") (SU K):=hK ▸ (call_list_of (X:=X))
theorem zHC (hK:X.K=K:=by rfl):CallR X (.type "tuple") (P9 K):=hK ▸ (call_tuple_of (X:=X))
theorem MZI (hc:X.calm=true) (hK:X.K=K:=by rfl):CallR X (.builtin "all") (rAll K):=hK ▸ cr_all hc
theorem GML (hc:X.calm=true) (hK:X.K=K:=by rfl):CallR X (.builtin "any") (rAny K):=hK ▸ cr_any hc
theorem b1Y (hK:X.K=K:=by rfl):MtR X "str.join" (dRv K):=hK ▸ (mt_join (X:=X))
variable {e o:Expr} {es:List Expr} {te to:TE} {t:TA} {tg:Expr} {f:Str} {pos apos cpos pos':Pos} {name:Str} {id T:String} {r:V->List V->Hp->VK->Prop}
theorem tC0 (own:PlainAttrs T) (at_:Slot T name id) (kind:typeOf (.builtin id)=pure (.type "method_descriptor")) (does:MtR X id r) (obj:PE X o to) (args:PA X (e :: es) t) (stands:attributeBase o name X.env (eval o X.env)=eval o X.env:=by rfl)
  (few:((backTo cpos (starEach (e :: es) X.env)).all (λx=>!x.1) && (backToKw cpos (keywordEach [] X.env)).all (λx=>x.1.isSome) && decide ((e :: es).length+([]:List Keyword).length+(if ([]:List Keyword).isEmpty then 0 else 1) < 30))=true:=by rfl)
  (row:(apos.endLine == cpos.line)=true:=by rfl) (each:starEach (e :: es) X.env=(false,eval e X.env) :: starEach es X.env:=by rfl) (single:(backTo cpos (starEach es X.env)).any (·.1)=false:=by rfl) (told:X.K=K:=by rfl) :
  PE X (.Call (.Attribute o name apos) (e :: es) [] cpos) (tBM K T r to t):=told ▸ pe_bm own at_ kind does obj args stands few row each single
theorem Z8y {k:Nat} {gs:TGs} {n:Nat} (hc:X.calm=true) (h:PGs X es gs) (hn:(assignEach es X.env).length=n:=by rfl) (hst:(assignEach es X.env).findIdx? (·.1)=none:=by rfl) (hK:X.K=K:=by rfl):PG X (.Tuple es k pos) (gTup K n gs):=hK ▸ pg_tup hc h hn hst
end
section
variable {K:qk} {H:Hp} {Q:VK} {x:V} {T t:String} {b:Bool} {p:Addr} {xs:List V}
theorem t4q (h:TyX K H x (.type t)) (e:ya K (.type t) (.type T)=some b) (q:Q (.bl b) H):eY K [x,.ty T] H Q:=.inl (isi h e q)
theorem FP {bs:List Bool} (h:SqL K H p (bs.map V.bl)) (q:Q (.bl (bs.all id)) H):rAll K [.ref p] H Q:=⟨p,bs,rfl,h,q⟩
end
end Cp
namespace Cp
open PySem PySem.Spec
open PyProof.Rows L2
section
variable {X:Cx} {K:qk} {H:Hp} {Q:VK} {v:V} {R:Str}
def FLs:List V->Hp->VK->Prop:=λxs H Q=>∃ i j,xs=[.int i,.int j]/\Q (.int (if j < i then j else i)) H
theorem k4g (hc:X.calm=true):CallR X (.builtin "min") FLs:=call_min2 hc
end
section
variable {X:Cx} {CX:CXT} {k:Nat} {f:Addr} {fd:FuncData} {ps ks:List Str} {sp:Sp} {E:XK} {x:Str} {p pos:Pos} {kws:List Keyword} {t:TA} {g:List Value->List Value->List Value} {gV:List V->List V->List V}
end
end Cp
namespace Cp
open PySem PySem.Spec PySem.W
open PyProof.Rows L2
section
variable {X:Cx} {K:qk} {H:Hp} {Q:VK} {x y:V} {d e:PyData}
end
def Lc (env:Env) (m:Str->Option Value) (s0 s:Shared):Prop:=∃ h tk,s = { s0 with heap:=h,toks:=tk }/\h.Ns env.locals m/\∀ b o,b ≠ env.locals->s0.heap.get? b=some o->h.get? b=some o
section
variable {prog:Program} {w:World} {A:Around} {E:Value->Shared->Prop} {s0 s:Shared} {env:Env} {m:Str->Option Value} {x:Str} {v:Value} {pos:Pos}
theorem Lc.load {Q:Value->Shared->Prop} (l:Lc env m s0 s) (fn:env.scope.kind = .function) (hk:env.kindOf x=some .local) (hv:m x=some v) (q:Q v s) (hd:(x == ("__debug__" : Str))=false:=by decide) :
  wpAny (model prog w) A (eval (.Name x pos) env) Q E s:=by
 obtain⟨h,tk,rfl,ns,_⟩:=l
 exact wpAny_Name (wpAny_loadName_local fn hk ns hv q) hd
theorem Lc.store {Q:Unit->Shared->Prop} (l:Lc env m s0 s) (fn:env.scope.kind = .function) (hk:env.kindOf x=some .local) (q:∀ s',Lc env (λy=>if y=x then some v else m y) s0 s'->Q () s') :
  wpAny (model prog w) A (assign (.Name x pos) env v) Q E s:=by
 obtain⟨h,tk,rfl,ns,kp⟩:=l
 refine wpAny_assign_Name (wpAny_storeName_local hk ns (λh' ns' same=>?_) ?_)
 ·exact q _ ⟨h',_,rfl,ns',λb o ne e=>(same.2 b ne).trans (kp b o ne e)⟩
 ·rw[fn]
  rfl
theorem Lc.grow {h':Heap} {tk:Nat} (l:Lc env m s0 s) (k:∀ b o,s.heap.get? b=some o->h'.get? b=some o):Lc env m s0 { s with heap:=h',toks:=tk }:=by
 obtain⟨h,t,rfl,ns,kp⟩:=l
 exact⟨h',tk,rfl,ns.keeps k,λb o ne e=>k b o (kp b o ne e)⟩
theorem spl {e:Expr} {es:List Expr} {Q:List Value->Shared->Prop} (q:wpAny (model prog w) A (eval e env) (λu s1=>wpAny (model prog w) A (spliced (backTo pos (starEach es env))) (λus s2=>Q (u :: us) s2) E s1) E s)
  (h1:starEach (e :: es) env=(false,eval e env) :: starEach es env:=by rfl):wpAny (model prog w) A (spliced (backTo pos (starEach (e :: es) env))) Q E s:=by
 rw[h1]
 exact Calls.spliced_cons q
theorem OYi {tg:Expr} {Q:Unit->Shared->Prop} (q:wpAny (model prog w) A (assign tg env v) Q E s) (h1:(assignEach [tg] env).map (·.2)=[assign tg env]:=by rfl):wpAny (model prog w) A (assignAll v ((assignEach [tg] env).map (·.2))) Q E s:=by
 rw[h1]
 exact q
end
end Cp
namespace Cp
open PySem PySem.Spec
open PyProof.Rows L2
section
variable {K:qk} {σ:L2.St} {H:Hp} {Q:VK} {D:Ends} {ta tv:TE} {f:Str} {a C dx:Addr} {fs:List (Str × V)} {v y:V}
end
end Cp
namespace Cp
open PySem PySem.Spec
open PyProof.Rows L2
def f7L (J1:It) (g1:TG) (tt1:TT) (te:TE) (vs1:List Nat) (σ2:L2.St) (Dl:Addr) (H4:Hp) (Out:Hp->Prop):Prop:=∃ W1:Nat->Nat->Hp->Prop,(∃ m,W1 0 m H4)/\∀ j k H,W1 j k H ->
 (J1.stop j H/\Out H) \/ (J1.go j H/\∃ Nx1:Hp->Prop,(∀ H',Nx1 H'->∃ k',k' < k/\W1 (j+1) k' H')/\∀ x H',J1.yld j H x H'->g1 x (wipe σ2 vs1) H' λσ3 H5=>wipe σ3 vs1=wipe σ2 vs1/\tt1 σ3 H5 λb H6=>
  if b=true then te σ3 H6 λy H7=>OMB Nx1 Dl y H7 else Nx1 H6)
section
variable {K:qk} {σ σ2:L2.St} {H H4:Hp} {Q:VK} {wi wi1:TI} {g g1:TG} {tt tt1:TT} {te:TE} {vs vs1:List Nat} {a Dl:Addr} {xs:List V} {Out:Hp->Prop}
end
end Cp
namespace Cp
open PySem PySem.Spec
open PyProof.Rows L2
section
variable {prog:Program} {w:World} {A:Around} {E:Value->Shared->Prop} {s:Shared}
def nHs (prog:Program) (w:World) (A:Around) (E:Value->Shared->Prop) (s:Shared) (rest:List Value) (it:Value) (now:Shared):Prop:=
 ∀ R:List Value->Shared->Prop,(∀ (h:Heap) (tk:Nat),(∀ b o,s.heap.get? b=some o->h.get? b=some o)->R rest { s with heap:=h,toks:=tk })->wpAny (model prog w) A (collect it) R E now
def hU (prog:Program) (w:World) (A:Around) (E:Value->Shared->Prop) (s:Shared) (first rest:List Value) (it:Value) (now:Shared):Prop:=
 ∀ R:List Value->Shared->Prop,(∀ later,nHs prog w A E s rest it later->R first later)->wpAny (model prog w) A (draw it first.length) R E now
theorem xF {v:Value} {first rest:List Value} {n:Nat} {Q:List Value->Shared->Prop} (isSeq:∀ R:Bool->Shared->Prop,R false s->wpAny (model prog w) A (notIterableAtAll v) R E s)
  (walk:∀ R:Value->Shared->Prop,(∀ it now,hU prog w A E s first rest it now->R it now)->wpAny (model prog w) A (pyIter v) R E s) (enough:n - 1 - first.length<=rest.length) (few:rest.length<=16384)
  (goal:∀ (h:Heap) (tk:Nat),(∀ b o,s.heap.get? b=some o->h.get? b=some o)->Q (first++[.ref h.objs.size]++rest.drop (rest.length - (n - 1 - first.length))) { s with heap:=h.push { cls:=.type "list",data:=.seq (rest.take (rest.length - (n - 1 - first.length))).toArray },toks:=tk }) :
  wpAny (model prog w) A (unpackItems v n (some first.length)) Q E s:=by
 unfold unpackItems
 apply wpAny_bind
 apply isSeq
 simp only[Bool.false_eq_true,if_false]
 apply wpAny_bind
 apply wpAny_holding
 apply walk
 intro it now gives
 apply wpAny_bind
 apply wpAny_holding
 apply gives
 intro later leaves
 rw[if_neg (Nat.lt_irrefl _)]
 apply wpAny_bind
 apply wpAny_holding
 apply leaves
 intro h tk keeps
 show wpAny _ _ (if rest.length < n - 1 - first.length then _ else _) _ _ _
 rw[if_neg (Nat.not_lt.mpr enough)]
 apply wpAny_bind
 refine wpAny_newList (wpAny_pure (goal h tk keeps)) ?_
 rw[zy,sizeLine_eq]
 omega
theorem SA {l:Addr} {items:Array Value} {i:Nat} (tup:IsTup s.heap l items) (calm:A.handled=none) (le:i<=items.size) (few:items.size<=16384) (R:Value->Shared->Prop)
  (goal:∀ it now,hU prog w A E s (items.toList.take i) (items.toList.drop i) it now->R it now):wpAny (model prog w) A (pyIter (.ref l)) R E s:=by
 obtain⟨ol,there,_⟩:=id tup
 have new:l ≠ s.heap.objs.size:=zj (Heap.lt_size there)
 apply iter_tuple tup
 apply goal
 intro R1 next
 have count:(items.toList.take i).length=i:=by
  rw[zy,Array.length_toList]
  omega
 rw[count]
 refine draw_tuple new i 0 _ _ ⟨_,Heap.get?_push_size _ rfl,rfl,rfl⟩ (tup.push _) qh ?_
 intro h1 iter1 same1
 rw[yj] at iter1
 rw[List.drop_zero]
 apply next
 intro R2 after
 have tup1:IsTup h1 l items:=(tup.push _).extBut same1.extBut new
 obtain⟨o1,there1,_⟩:=id tup1
 obtain⟨o2,there2,_⟩:=id iter1
 refine PySem.W.kun_collect (s:={ s with heap:=h1 }) (T := "tuple_iterator") (.inr (.inr (.inr rfl))) (Walks.tuple (A:=A.in1) calm s.heap.objs.size l new items) (λ_ _ st=>st.1.typeIs) le ⟨iter1,tup1⟩ (Heap.lt_size there2) (Heap.lt_size there1) ?_ (by rw[sizeLine_eq];omega)
 intro h2 tk kept
 apply after
 intro b o e
 have ne:b ≠ s.heap.objs.size:=zj (Heap.lt_size e)
 exact kept b o ne (same1.extBut b o ne (Heap.get?_push_of_some _ e))
theorem uU {l:Addr} {items:Array Value} {i:Nat} (lst:s.heap.IsList l items) (calm:A.handled=none) (le:i<=items.size) (few:items.size<=16384) (R:Value->Shared->Prop)
  (goal:∀ it now,hU prog w A E s (items.toList.take i) (items.toList.drop i) it now->R it now):wpAny (model prog w) A (pyIter (.ref l)) R E s:=by
 obtain⟨ol,there,_⟩:=id lst
 have new:l ≠ s.heap.objs.size:=zj (Heap.lt_size there)
 apply wpAny_pyIter_list lst
 apply goal
 intro R1 next
 have count:(items.toList.take i).length=i:=by
  rw[zy,Array.length_toList]
  omega
 rw[count]
 refine PySem.W.kun_draw new i 0 _ _ ⟨_,Heap.get?_push_size _ rfl,rfl,rfl⟩ (lst.push _) qh ?_
 intro h1 iter1 same1
 rw[yj] at iter1
 rw[List.drop_zero]
 apply next
 intro R2 after
 have lst1:h1.IsList l items:=(lst.push _).extBut same1.extBut new
 obtain⟨o1,there1,_⟩:=id lst1
 obtain⟨o2,there2,_⟩:=id iter1
 refine PySem.W.kun_collect (s:={ s with heap:=h1 }) (T := "list_iterator") (.inr (.inr (.inl rfl))) (Walks.list (A:=A.in1) calm s.heap.objs.size l new items) (λ_ _ st=>st.1.typeIs) le ⟨iter1,lst1⟩ (Heap.lt_size there2) (Heap.lt_size there1) ?_ (by rw[sizeLine_eq];omega)
 intro h2 tk kept
 apply after
 intro b o e
 have ne:b ≠ s.heap.objs.size:=zj (Heap.lt_size e)
 exact kept b o ne (same1.extBut b o ne (Heap.get?_push_of_some _ e))
end
section
variable {X:Cx} {pos p:Pos} {e:Expr} {es:List Expr} {k n i:Nat} {t:TG} {ts:TGs}
theorem OE (one:PG X e t) (more:PGs X es ts) (each:(assignEach (.Starred e p :: es) X.env).map (·.2)=assign e X.env :: (assignEach es X.env).map (·.2):=by rfl):PGs X (.Starred e p :: es) (gCons t ts):=by
 constructor
 rintro pins s σ H _ us Q inv rel ⟨v,vr,rfl,goal⟩
 rcases rel with _|⟨r,rr⟩
 rw[each]
 apply assignInOrder_cons
 refine thn (one.run pins s σ H _ _ _ inv r goal) ?_
 rintro _ s1 ⟨σ1,H1,inv1,goal1⟩
 exact more.run pins s1 σ1 H1 _ _ Q inv1 rr goal1
def s3e (K:qk) (n i:Nat) (ts:TGs):TG:=λv σ H Q=>∃ (a:Addr) (xs:List V),v = .ref a/\(SqT K H a xs \/ SqL K H a xs)/\n<=xs.length+1/\xs.length<=16384 /\
 ∀ D,H D=none->ts (xs.take i++[.ref D]++(xs.drop i).drop (xs.length+1 - n)) σ (upd H D (.lst ((xs.drop i).take (xs.length+1 - n)))) Q
theorem SHM (calm:X.calm=true) (all:PGs X es ts) (many:(assignEach es X.env).length=n:=by rfl) (at_:(assignEach es X.env).findIdx? (·.1)=some i:=by rfl) (lt:i < n:=by decide):PG X (.Tuple es k pos) (s3e X.K n i ts):=by
 constructor
 rintro pins s σ H _ u Q inv rel ⟨a,xs,rfl,seq,fits,few,goal⟩
 obtain rfl:u = .ref a:=rel
 obtain⟨its,rv,isSeq,walk⟩:∃ its:List Value,Vals xs its/\(∀ R:Bool->Shared->Prop,R false s->wpAny (model X.prog X.w) X.A (notIterableAtAll (.ref a)) R X.xe s) /\
   ∀ R:Value->Shared->Prop,(∀ it now,hU X.prog X.w X.A X.xe s (its.take i) (its.drop i) it now->R it now)->wpAny (model X.prog X.w) X.A (pyIter (.ref a)) R X.xe s:=by
  rcases seq with seq|seq
  ·obtain⟨its,rv,tup,_⟩:=inv.tuple seq
   have len:=rv.length
   refine⟨its,rv,λR no=>?_,λR next=>?_⟩
   ·unfold notIterableAtAll
    exact wpAny_bind (wpAny_specialOf tup.typeIs slot_tuple_iter.lookup (wpAny_pure no))
   ·exact SA (items:=its.toArray) tup (inv.ok.hd calm) (by rw[yn];omega) (by rw[yn];omega) R next
  ·obtain⟨its,rv,lst,_⟩:=inv.list seq
   have len:=rv.length
   refine⟨its,rv,λR no=>?_,λR next=>?_⟩
   ·unfold notIterableAtAll
    exact wpAny_bind (wpAny_specialOf lst.isList.typeIs slot_list_iter.lookup (wpAny_pure no))
   ·exact uU (items:=its.toArray) lst.isList (inv.ok.hd calm) (by rw[yn];omega) (by rw[yn];omega) R next
 have len:=rv.length
 have count:(its.take i).length=i:=by
  rw[zy]
  omega
 have left:(its.drop i).length - (n - 1 - i)=xs.length+1 - n:=by
  rw[yh]
  omega
 rw[assign_Tuple]
 refine wpAny_bind (wpAny_standAt ?_)
 unfold unpack
 rw[many,at_]
 refine wpAny_bind (wpAny_holding ?_)
 have split:=xF (n:=n) (first:=its.take i) (rest:=its.drop i) (v:=.ref a) (E:=X.xe) (s:=s) (prog:=X.prog) (w:=X.w) (A:=X.A)
  (Q:=λvs s1=>wpAny (model X.prog X.w) X.A (assignInOrder ((assignEach es X.env).map (·.2)) vs) (λ_ s'=>∃ σ' H',Inv X pins σ' H' s'/\Q σ' H') X.xe s1)
  isSeq walk (by rw[count,yh];omega) (by rw[yh];omega)
 rw[count,left] at split
 refine split λh tk keeps=>?_
 have inv1:Inv X pins σ H { s with heap:=h,toks:=tk }:=inv.kept keeps
 have mids:Vals ((xs.drop i).take (xs.length+1 - n)) ((its.drop i).take (xs.length+1 - n)):=(rv.drop i).take _
 have one:Vals [V.ref h.objs.size] [Value.ref h.objs.size]:=.cons rfl .nil
 have whole:=Vals.append (Vals.append (rv.take i) one) ((rv.drop i).drop (xs.length+1 - n))
 have inv2:=inv1.laid (a:=h.objs.size) (o:=.lst ((xs.drop i).take (xs.length+1 - n))) (t':=tk) (λb u there=>Heap.get?_push_of_some _ there) (jg _)
  ⟨by rw[zy,yh,sizeLine_eq];omega,_,0,mids,Heap.get?_push_size _ rfl⟩
 exact all.run pins _ σ _ _ _ Q inv2 whole (goal _ (inv1.hok.fresh (jg _)))
def gLst (K:qk) (n:Nat) (ts:TGs):TG:=λv σ H Q=>∃ (a:Addr) (items:List V),v = .ref a/\SqL K H a items/\items.length=n/\ts items σ H Q
theorem nHh (calm:X.calm=true) (all:PGs X es ts) (many:(assignEach es X.env).length=n:=by rfl) (none_:(assignEach es X.env).findIdx? (·.1)=none:=by rfl):PG X (.Tuple es k pos) (gLst X.K n ts):=by
 constructor
 rintro pins s σ H _ u Q inv rel ⟨a,xs,rfl,seq,fits,goal⟩
 obtain rfl:u = .ref a:=rel
 obtain⟨its,rv,lst,_⟩:=inv.list seq
 have size:n=its.toArray.size:=by
  rw[yn,<- rv.length]
  exact fits.symm
 rw[assign_Tuple]
 apply wpAny_bind
 apply wpAny_standAt
 unfold unpack
 rw[many,none_,size]
 apply wpAny_bind
 apply wpAny_holding
 apply PySem.W.kun_itemsOf (inv.ok.hd calm) lst.isList
 intro h' same
 have inv1:Inv X pins σ H { s with heap:=h',toks:=s.toks }:=inv.kept λb o there=>same b o (zj (Heap.lt_size there)) there
 exact all.run pins _ σ H xs _ Q inv1 (by simpa using rv) goal
variable {K:qk}
theorem X5C (calm:X.calm=true) (all:PGs X es ts) (many:(assignEach es X.env).length=n:=by rfl) (none_:(assignEach es X.env).findIdx? (·.1)=none:=by rfl) (told:X.K=K:=by rfl):PG X (.Tuple es k pos) (gLst K n ts):=told ▸ nHh calm all many none_
theorem sGk (calm:X.calm=true) (all:PGs X es ts) (many:(assignEach es X.env).length=n:=by rfl) (at_:(assignEach es X.env).findIdx? (·.1)=some i:=by rfl) (lt:i < n:=by decide) (told:X.K=K:=by rfl):PG X (.Tuple es k pos) (s3e K n i ts):=told ▸ SHM calm all many at_ lt
end
section
variable {K:qk} {H:Hp} {σ:L2.St} {a:Addr} {xs:List V} {ts:TGs} {n i:Nat} {R:L2.St->Hp->Prop}
end
end Cp
namespace Cp
open PySem PySem.Spec
open PyProof.Rows L2
def q5g:Value->List Addr
 | .ref a=>[a]
 | _=>[]
def nA (g:Addr->Option Obj) (a:Addr):List Addr:=match g a with
 | some o=>(match o.data with
  | .dict es _=>es.toList.flatMap λe=>q5g e.val
  | .cls cd=>[cd.ns]
  | .func fd=>q5g fd.code++(q5g fd.defaults++q5g fd.kwdefaults)
  | _=>[])
 | none=>[]
def L6 {α:Type}:List Nat->(List Nat->α)->α
 | [],k=>k []
 | a :: r,k=>HandSHeadRun.frNat a λa=>L6 r λr=>k (a :: r)
theorem c8 {α:Type}:∀ (l:List Nat) (k:List Nat->α),L6 l k=k l
 | [],_=>rfl
 | a :: r,k=>by
  unfold L6
  rw[HandSHeadRun.frNat_eq,c8 r]
def HX (g:Addr->Option Obj):List Addr->qk
 | []=>[]
 | a :: r=>match g a with
  | some o=>(a,o) :: HX g r
  | none=>HX g r
def LN {α:Type} (g:Addr->Option Obj):List Addr->(qk->α)->α
 | [],k=>k []
 | a :: r,k=>match g a with
  | some o=>LN g r λK=>k ((a,o) :: K)
  | none=>LN g r k
theorem w9 {α:Type} (g:Addr->Option Obj):∀ (l:List Addr) (k:qk->α),LN g l k=k (HX g l)
 | [],_=>rfl
 | a :: r,k=>by
  unfold LN HX
  cases g a with
  | none=>exact w9 g r k
  | some o=>exact w9 g r _
theorem kE {h:Heap}:∀ {as:List Addr},(HX h.get? as).In h:=by
 intro as
 induction as with
 | nil=>intro a o e;cases e
 | cons b r ih=>
  intro a o e
  unfold HX at e
  cases hb:h.get? b with
  | none=>
   rw[hb] at e
   exact ih a o e
  | some u=>
   rw[hb] at e
   have e:List.lookup a ((b,u) :: HX h.get? r)=some o:=e
   rw[Qh] at e
   by_cases c:a == b
   ·rw[c] at e
    cases e
    rw[beq_iff_eq.mp c]
    exact hb
   ·rw[show(a == b)=false from by simpa using c] at e
    exact ih a o e
def NCP {α:Type} (g:Addr->Option Obj) (k:List Addr->α):α:=
 L6 (nA g mainGlobals) λl1=>L6 (l1.flatMap (nA g)) λl2=>L6 (l2.flatMap (nA g)) λl3=>L6 (l3.flatMap (nA g)) λl4=>k (mainGlobals :: 2 :: sysModules :: (l1++(l2++(l3++l4))))
def P6O (g:Addr->Option Obj):List Addr:=
 mainGlobals :: 2 :: sysModules :: (nA g mainGlobals++((nA g mainGlobals).flatMap (nA g)++(((nA g mainGlobals).flatMap (nA g)).flatMap (nA g)++(((nA g mainGlobals).flatMap (nA g)).flatMap (nA g)).flatMap (nA g))))
theorem M3 {α:Type} (g:Addr->Option Obj) (k:List Addr->α):NCP g k=k (P6O g):=by
 unfold NCP P6O
 simp only[c8]
def xZ8 (fa:List He.Fa) (fn:List He.DefD) (ck:qk->List Bool) (K:qk):Bool × He.AlD:=((ck K).all id,He.obsD fa fn K)
structure Told (fa:List He.Fa) (fn:List He.DefD) (ck:qk->List Bool) (K:qk):Prop where
 c:He.SaysD fa fn K
 k:(ck K).all id=true
def qPr (fa:List He.Fa) (fn:List He.DefD) (ck:qk->List Bool) (g:Addr->Option Obj):Bool × He.AlD:=NCP g λl=>LN g l λK=>xZ8 fa fn ck K
theorem MTL {fa:List He.Fa} {fn:List He.DefD} {ck:qk->List Bool} {h:Heap} (e:qPr fa fn ck h.get? = (true,He.valD fn)):∃ K:qk,K.In h/\Told fa fn ck K:=by
 unfold qPr at e
 rw[M3,w9] at e
 exact⟨_,kE,congrArg (λz:Bool × He.AlD=>z.2) e,congrArg (λz:Bool × He.AlD=>z.1) e⟩
def hk (fa:List He.Fa) (fn:List He.DefD) (ck:qk->List Bool):PySem.W.Hook where
 α:=Bool × He.AlD
 obs:=λs=>qPr fa fn ck s.heap.get?
 val:=λ_=>(true,He.valD fn)
 says:=λ_ h=>∃ K:qk,K.In h/\Told fa fn ck K
 of:=λ_ _ e=>MTL e
 keeps:=λ_ _ _ ⟨K,hK,c⟩ k=>⟨K,qk.In.keeps hK k,c⟩
section
variable {fa:List He.Fa} {fn:List He.DefD} {ck:qk->List Bool} {K:qk}
theorem Told.at (c:Told fa fn ck K) (i:Nat) {b:Bool} (h:(ck K)[i]? = some b:=by rfl):b=true:=zc.mp c.k b (zu h)
theorem Told.eq (c:Told fa fn ck K) (i:Nat) {α:Type} [DecidableEq α] {x y:α} (h:(ck K)[i]? = some (decide (x=y)):=by rfl):x=y:=of_decide_eq_true (c.at i h)
end
def excA (K:qk) (C:Addr):Bool:=match K.lookup C with
 | some ⟨.type "type",_,.cls cd,sl⟩=>(match cd.mro,sl.toList with
  | .ref D :: bm,[_,_,_,_,some (.builtin n),_]=>D == C && (n == "ValueError.__new__" && (!cd.hasDel && (cd.hasDict && PySem.HandSPX.refsVE bm)))
  | _,_=>false)
 | _=>false
theorem excA_ok {K:qk} {C:Addr} (h:excA K C=true):∃ nm q N bs bm sn sub ab col dd k0 k1 k2 k3 k5,K.lookup C=some (excClassObj nm q C N bs bm true sn sub ab col dd k0 k1 k2 k3 k5 "ValueError.__new__")/\PySem.HandSPX.refsVE bm=true:=by
 unfold excA at h
 split at h
 ·rename_i dd cd sl ho
  split at h
  ·rename_i D bm k0 k1 k2 k3 n k5 hm hs
   simp only[js,beq_iff_eq,Bool.not_eq_true'] at h
   obtain⟨rfl,rfl,hd,hc,hr⟩:=h
   obtain⟨nm,bs,mro,ns,qn,hdct,sn,sub,ab,col,del⟩:=cd
   dsimp only at hm hd hc
   subst hm hd hc
   have hsl:sl = #[k0,k1,k2,k3,some (.builtin "ValueError.__new__"),k5]:=by
    obtain⟨l⟩:=sl
    dsimp only at hs
    rw[hs]
   subst hsl
   exact⟨nm,qn,ns,bs,bm,sn,sub,ab,col,dd,k0,k1,k2,k3,k5,ho,hr⟩
  ·cases h
 ·cases h
theorem fun_of {K:qk} {x qual:Str} {st:Stmt} {kws:List (Str × V)} {f:Addr} {fd:FuncData} (F:FunD K x qual (defArgs st) (defBody st) (defScope st) [] kws f fd):L2.Fun K x qual st f fd:=by
 obtain⟨oc,od,dV,kV,doc,pm,an,cdv,ct,osl,e,lk,cd,dv,kv⟩:=F.ex
 rcases dv with⟨_,rfl⟩|⟨z,_⟩
 ·exact⟨⟨oc,od,kV,doc,pm,an,cdv,ct,osl,e,lk,cd⟩,F.kp⟩
 ·exact absurd rfl z
end Cp
namespace Cp
open PySem PySem.Spec
open PyProof.Rows L2
def codeA (K:qk) (a:Addr):Addr:=match K.lookup a with
 | some ⟨_,_,.func fd,_⟩=>(match fd.code with
  | .ref c=>c
  | _=>0)
 | _=>0
def tabA (K:qk) (a:Addr):Addr:=match K.lookup (codeA K a) with
 | some ⟨_,_,.fields vs,_⟩=>(match (vs[11]?:Option Value) with
  | some (.ref p)=>p
  | _=>0)
 | _=>0
def tabO:Obj:={ cls:=.none,data:=.fields #[] }
def rM:Option Obj->Bool
 | some ⟨.none,none,.fields vs,sl⟩=>vs.toList.isEmpty && sl.toList.isEmpty
 | _=>false
theorem c6 {o:Option Obj} (h:rM o=true):o=some tabO:=by
 unfold rM at h
 split at h
 ·rename_i vs sl
  simp only[js,List.isEmpty_iff] at h
  have e1:vs = #[]:=by
   obtain⟨l⟩:=vs
   have:=h.1
   dsimp only at this
   rw[this]
  have e2:sl = #[]:=by
   obtain⟨l⟩:=sl
   have:=h.2
   dsimp only at this
   rw[this]
  rw[e1,e2]
  rfl
 ·cases h
structure TabK (K:qk) (a:Addr):Prop where
 code:∃ oc od fd sl,K.lookup a=some ⟨oc,od,.func fd,sl⟩/\fd.code = .ref (codeA K a)
 nz:tabA K a ≠ 0
 out:K.lookup (tabA K a)=none
 hd:PySem.W.codeHdIn K (codeA K a) (tabA K a)=true
def bV (K:qk) (a:Addr):Bool:=match K.lookup a with
 | some ⟨_,_,.func fd,_⟩=>(match fd.code with
  | .ref _=>true
  | _=>false)
 | _=>false
theorem eO {K:qk} {a:Addr} (h:bV K a=true):∃ oc od fd sl,K.lookup a=some ⟨oc,od,.func fd,sl⟩/\fd.code = .ref (codeA K a):=by
 unfold bV at h
 split at h
 ·rename_i oc od fd sl lk
  split at h
  ·rename_i c hc
   refine⟨oc,od,fd,sl,lk,?_⟩
   unfold codeA
   rw[lk]
   dsimp only
   rw[hc]
  ·cases h
 ·cases h
def zLW (K:qk) (a:Addr):Bool:=bV K a && decide (tabA K a ≠ 0) && ((K.lookup (tabA K a)).isNone && PySem.W.codeHdIn K (codeA K a) (tabA K a))
theorem Y5 {K:qk} {a:Addr} (h:zLW K a=true):TabK K a:=by
 unfold zLW at h
 simp only[js] at h
 exact⟨eO h.1.1,of_decide_eq_true h.1.2,Option.isNone_iff_eq_none.mp h.2.1,h.2.2⟩
def HL (fa:List He.Fa) (fn:List He.DefD) (ck:qk->List Bool) (ta:qk->List Addr) (g:Addr->Option Obj):Bool × He.AlD:=NCP g λl=>LN g l λK=>(((ck K).all id && (ta K).all λa=>zLW K a && rM (g (tabA K a))),He.obsD fa fn K)
theorem I7R {fa:List He.Fa} {fn:List He.DefD} {ck:qk->List Bool} {ta:qk->List Addr} {h:Heap} (e:HL fa fn ck ta h.get? = (true,He.valD fn)):∃ K:qk,K.In h/\Told fa fn ck K/\∀ a ∈ ta K,TabK K a/\h.get? (tabA K a)=some tabO:=by
 unfold HL at e
 rw[M3,w9] at e
 have e1:=congrArg (λz:Bool × He.AlD=>z.1) e
 have e2:=congrArg (λz:Bool × He.AlD=>z.2) e
 dsimp only at e1 e2
 rw[js] at e1
 refine⟨_,kE,⟨e2,e1.1⟩,λa ha=>?_⟩
 have:=zc.mp e1.2 a ha
 rw[js] at this
 exact⟨Y5 this.1,c6 this.2⟩
def hkL (fa:List He.Fa) (fn:List He.DefD) (ck:qk->List Bool) (ta:qk->List Addr):PySem.W.Hook where
 α:=Bool × He.AlD
 obs:=λs=>HL fa fn ck ta s.heap.get?
 val:=λ_=>(true,He.valD fn)
 says:=λ_ h=>∃ K:qk,K.In h/\Told fa fn ck K/\∀ a ∈ ta K,TabK K a/\h.get? (tabA K a)=some tabO
 of:=λ_ _ e=>I7R e
 keeps:=λ_ _ _ ⟨K,hK,c,t⟩ k=>⟨K,qk.In.keeps hK k,c,λa ha=>⟨(t a ha).1,k _ _ (t a ha).2⟩⟩
def hkLT (fa:List He.Fa) (fn:List He.DefD) (ck:qk->List Bool) (ta:qk->List Addr) (s:PySem.W.SharedT):Bool × He.AlD:=HL fa fn ck ta (HandSHeadRun.getT s)
theorem hkLT_eq {fa:List He.Fa} {fn:List He.DefD} {ck:qk->List Bool} {ta:qk->List Addr} (s:PySem.W.SharedT):hkLT fa fn ck ta s=(hkL fa fn ck ta).obs s.abs:=by
 have e:HandSHeadRun.getT s=s.abs.heap.get?:=funext (HandSHeadRun.getT_eq s)
 show HL fa fn ck ta (HandSHeadRun.getT s)=HL fa fn ck ta s.abs.heap.get?
 rw[e]
theorem EY {P:Program} {w:World} {K:qk} {mg mb:Str->Option Value} {CX:CXT} {k:Nat} {fa a:Addr} {cs:List (Addr × Addr)} {fd:FuncData} {x:Str} {sp:Sp} {s:Shared} {vs:List Value} {ns:List Int}
  (inK:K.In s.heap) (hmg:s.heap.Ns mainGlobals mg) (hmb:s.heap.Ns builtinsNs mb) (boot:∀ x:Str,x ≠ "__name__"->mb x=bootBuiltins x) (nl:s.heap.NoLimit) (gens:s.gens = #[])
  (tabAt:∀ p ∈ cs,s.heap.get? p.2=some { cls:=.none,data:=.fields #[] }) (noTab:∀ p ∈ cs,K.lookup p.2=none) (codeAt:∀ p ∈ cs,PySem.W.CodeHd s.heap p.1 p.2)
  (blt:∃ (bm:Addr) (ob:Obj),mg "__builtins__" = some (.ref bm)/\bm ≠ builtinsNs/\s.heap.get? bm=some ob/\ob.cls = .type "module"/\ob.dict=some builtinsNs/\ob.data = .plain)
  (script:s.heap.get? a=some { cls:=.type "list",data:=.seq vs.toArray }) (nums:IntsAre vs ns) (few:ns.length<=sizeLine) (room:Room k callerA)
  (F:∀ base:Heap,K.In base->base.Ns mainGlobals mg->(∀ p ∈ cs,LamX.TabB base mg p.1 p.2)->FnG P w K mg base CX k fa fd [x] sp) (bound:∀ (s:Shared) (u:Value),BindsTo s fd ⟨[u],[]⟩ [(x,u)])
  (asks:∀ H:Hp,(∀ p ∈ cs,H p.2=some (.tbl #[]))->SqL K H a (ns.map V.int)->sp [.ref a] H (λv _=>v = .bl true) λ_ _ _=>False) (noX:∀ H e s',CX [] H s (λ_ _ _=>False) e s'->False) :
  codeAny (model P w) callerA (.call (.ref fa) ⟨[.ref a],[]⟩) (λr s'=>r = .ok (.ret (.bool true))/\OldK s.heap s'.heap/\s'.os=s.os/\AllBare s'.gens) s:=by
 have vals:=vals_ints nums
 have count:(ns.map V.int).length=vs.length:=vals.length
 obtain⟨ts,hts⟩:∃ ts,ts=cs.map (·.2):=⟨_,rfl⟩
 have tOf:∀ b ∈ ts,∃ p ∈ cs,p.2=b:=λb hb=>by
  rw[hts] at hb
  exact jc.mp hb
 have tMem:∀ p ∈ cs,p.2 ∈ ts:=λp hp=>by
  rw[hts]
  exact jc.mpr ⟨p,hp,rfl⟩
 have tAt:∀ b ∈ ts,s.heap.get? b=some { cls:=.none,data:=.fields #[] }:=λb hb=>by
  obtain⟨p,hp,e⟩:=tOf b hb
  rw[<- e]
  exact tabAt p hp
 have aP:a ∉ ts:=λz=>by
  have z:=tAt a z
  rw[z] at script
  have z':Data.fields #[]=Data.seq vs.toArray _:=congrArg Obj.data (Option.some.inj script)
  cases z'
 suffices core:∃ H:Hp,(∀ b ∈ ts,H b=some (.tbl #[]))/\(∀ b,b ∉ ts->H b=none \/ ∃ o xs,H b=some (.frz o (.lst xs)))/\(∀ b,H b ≠ none->b=a \/ b ∈ ts)/\SqL K H a (ns.map V.int)/\HOk P w H s.heap/\∀ b o,K.lookup b=some o->H b=none by
  obtain⟨H,hP,only,who,seq,hok,free⟩:=core
  have plain:∀ b o,s.heap.get? b=some o->(∀ vs n,o.data ≠ .seq vs n)->o.data ≠ .fields #[]->H b=none:=λb o there h1 h2=>by
   cases q:H b with
   | none=>rfl
   | some u=>
    rcases who b (by rw[q];simp) with e|e
    ·rw[e,script] at there
     cases there
     exact(h1 _ _ rfl).elim
    ·rw[tAt b e] at there
     cases there
     exact(h2 rfl).elim
  have around:Env0 P w K mg (hidT s.heap H) callerA [] s H:=fNQ inK hmg hmb boot nl gens (λb o es ep there isd=>plain b o there (λvs n z=>by rw[isd] at z;cases z) (λz=>by rw[isd] at z;cases z)) free hok
  have tb:∀ p ∈ cs,LamX.TabB (hidT s.heap H) mg p.1 p.2:=λp hp=>by
   refine⟨?_,?_,λz=>?_⟩
   ·obtain⟨o,us,file,tf,flags,tg,inF,text,tt,e1,r1,r2,r3,rest⟩:=codeAt p hp
    refine⟨o,us,file,tf,flags,tg,inF,text,tt,hidT_get e1 (plain _ _ e1 (λvs n z=>by rw[r2] at z;cases z) λz=>?_),r1,r2,r3,rest⟩
    rw[r2] at z
    cases z
    simp at r3
   ·obtain⟨bm,ob,b1,b2,b3,b4,b5,b6⟩:=blt
    refine⟨bm,ob,b1,b2,λq=>?_,λq=>?_,hidT_get b3 (plain _ _ b3 (λvs n z=>by rw[b6] at z;cases z) λz=>by rw[b6] at z;cases z),b4,b5,b6⟩
    ·obtain⟨o,es,ep,e,isd,_⟩:=hmg
     rw[q,e] at b3
     cases b3
     rw[isd] at b6
     cases b6
    ·rw[q,tabAt p hp] at b3
     cases b3
     cases b6
   ·obtain⟨o,es,ep,e,isd,_⟩:=hmg
    rw[z,tabAt p hp] at e
    cases e
    cases isd
  have runs:=(F _ around.mod.kin around.mod.glob tb).go room rfl around (us:=[.ref a]) (vs:=[V.ref a]) (bound s (.ref a)) (.cons rfl .nil) (asks H (λp hp=>hP _ (tMem p hp)) seq)
  refine codeAny_mono runs ?_
  rintro(raised|fl) s' told
  ·exact(noX H raised s' told).elim
  ·rcases fl with _ | _ | _|u
   ·exact False.elim told
   ·exact False.elim told
   ·exact False.elim told
   ·obtain⟨v,H',os,bare,un,hok',rel,isT⟩:=told
    subst isT
    obtain rfl:u=Value.bool true:=rel
    have ZMd:∀ b o,b ∉ ts->s.heap.get? b=some o->s'.heap.get? b=some o:=λb o ne there=>by
     rcases only b ne with no|⟨ob,xs,yes⟩
     ·exact un.keep b o there no (λz=>by cases z) (by simp)
     ·have before:=(hok b _ yes).1
      have after:=(hok' b _ (un.frzs b ob _ yes)).1
      rw[there] at before
      injection before with same
      rw[same]
      exact after
    have grown:∀ b ∈ ts,∃ more:Array Value,s'.heap.get? b=some { cls:=.none,data:=.fields more }:=λb hb=>by
     obtain⟨m,z⟩:=un.tbls b #[] (hP b hb)
     exact⟨_,hok' b _ z⟩
    refine⟨rfl,⟨λb o there=>?_,λb o there=>?_⟩,os,bare⟩
    ·by_cases e:b ∈ ts
     ·obtain⟨more,g⟩:=grown b e
      obtain⟨p,hp,ep⟩:=tOf b e
      subst ep
      rw[tabAt p hp] at there
      cases there
      exact .inr (.inl ⟨((codeAt p hp).tab (tabAt p hp)).isCodeTable,rfl,#[],more,rfl,by rw[Array.empty_append];exact g⟩)
     ·exact .inl (ZMd b o e there)
    ·by_cases e:b ∈ ts
     ·obtain⟨more,g⟩:=grown b e
      exact⟨_,g⟩
     ·exact⟨o,ZMd b o e there⟩
 have notK:∀ b ∈ ts,K.lookup b=none:=λb hb=>by
  obtain⟨p,hp,e⟩:=tOf b hb
  rw[<- e]
  exact noTab p hp
 by_cases known:∃ o,K.lookup a=some o
 ·obtain⟨o,known⟩:=known
  have same:o = { cls:=.type "list",data:=.seq vs.toArray }:=Option.some.inj ((inK a o known).symm.trans script)
  subst same
  let H:Hp:=λb=>if b ∈ ts then some (.tbl #[]) else none
  have on:∀ {b},b ∈ ts->H b=some (.tbl #[]):=λ{b} m=>by simp [H,m]
  have off:∀ {b},b ∉ ts->H b=none:=λ{b} ne=>by simp [H,ne]
  refine⟨H,λb=>on,λb ne=>.inl (off ne),λb z=>?_,Or.inr ⟨_,vs.toArray,_,known,rfl,rfl,rfl,?_,?_⟩,λb u z=>?_,λb o q=>off λm=>?_⟩
  ·by_cases e:b ∈ ts
   ·exact .inr e
   ·exact absurd (off e) z
  ·rw[yn,<- count,qq]
   exact few
  ·simpa using vals
  ·by_cases e:b ∈ ts
   ·rw[on e] at z
    cases z
    exact tAt b e
   ·rw[off e] at z
    cases z
  ·rw[notK b m] at q
   cases q
 ·have fresh:K.lookup a=none:=by
   cases e:K.lookup a with
   | none=>rfl
   | some o=>exact absurd ⟨o,e⟩ known
  let H:Hp:=λb=>if b ∈ ts then some (.tbl #[]) else if b=a then some (.frz { cls:=.type "list",data:=.seq vs.toArray } (.lst (ns.map V.int))) else none
  have on:∀ {b},b ∈ ts->H b=some (.tbl #[]):=λ{b} m=>by simp [H,m]
  have at_a:H a=some (.frz { cls:=.type "list",data:=.seq vs.toArray } (.lst (ns.map V.int))):=by simp [H,aP]
  have off:∀ {b},b ∉ ts->b ≠ a->H b=none:=λ{b} n1 n2=>by simp [H,n1,n2]
  refine⟨H,λb=>on,λb ne=>?_,λb z=>?_,Or.inl (Or.inr ⟨_,at_a⟩),λb u tracked=>?_,λb o q=>?_⟩
  ·by_cases e:b=a
   ·subst e
    exact Or.inr ⟨_,_,at_a⟩
   ·exact Or.inl (off ne e)
  ·by_cases e:b=a
   ·exact .inl e
   ·by_cases e2:b ∈ ts
    ·exact .inr e2
    ·exact absurd (off e2 e) z
  ·by_cases e2:b ∈ ts
   ·rw[on e2] at tracked
    cases tracked
    exact tAt b e2
   ·by_cases e:b=a
    ·subst e
     rw[at_a] at tracked
     injection tracked with tracked
     subst tracked
     refine⟨script,?_⟩
     refine⟨?_,vs,_,vals,script⟩
     rw[qq]
     exact few
    ·rw[off e2 e] at tracked
     cases tracked
  ·by_cases e2:b ∈ ts
   ·rw[notK b e2] at q
    cases q
   ·refine off e2 ?_
    rintro rfl
    rw[fresh] at q
    cases q
theorem walk_ofET {l:PySem.W.OpenLaw} {n k:Nat} {q:Program} {loose:List Str} {XP:(Str->Option Value)->Heap->Prop} {YP:World->Heap->Prop} {d:DefRec} {x:Str} {sp:qk->Sp} {ta:qk->List Addr} (most:l.most=some n)
  (few:n<=sizeLine) (nod:d.params.defaults=[]) (room:Room k callerA)
  (top:∀ (w:World) (mg:Str->Option Value) (fa:Addr) (h:Heap),YP w h->h.Ns mainGlobals mg->mg d.name=some (.ref fa)->∃ (K:qk) (fd:FuncData),K.In h/\(∀ a ∈ ta K,TabK K a/\h.get? (tabA K a)=some tabO)/\(∀ (s:Shared) (u:Value),BindsTo s fd ⟨[u],[]⟩ [(x,u)]) /\
   ∀ base:Heap,K.In base->base.Ns mainGlobals mg->(∀ a ∈ ta K,LamX.TabB base mg (codeA K a) (tabA K a))->FnG l.prog w K mg base CX0 k fa fd [x] (sp K))
  (asks:∀ (K:qk) (H:Hp) (a:Addr) (ns:List Int),ns.length<=n->(∀ b ∈ ta K,H (tabA K b)=some (.tbl #[]))->SqL K H a (ns.map V.int)->sp K [.ref a] H (λv _=>v = .bl true) λ_ _ _=>False):PySem.W.WalkO q loose XP YP l.row.toRowW d [] (λf vs=>PySem.call f vs):=by
 apply Att.attach_call most nod
 intro w s₀ s mg mb fa o pm cd doc a vs ns G Y _ _ _ named obj nums len gens
 obtain⟨K,fd,inK,tabs,bound,F⟩:=top w mg fa s.heap Y G.T.g named
 have of:∀ p ∈ (ta K).map (λa=>(codeA K a,tabA K a)),∃ b ∈ ta K,p=(codeA K b,tabA K b):=λp hp=>by
  obtain⟨b,hb,e⟩:=jc.mp hp
  exact⟨b,hb,e.symm⟩
 refine EY (cs:=(ta K).map λa=>(codeA K a,tabA K a)) inK G.T.g G.T.b G.T.builtins G.T.nolimit gens (λp hp=>?_) (λp hp=>?_) (λp hp=>?_) G.T.bmain obj nums (jb len few) room (λbase i n t=>F base i n λa ha=>t _ (jc.mpr ⟨a,ha,rfl⟩)) bound (λH ht seq=>asks K H a ns len (λb hb=>ht _ (jc.mpr ⟨b,hb,rfl⟩)) seq) (λ_ _ _ z=>z)
 ·obtain⟨b,hb,rfl⟩:=of p hp
  exact(tabs b hb).2
 ·obtain⟨b,hb,rfl⟩:=of p hp
  exact(tabs b hb).1.out
 ·obtain⟨b,hb,rfl⟩:=of p hp
  exact PySem.W.codeHd_of_K inK (tabs b hb).1.hd
end Cp
namespace Mi
open PySem PySem.Spec
open PyProof.Rows L2 Cp
noncomputable section
def top (i:Nat):Stmt := PySem.Challenge.pw_counterpost_k19_plain_refused.main.body.getD i (.Pass ⟨0,0,0,0⟩)
abbrev jR:Stmt:=inClass (top 11) 0
abbrev JZ:List Str:=["self", "most"]
abbrev xW:List Str:=["self", "most"]
theorem qF:FnScope JZ xW (defScope jR):=qi
abbrev bS:Stmt:=inClass (top 6) 0
abbrev bI:List Str:=["self", "name"]
abbrev G8:List Str:=["self", "name"]
theorem MS:FnScope bI G8 (defScope bS):=qi
abbrev n7:Stmt:=inClass (top 13) 0
abbrev SV:List Str:=["self", "word"]
abbrev mR:List Str:=["self", "word"]
theorem vK:FnScope SV mR (defScope n7):=qi
abbrev P2:Stmt:=inClass (top 5) 0
abbrev MW:List Str:=["self", "at"]
abbrev LH:List Str:=["self", "at"]
theorem mG:FnScope MW LH (defScope P2):=qi
abbrev YM:Stmt:=top 50
abbrev G7:List Str:=["_law_script", "_law_cell"]
abbrev rT:List Str:=["_law_script"]
theorem uF:FnScope G7 rT (defScope YM):=qi
abbrev D9:Stmt:=top 51
abbrev gS:List Str:=["_law_state", "_law_many", "_law_found", "_law_turn", "_law_cell", "_law_seed", "_law_mixed"]
abbrev zQ:List Str:=["_law_state", "_law_many"]
theorem IR:FnScope gS zQ (defScope D9):=qi
abbrev EB:Stmt:=top 52
abbrev oH:List Str:=["_law_state", "_law_some"]
abbrev BI:List Str:=["_law_state", "_law_some"]
theorem oI:FnScope oH BI (defScope EB):=qi
abbrev sW:Stmt:=top 22
abbrev AS:List Str:=["thing", "low", "high"]
abbrev BR:List Str:=["thing", "low", "high"]
theorem tP:FnScope AS BR (defScope sW):=qi
abbrev iX:Stmt:=top 23
abbrev mQ:List Str:=["thing"]
abbrev MH:List Str:=["thing"]
theorem wY:FnScope mQ MH (defScope iX):=qi
abbrev JD:Stmt:=top 24
abbrev GD:List Str:=["thing", "sign"]
abbrev nX:List Str:=["thing"]
theorem nO:FnScope GD nX (defScope JD):=qi
abbrev SO:Stmt:=inClass (top 25) 0
abbrev dY:List Str:=["self", "name", "cells", "rules"]
abbrev zJ:List Str:=["self", "name", "cells", "rules"]
theorem oK:FnScope dY zJ (defScope SO):=qi
abbrev mU:Stmt:=top 26
abbrev CO:List Str:=["told", "word", "parts", "part", "k"]
abbrev M7:List Str:=["told"]
theorem nH:FnScope CO M7 (defScope mU):=qi
abbrev bT:Stmt:=top 53
abbrev yW:List Str:=["_law_state"]
abbrev gY:List Str:=["_law_state"]
theorem DB:FnScope yW gY (defScope bT):=qi
abbrev iG:Stmt:=top 54
abbrev XJ:List Str:=["_law_state", "_law_many", "_law_own", "_law_found", "_law_turn", "_law_name", "_law_sign", "_law_spare", "_law_one"]
abbrev kA:List Str:=["_law_state", "_law_many"]
theorem EF:FnScope XJ kA (defScope iG):=qi
abbrev pF:Stmt:=top 55
abbrev uG:List Str:=["_law_state", "_law_many", "_law_deep", "_law_kind", "_law_own", "_law_one"]
abbrev EJ:List Str:=["_law_state", "_law_many", "_law_deep"]
theorem wJY:FnScope uG EJ (defScope pF):=qi
abbrev LJ:Stmt:=top 39
abbrev UH:List Str:=["A", "letter", "cells", "word", "parts", "one", "other", "part"]
abbrev uB:List Str:=["A", "letter", "cells"]
theorem C8:FnScope UH uB (defScope LJ):=qi
abbrev wM:Stmt:=top 27
abbrev JU:List Str:=["step", "word", "parts"]
abbrev hC:List Str:=["step"]
theorem eV:FnScope JU hC (defScope wM):=qi
abbrev DP:Stmt:=top 28
abbrev FV:List Str:=["steps", "found", "step"]
abbrev pE:List Str:=["steps"]
theorem o9:FnScope FV pE (defScope DP):=qi
abbrev SI:Stmt:=top 29
abbrev kP:List Str:=["step", "every", "word", "house", "kind", "delay", "told"]
abbrev cF:List Str:=["step", "every"]
theorem FA:FnScope kP cF (defScope SI):=qi
abbrev V2:Stmt:=top 30
abbrev qJ:List Str:=["house", "elder", "every", "many", "cell", "kinds", "kind", "steps", "step", "k"]
abbrev K7:List Str:=["house", "elder", "every"]
theorem LW:FnScope qJ K7 (defScope V2):=qi
abbrev cX:Stmt:=inClass (top 31) 0
abbrev E1:List Str:=["self", "houses", "every", "house", "at", "word"]
abbrev rA:List Str:=["self", "houses"]
theorem IO:FnScope E1 rA (defScope cX):=qi
abbrev zM:Stmt:=top 32
abbrev FR:List Str:=["plan", "house"]
abbrev NK:List Str:=["plan"]
theorem vQ:FnScope FR NK (defScope zM):=qi
abbrev tI:Stmt:=top 35
abbrev iIW:List Str:=["letter", "time", "to", "kind", "number", "sender", "sent", "place", "turn"]
abbrev nG:List Str:=["letter"]
abbrev pU:Stmt:=top 36
abbrev FW:List Str:=["plan", "thing", "time", "to", "kind", "number"]
abbrev uW:List Str:=["plan", "thing"]
theorem KS:FnScope FW uW (defScope pU):=qi
abbrev GA:Stmt:=top 37
abbrev V4:List Str:=["plan", "letters", "at", "thing"]
abbrev QY:List Str:=["plan", "letters"]
theorem aA:FnScope V4 QY (defScope GA):=qi
abbrev P1:Stmt:=top 40
abbrev UV:List Str:=["plan", "letter", "time", "to", "kind", "rest", "rules", "house", "word", "steps"]
abbrev XG:List Str:=["plan", "letter"]
theorem iD:FnScope UV XG (defScope P1):=qi
abbrev kY:Stmt:=inClass (top 41) 0
abbrev T8:List Str:=["self", "letter", "cells", "place"]
abbrev VN:List Str:=["self", "letter", "cells", "place"]
theorem lJ:FnScope T8 VN (defScope kY):=qi
abbrev GO:Stmt:=inClass (top 41) 1
abbrev jV:List Str:=["self", "A"]
abbrev sV:List Str:=["self", "A"]
theorem GQ:FnScope jV sV (defScope GO):=qi
abbrev rB:Stmt:=inClass (top 41) 4
abbrev aI:List Str:=["self", "k", "A"]
abbrev gK:List Str:=["self", "k", "A"]
theorem ER:FnScope aI gK (defScope rB):=qi
abbrev CH:Stmt:=inClass (top 41) 5
abbrev EK:List Str:=["self", "k", "A"]
abbrev qH:List Str:=["self", "k", "A"]
theorem UJ:FnScope EK qH (defScope CH):=qi
abbrev NQ:Stmt:=inClass (top 41) 3
abbrev lG:List Str:=["self", "word", "k", "other"]
abbrev gF:List Str:=["self", "word", "k", "other"]
theorem E6:FnScope lG gF (defScope NQ):=qi
abbrev SN:Stmt:=inClass (top 41) 6
abbrev RW:List Str:=["self", "A", "first", "second"]
abbrev JE:List Str:=["self", "A", "first", "second"]
theorem J6:FnScope RW JE (defScope SN):=qi
abbrev mD:Stmt:=inClass (top 41) 7
abbrev sA:List Str:=["self", "parts", "to", "kind", "delay", "A", "time", "own", "rest"]
abbrev JR:List Str:=["self", "parts"]
theorem kS:FnScope sA JR (defScope mD):=qi
abbrev gN:Stmt:=inClass (top 41) 2
abbrev UN:List Str:=["self", "steps", "word", "parts", "A", "first", "second", "k", "other"]
abbrev bY:List Str:=["self", "steps"]
theorem eT:FnScope UN bY (defScope gN):=qi
abbrev QX:Stmt:=inClass (top 41) 8
abbrev zG:List Str:=["self"]
abbrev nM:List Str:=["self"]
theorem ZO:FnScope zG nM (defScope QX):=qi
abbrev y8:Stmt:=top 42
abbrev Z5:List Str:=["plan", "letter", "cells", "place", "doing"]
abbrev NZ:List Str:=["plan", "letter", "cells", "place"]
theorem O8:FnScope Z5 NZ (defScope y8):=qi
abbrev BE:Stmt:=top 47
abbrev FD:List Str:=["thing"]
abbrev YB:List Str:=["thing"]
theorem SG:FnScope FD YB (defScope BE):=qi
abbrev lI:Stmt:=inClass (top 48) 0
abbrev YA:List Str:=["self", "plan", "letters", "until", "house"]
abbrev XN:List Str:=["self", "plan", "letters", "until"]
theorem M5:FnScope YA XN (defScope lI):=qi
abbrev QV:Stmt:=inClass (top 48) 1
abbrev LF:List Str:=["self", "letter", "time", "to", "rest", "one"]
abbrev jB:List Str:=["self", "letter"]
theorem qU:FnScope LF jB (defScope QV):=qi
abbrev AE:Stmt:=inClass (top 48) 8
abbrev ST:List Str:=["self", "times", "letter"]
abbrev KO:List Str:=["self"]
theorem wN:FnScope ST KO (defScope AE):=qi
abbrev gH:Stmt:=inClass (top 48) 2
abbrev eX:List Str:=["self", "letter", "time", "to", "rest", "sends", "tells", "one"]
abbrev PH:List Str:=["self"]
theorem x0:FnScope eX PH (defScope gH):=qi
abbrev U2:Stmt:=inClass (top 48) 3
abbrev yJ:List Str:=["self"]
abbrev FH:List Str:=["self"]
theorem dD:FnScope yJ FH (defScope U2):=qi
abbrev OG:Stmt:=inClass (top 48) 5
abbrev BC:List Str:=["self", "house"]
abbrev WV:List Str:=["self", "house"]
theorem LX:FnScope BC WV (defScope OG):=qi
abbrev Y9:Stmt:=inClass (top 48) 6
abbrev pB:List Str:=["self"]
abbrev u6:List Str:=["self"]
theorem pO:FnScope pB u6 (defScope Y9):=qi
abbrev NE:Stmt:=top 56
abbrev wH:List Str:=["_law_state", "_law_kit", "_law_late", "_law_goal", "_law_kind"]
abbrev V1:List Str:=["_law_state", "_law_kit"]
theorem pG:FnScope wH V1 (defScope NE):=qi
abbrev Q1:Stmt:=top 57
abbrev WY:List Str:=["_law_state", "_law_kit", "_law_deep", "_law_found", "_law_turn"]
abbrev wB:List Str:=["_law_state", "_law_kit", "_law_deep"]
theorem DT:FnScope WY wB (defScope Q1):=qi
abbrev IY:Stmt:=top 58
abbrev xB:List Str:=["_law_state", "_law_kit", "_law_deep", "_law_kind", "_law_k", "_law_own", "_law_one"]
abbrev Q6:List Str:=["_law_state", "_law_kit", "_law_deep"]
theorem P3:FnScope xB Q6 (defScope IY):=qi
abbrev VJ:Stmt:=top 59
abbrev FM:List Str:=["_law_state", "_law_kit", "_law_found", "_law_kind", "_law_lead"]
abbrev UE:List Str:=["_law_state", "_law_kit"]
theorem pR:FnScope FM UE (defScope VJ):=qi
abbrev NA:Stmt:=top 60
abbrev OI:List Str:=["_law_state", "_law_most", "_law_places", "_law_kinds", "_law_found", "_law_name", "_law_many", "_law_kit", "_law_k"]
abbrev j8:List Str:=["_law_state", "_law_most"]
theorem zR:FnScope OI j8 (defScope NA):=qi
abbrev dM:Stmt:=top 61
abbrev BL:List Str:=["_law_net_here", "_law_name", "_law_held", "_law_rules_here"]
abbrev zX:List Str:=["_law_net_here"]
theorem UR:FnScope BL zX (defScope dM):=qi
abbrev HJ:Stmt:=top 62
abbrev NO:List Str:=["_law_work", "_law_e", "_law_one", "_law_kinds"]
abbrev qM:List Str:=["_law_work"]
theorem jS:FnScope NO qM (defScope HJ):=qi
abbrev JC:Stmt:=top 63
abbrev X5:List Str:=["_law_state", "_law_one", "_law_time", "_law_goal", "_law_kind", "_law_number", "_law_some"]
abbrev K9:List Str:=["_law_state", "_law_one"]
theorem bR:FnScope X5 K9 (defScope JC):=qi
abbrev K8:Stmt:=top 64
abbrev LZ:List Str:=["_law_state", "_law_net_here", "_law_kinds", "_law_handed_in", "_law_turn", "_law_time", "_law_due", "_law_stop", "_law_at", "_law_more"]
abbrev qS:List Str:=["_law_state", "_law_net_here", "_law_kinds"]
theorem vF:FnScope LZ qS (defScope K8):=qi
abbrev DY:Stmt:=top 65
abbrev sB:List Str:=["_law_state", "_law_double", "_law_stop", "_law_name", "_law_kind", "_law_sending", "_law_steps_here", "_law_run", "_law_due", "_law_turn"]
abbrev CT:List Str:=["_law_state"]
theorem iO:FnScope sB CT (defScope DY):=qi
abbrev vN:Stmt:=top 66
abbrev sM:List Str:=["_law_script", "_law_state", "_law_net_here", "_law_kinds", "_law_turn", "_law_run", "_law_odd"]
abbrev N6:List Str:=["_law_script"]
theorem J5:FnScope sM N6 (defScope vN):=qi
abbrev IZ (K:qk):Addr:=He.ma K (He.ga K "TooMany") "__init__"
abbrev bC (K:qk):Addr:=He.ma K (He.ga K "NoHouse") "__init__"
abbrev FK (K:qk):Addr:=He.ma K (He.ga K "NoChoice") "__init__"
abbrev WL (K:qk):Addr:=He.ma K (He.ga K "NoFirst") "__init__"
abbrev UY (K:qk):Addr:=He.ga K "_law_begun"
abbrev XR (K:qk):Addr:=He.ga K "_law_take"
abbrev nP (K:qk):Addr:=He.ga K "_law_pick"
abbrev xD (K:qk):Addr:=He.ga K "is_number"
abbrev uP (K:qk):Addr:=He.ga K "is_worth"
abbrev xJ (K:qk):Addr:=He.ga K "is_name"
abbrev NW (K:qk):Addr:=He.ma K (He.ga K "House") "__init__"
abbrev pS (K:qk):Addr:=He.ga K "cells_in"
abbrev jM (K:qk):Addr:=He.ga K "_law_worth"
abbrev VE (K:qk):Addr:=He.ga K "_law_words"
abbrev RK (K:qk):Addr:=He.ga K "_law_sum"
abbrev gZ (K:qk):Addr:=He.ga K "reckoned"
abbrev sL (K:qk):Addr:=He.ga K "cells_of"
abbrev aC (K:qk):Addr:=He.ga K "all_steps"
abbrev HY (K:qk):Addr:=He.ga K "is_send"
abbrev cL (K:qk):Addr:=He.ga K "flaw_of_house"
abbrev zT (K:qk):Addr:=He.ma K (He.ga K "Plan") "__init__"
abbrev dB (K:qk):Addr:=He.ga K "names"
abbrev W6 (K:qk):Addr:=He.ga K "order"
abbrev jO (K:qk):Addr:=He.ga K "is_first"
abbrev A1 (K:qk):Addr:=He.ga K "firsts"
abbrev I8 (K:qk):Addr:=He.ga K "steps_for"
abbrev hX (K:qk):Addr:=He.ma K (He.ga K "Doing") "__init__"
abbrev ML (K:qk):Addr:=He.ma K (He.ga K "Doing") "reckon"
abbrev C3 (K:qk):Addr:=He.ma K (He.ga K "Doing") "put"
abbrev wA (K:qk):Addr:=He.ma K (He.ga K "Doing") "add"
abbrev MP (K:qk):Addr:=He.ma K (He.ga K "Doing") "change"
abbrev UD (K:qk):Addr:=He.ma K (He.ga K "Doing") "way"
abbrev jA (K:qk):Addr:=He.ma K (He.ga K "Doing") "send"
abbrev X4 (K:qk):Addr:=He.ma K (He.ga K "Doing") "do_all"
abbrev cR (K:qk):Addr:=He.ma K (He.ga K "Doing") "found"
abbrev DO (K:qk):Addr:=He.ga K "reaction"
abbrev lH (K:qk):Addr:=He.ga K "is_until"
abbrev BB (K:qk):Addr:=He.ma K (He.ga K "Plain") "__init__"
abbrev i6 (K:qk):Addr:=He.ma K (He.ga K "Plain") "place_of"
abbrev o6 (K:qk):Addr:=He.ma K (He.ga K "Plain") "next_time"
abbrev TL (K:qk):Addr:=He.ma K (He.ga K "Plain") "step"
abbrev xN (K:qk):Addr:=He.ma K (He.ga K "Plain") "run"
abbrev X1 (K:qk):Addr:=He.ma K (He.ga K "Plain") "cells_of"
abbrev mL (K:qk):Addr:=He.ma K (He.ga K "Plain") "done"
abbrev Z1 (K:qk):Addr:=He.ga K "_law_send"
abbrev HG (K:qk):Addr:=He.ga K "_law_steps"
abbrev nS (K:qk):Addr:=He.ga K "_law_step"
abbrev AM (K:qk):Addr:=He.ga K "_law_rules"
abbrev AV (K:qk):Addr:=He.ga K "_law_net"
abbrev ZI (K:qk):Addr:=He.ga K "_law_built"
abbrev ME (K:qk):Addr:=He.ga K "_law_refused"
abbrev UC (K:qk):Addr:=He.ga K "_law_spoilt"
abbrev KQ (K:qk):Addr:=He.ga K "_law_begins"
abbrev lM (K:qk):Addr:=He.ga K "_law_long"
abbrev JS (K:qk):Addr:=He.ga K "law"
abbrev C2 (K:qk):Addr:=He.ga K "House"
abbrev BO (K:qk):Addr:=He.ga K "Plan"
abbrev uX (K:qk):Addr:=He.ga K "Doing"
abbrev HB (K:qk):Addr:=He.ga K "Plain"
abbrev fB (K:qk):Addr:=He.ga K "Idle"
abbrev qV (K:qk):Addr:=He.ga K "NoChoice"
abbrev eZ (K:qk):Addr:=He.ga K "NoFirst"
abbrev qG (K:qk):Addr:=He.ga K "NoHouse"
abbrev YR (K:qk):Addr:=He.ga K "NoLog"
abbrev fT (K:qk):Addr:=He.ga K "NoPlace"
abbrev GZ (K:qk):Addr:=He.ga K "NoPlan"
abbrev mX (K:qk):Addr:=He.ga K "NoRoom"
abbrev QL (K:qk):Addr:=He.ga K "NoText"
abbrev qP (K:qk):Addr:=He.ga K "PostError"
abbrev aB (K:qk):Addr:=He.ga K "TooFar"
abbrev fZ (K:qk):Addr:=He.ga K "TooMany"
def bQT:List He.DefD:=[
  ⟨("TooMany",some "__init__"), "__init__", "TooMany.__init__",defArgs jR,defBody jR,defScope jR,[],[]⟩,
  ⟨("NoHouse",some "__init__"), "__init__", "NoHouse.__init__",defArgs bS,defBody bS,defScope bS,[],[]⟩,
  ⟨("NoChoice",some "__init__"), "__init__", "NoChoice.__init__",defArgs n7,defBody n7,defScope n7,[],[]⟩,
  ⟨("NoFirst",some "__init__"), "__init__", "NoFirst.__init__",defArgs P2,defBody P2,defScope P2,[],[]⟩,
  ⟨("_law_begun",none), "_law_begun", "_law_begun",defArgs YM,defBody YM,defScope YM,[],[]⟩,
  ⟨("_law_take",none), "_law_take", "_law_take",defArgs D9,defBody D9,defScope D9,[],[]⟩,
  ⟨("_law_pick",none), "_law_pick", "_law_pick",defArgs EB,defBody EB,defScope EB,[],[]⟩,
  ⟨("is_number",none), "is_number", "is_number",defArgs sW,defBody sW,defScope sW,[],[]⟩,
  ⟨("is_worth",none), "is_worth", "is_worth",defArgs iX,defBody iX,defScope iX,[],[]⟩,
  ⟨("is_name",none), "is_name", "is_name",defArgs JD,defBody JD,defScope JD,[],[]⟩,
  ⟨("House",some "__init__"), "__init__", "House.__init__",defArgs SO,defBody SO,defScope SO,[],[]⟩,
  ⟨("cells_in",none), "cells_in", "cells_in",defArgs mU,defBody mU,defScope mU,[],[]⟩,
  ⟨("_law_worth",none), "_law_worth", "_law_worth",defArgs bT,defBody bT,defScope bT,[],[]⟩,
  ⟨("_law_words",none), "_law_words", "_law_words",defArgs iG,defBody iG,defScope iG,[],[]⟩,
  ⟨("_law_sum",none), "_law_sum", "_law_sum",defArgs pF,defBody pF,defScope pF,[],[]⟩,
  ⟨("reckoned",none), "reckoned", "reckoned",defArgs LJ,defBody LJ,defScope LJ,[],[]⟩,
  ⟨("cells_of",none), "cells_of", "cells_of",defArgs wM,defBody wM,defScope wM,[],[]⟩,
  ⟨("all_steps",none), "all_steps", "all_steps",defArgs DP,defBody DP,defScope DP,[],[]⟩,
  ⟨("is_send",none), "is_send", "is_send",defArgs SI,defBody SI,defScope SI,[],[]⟩,
  ⟨("flaw_of_house",none), "flaw_of_house", "flaw_of_house",defArgs V2,defBody V2,defScope V2,[],[]⟩]
def UGm:List He.DefD:=[
  ⟨("Plan",some "__init__"), "__init__", "Plan.__init__",defArgs cX,defBody cX,defScope cX,[],[]⟩,
  ⟨("names",none), "names", "names",defArgs zM,defBody zM,defScope zM,[],[]⟩,
  ⟨("order",none), "order", "order",defArgs tI,defBody tI,defScope tI,[],[]⟩,
  ⟨("is_first",none), "is_first", "is_first",defArgs pU,defBody pU,defScope pU,[],[]⟩,
  ⟨("firsts",none), "firsts", "firsts",defArgs GA,defBody GA,defScope GA,[],[]⟩,
  ⟨("steps_for",none), "steps_for", "steps_for",defArgs P1,defBody P1,defScope P1,[],[]⟩,
  ⟨("Doing",some "__init__"), "__init__", "Doing.__init__",defArgs kY,defBody kY,defScope kY,[],[]⟩,
  ⟨("Doing",some "reckon"), "reckon", "Doing.reckon",defArgs GO,defBody GO,defScope GO,[],[]⟩,
  ⟨("Doing",some "put"), "put", "Doing.put",defArgs rB,defBody rB,defScope rB,[],[]⟩,
  ⟨("Doing",some "add"), "add", "Doing.add",defArgs CH,defBody CH,defScope CH,[],[]⟩,
  ⟨("Doing",some "change"), "change", "Doing.change",defArgs NQ,defBody NQ,defScope NQ,[],[]⟩,
  ⟨("Doing",some "way"), "way", "Doing.way",defArgs SN,defBody SN,defScope SN,[],[]⟩,
  ⟨("Doing",some "send"), "send", "Doing.send",defArgs mD,defBody mD,defScope mD,[],[]⟩,
  ⟨("Doing",some "do_all"), "do_all", "Doing.do_all",defArgs gN,defBody gN,defScope gN,[],[]⟩,
  ⟨("Doing",some "found"), "found", "Doing.found",defArgs QX,defBody QX,defScope QX,[],[]⟩,
  ⟨("reaction",none), "reaction", "reaction",defArgs y8,defBody y8,defScope y8,[],[]⟩,
  ⟨("is_until",none), "is_until", "is_until",defArgs BE,defBody BE,defScope BE,[],[]⟩,
  ⟨("Plain",some "__init__"), "__init__", "Plain.__init__",defArgs lI,defBody lI,defScope lI,[],[("until",.int 60)]⟩,
  ⟨("Plain",some "place_of"), "place_of", "Plain.place_of",defArgs QV,defBody QV,defScope QV,[],[]⟩,
  ⟨("Plain",some "next_time"), "next_time", "Plain.next_time",defArgs AE,defBody AE,defScope AE,[],[]⟩]
def tF3:List He.DefD:=[
  ⟨("Plain",some "step"), "step", "Plain.step",defArgs gH,defBody gH,defScope gH,[],[]⟩,
  ⟨("Plain",some "run"), "run", "Plain.run",defArgs U2,defBody U2,defScope U2,[],[]⟩,
  ⟨("Plain",some "cells_of"), "cells_of", "Plain.cells_of",defArgs OG,defBody OG,defScope OG,[],[]⟩,
  ⟨("Plain",some "done"), "done", "Plain.done",defArgs Y9,defBody Y9,defScope Y9,[],[]⟩,
  ⟨("_law_send",none), "_law_send", "_law_send",defArgs NE,defBody NE,defScope NE,[],[]⟩,
  ⟨("_law_steps",none), "_law_steps", "_law_steps",defArgs Q1,defBody Q1,defScope Q1,[],[]⟩,
  ⟨("_law_step",none), "_law_step", "_law_step",defArgs IY,defBody IY,defScope IY,[],[]⟩,
  ⟨("_law_rules",none), "_law_rules", "_law_rules",defArgs VJ,defBody VJ,defScope VJ,[],[]⟩,
  ⟨("_law_net",none), "_law_net", "_law_net",defArgs NA,defBody NA,defScope NA,[],[]⟩,
  ⟨("_law_built",none), "_law_built", "_law_built",defArgs dM,defBody dM,defScope dM,[],[]⟩,
  ⟨("_law_refused",none), "_law_refused", "_law_refused",defArgs HJ,defBody HJ,defScope HJ,[],[]⟩,
  ⟨("_law_spoilt",none), "_law_spoilt", "_law_spoilt",defArgs JC,defBody JC,defScope JC,[],[]⟩,
  ⟨("_law_begins",none), "_law_begins", "_law_begins",defArgs K8,defBody K8,defScope K8,[],[]⟩,
  ⟨("_law_long",none), "_law_long", "_law_long",defArgs DY,defBody DY,defScope DY,[],[]⟩,
  ⟨("law",none), "law", "law",defArgs vN,defBody vN,defScope vN,[],[]⟩]
def hfn:List He.DefD:=bQT++(UGm++(tF3))
def KNm (K:qk):List Bool:=[
  decide (ql K (.ref (fZ K)) "__init__" = some (some (.ref (IZ K)))),
  jx K (.ref (IZ K)),
  decide (ql K (.ref (qG K)) "__init__" = some (some (.ref (bC K)))),
  jx K (.ref (bC K)),
  decide (ql K (.ref (qV K)) "__init__" = some (some (.ref (FK K)))),
  jx K (.ref (FK K)),
  decide (ql K (.ref (eZ K)) "__init__" = some (some (.ref (WL K)))),
  jx K (.ref (WL K)),
  decide (qx K mainGlobals "_law_begun" = some (some (.ref (UY K)))),
  decide (qx K mainGlobals "_law_take" = some (some (.ref (XR K)))),
  decide (qx K mainGlobals "_law_pick" = some (some (.ref (nP K)))),
  decide (qx K mainGlobals "is_number" = some (some (.ref (xD K)))),
  decide (qx K mainGlobals "is_worth" = some (some (.ref (uP K)))),
  decide (qx K mainGlobals "is_name" = some (some (.ref (xJ K)))),
  decide (ql K (.ref (C2 K)) "__init__" = some (some (.ref (NW K)))),
  jx K (.ref (NW K)),
  decide (qx K mainGlobals "cells_in" = some (some (.ref (pS K)))),
  decide (qx K mainGlobals "_law_worth" = some (some (.ref (jM K)))),
  decide (qx K mainGlobals "_law_words" = some (some (.ref (VE K)))),
  decide (qx K mainGlobals "_law_sum" = some (some (.ref (RK K)))),
  decide (qx K mainGlobals "reckoned" = some (some (.ref (gZ K)))),
  decide (qx K mainGlobals "cells_of" = some (some (.ref (sL K)))),
  decide (qx K mainGlobals "all_steps" = some (some (.ref (aC K)))),
  decide (qx K mainGlobals "is_send" = some (some (.ref (HY K)))),
  decide (qx K mainGlobals "flaw_of_house" = some (some (.ref (cL K)))),
  decide (ql K (.ref (BO K)) "__init__" = some (some (.ref (zT K)))),
  jx K (.ref (zT K)),
  decide (qx K mainGlobals "names" = some (some (.ref (dB K)))),
  decide (qx K mainGlobals "order" = some (some (.ref (W6 K)))),
  decide (qx K mainGlobals "is_first" = some (some (.ref (jO K)))),
  decide (qx K mainGlobals "firsts" = some (some (.ref (A1 K)))),
  decide (qx K mainGlobals "steps_for" = some (some (.ref (I8 K)))),
  decide (ql K (.ref (uX K)) "__init__" = some (some (.ref (hX K)))),
  jx K (.ref (hX K)),
  decide (ql K (.ref (uX K)) "reckon" = some (some (.ref (ML K)))),
  jx K (.ref (ML K)),
  decide (ql K (.ref (uX K)) "put" = some (some (.ref (C3 K)))),
  jx K (.ref (C3 K)),
  decide (ql K (.ref (uX K)) "add" = some (some (.ref (wA K)))),
  jx K (.ref (wA K))]
def VYa (K:qk):List Bool:=[
  decide (ql K (.ref (uX K)) "change" = some (some (.ref (MP K)))),
  jx K (.ref (MP K)),
  decide (ql K (.ref (uX K)) "way" = some (some (.ref (UD K)))),
  jx K (.ref (UD K)),
  decide (ql K (.ref (uX K)) "send" = some (some (.ref (jA K)))),
  jx K (.ref (jA K)),
  decide (ql K (.ref (uX K)) "do_all" = some (some (.ref (X4 K)))),
  jx K (.ref (X4 K)),
  decide (ql K (.ref (uX K)) "found" = some (some (.ref (cR K)))),
  jx K (.ref (cR K)),
  decide (qx K mainGlobals "reaction" = some (some (.ref (DO K)))),
  decide (qx K mainGlobals "is_until" = some (some (.ref (lH K)))),
  decide (ql K (.ref (HB K)) "__init__" = some (some (.ref (BB K)))),
  jx K (.ref (BB K)),
  decide (ql K (.ref (HB K)) "place_of" = some (some (.ref (i6 K)))),
  jx K (.ref (i6 K)),
  decide (ql K (.ref (HB K)) "next_time" = some (some (.ref (o6 K)))),
  jx K (.ref (o6 K)),
  decide (ql K (.ref (HB K)) "step" = some (some (.ref (TL K)))),
  jx K (.ref (TL K)),
  decide (ql K (.ref (HB K)) "run" = some (some (.ref (xN K)))),
  jx K (.ref (xN K)),
  decide (ql K (.ref (HB K)) "cells_of" = some (some (.ref (X1 K)))),
  jx K (.ref (X1 K)),
  decide (ql K (.ref (HB K)) "done" = some (some (.ref (mL K)))),
  jx K (.ref (mL K)),
  decide (qx K mainGlobals "_law_send" = some (some (.ref (Z1 K)))),
  decide (qx K mainGlobals "_law_steps" = some (some (.ref (HG K)))),
  decide (qx K mainGlobals "_law_step" = some (some (.ref (nS K)))),
  decide (qx K mainGlobals "_law_rules" = some (some (.ref (AM K)))),
  decide (qx K mainGlobals "_law_net" = some (some (.ref (AV K)))),
  decide (qx K mainGlobals "_law_built" = some (some (.ref (ZI K)))),
  decide (qx K mainGlobals "_law_refused" = some (some (.ref (ME K)))),
  decide (qx K mainGlobals "_law_spoilt" = some (some (.ref (UC K)))),
  decide (qx K mainGlobals "_law_begins" = some (some (.ref (KQ K)))),
  decide (qx K mainGlobals "_law_long" = some (some (.ref (lM K)))),
  decide (qx K mainGlobals "law" = some (some (.ref (JS K)))),
  decide (ql K (.ref (C2 K)) "name" = some none),
  decide (ql K (.ref (C2 K)) "cells" = some none),
  decide (ql K (.ref (C2 K)) "rules" = some none)]
def pJy (K:qk):List Bool:=[
  decide (qx K mainGlobals "House" = some (some (.ref (C2 K)))),
  PySem.W.plainGet K (C2 K) Str.empty,
  jr K (C2 K),
  PySem.W.plainOver K (C2 K),
  decide (ql K (.ref (C2 K)) "__setattr__" = some (some (.builtin "object.__setattr__"))),
  PySem.W.makesIn K (C2 K),
  zt K (.ref (C2 K)),
  decide (ql K (.ref (BO K)) "houses" = some none),
  decide (qx K mainGlobals "Plan" = some (some (.ref (BO K)))),
  PySem.W.plainGet K (BO K) Str.empty,
  jr K (BO K),
  PySem.W.plainOver K (BO K),
  decide (ql K (.ref (BO K)) "__setattr__" = some (some (.builtin "object.__setattr__"))),
  PySem.W.makesIn K (BO K),
  zt K (.ref (BO K)),
  decide (ql K (.ref (uX K)) "letter" = some none),
  decide (ql K (.ref (uX K)) "cells" = some none),
  decide (ql K (.ref (uX K)) "place" = some none),
  decide (ql K (.ref (uX K)) "sends" = some none),
  decide (ql K (.ref (uX K)) "tells" = some none),
  decide (qx K mainGlobals "Doing" = some (some (.ref (uX K)))),
  PySem.W.plainGet K (uX K) Str.empty,
  jr K (uX K),
  PySem.W.plainOver K (uX K),
  decide (ql K (.ref (uX K)) "__setattr__" = some (some (.builtin "object.__setattr__"))),
  PySem.W.makesIn K (uX K),
  zt K (.ref (uX K)),
  decide (ql K (.ref (HB K)) "left" = some none),
  decide (ql K (.ref (HB K)) "plan" = some none),
  decide (ql K (.ref (HB K)) "until" = some none),
  decide (ql K (.ref (HB K)) "kept" = some none),
  decide (ql K (.ref (HB K)) "past" = some none),
  decide (ql K (.ref (HB K)) "heard" = some none),
  decide (qx K mainGlobals "Plain" = some (some (.ref (HB K)))),
  PySem.W.plainGet K (HB K) Str.empty,
  jr K (HB K),
  PySem.W.plainOver K (HB K),
  decide (ql K (.ref (HB K)) "__setattr__" = some (some (.builtin "object.__setattr__"))),
  PySem.W.makesIn K (HB K),
  zt K (.ref (HB K))]
def MNF (K:qk):List Bool:=[
  (He.Fa.int "MODULUS" 1000003).ok K,
  (He.Fa.str "LETTERS" "abcdefghijklmnopqrstuvwxyz").ok K,
  (He.Fa.int "LONGEST" 6).ok K,
  (He.Fa.int "MOST_CELLS" 4).ok K,
  (He.Fa.int "MOST_HOUSES" 6).ok K,
  (He.Fa.int "MOST_DELAY" 20).ok K,
  (He.Fa.int "MOST_TIME" 1000).ok K,
  (He.Fa.int "UNTIL" 60).ok K,
  (He.Fa.int "MOST" 300).ok K,
  (He.Fa.int "LATEST" 1000).ok K,
  decide (qx K mainGlobals "TWO_PARTS" = some (some (.ref (He.ga K "TWO_PARTS")))),
  He.tupB K "TWO_PARTS" [.str "plus",.str "less",.str "times",.str "under",.str "same"],
  decide (qx K mainGlobals "len" = some none),
  decide (qx K mainGlobals "range" = some none),
  decide (qx K mainGlobals "min" = some none),
  decide (qx K mainGlobals "max" = some none),
  decide (qx K mainGlobals "isinstance" = some none),
  decide (qx K mainGlobals "all" = some none),
  decide (qx K mainGlobals "int" = some none),
  decide (qx K mainGlobals "str" = some none),
  decide (qx K mainGlobals "bool" = some none),
  decide (qx K mainGlobals "list" = some none),
  decide (qx K mainGlobals "tuple" = some none),
  decide (qx K mainGlobals "set" = some none),
  decide (qx K mainGlobals "sorted" = some none),
  decide (qx K mainGlobals "enumerate" = some none),
  decide (qx K mainGlobals "ValueError" = some none),
  decide (qx K mainGlobals "NoFirst" = some (some (.ref (eZ K)))),
  decide (qx K mainGlobals "NoChoice" = some (some (.ref (qV K)))),
  decide (qx K mainGlobals "NoHouse" = some (some (.ref (qG K)))),
  decide (qx K mainGlobals "TooMany" = some (some (.ref (fZ K)))),
  decide (qx K mainGlobals "Idle" = some (some (.ref (fB K)))),
  decide (qx K mainGlobals "NoLog" = some (some (.ref (YR K)))),
  decide (qx K mainGlobals "NoPlace" = some (some (.ref (fT K)))),
  decide (qx K mainGlobals "NoPlan" = some (some (.ref (GZ K)))),
  decide (qx K mainGlobals "NoRoom" = some (some (.ref (mX K)))),
  decide (qx K mainGlobals "NoText" = some (some (.ref (QL K)))),
  decide (qx K mainGlobals "TooFar" = some (some (.ref (aB K)))),
  decide (qx K mainGlobals "PostError" = some (some (.ref (qP K)))),
  Cp.excA K (eZ K)]
def mIQ (K:qk):List Bool:=[
  decide (ql K (.ref (eZ K)) "__setattr__" = some (some (.builtin "object.__setattr__"))),
  decide (qv K (.ref (eZ K)) (.type "BaseException")=some true),
  decide (jo K (.ref (eZ K))=some (.type "type")),
  zt K (.ref (eZ K)),
  decide (ql K (.ref (eZ K)) "at" = some none),
  decide (ql K (.ref (eZ K)) "word" = some none),
  decide (ql K (.ref (eZ K)) "name" = some none),
  decide (ql K (.ref (eZ K)) "most" = some none),
  decide (jo K (.ref (WL K))=some (.type "function")),
  Cp.excA K (qV K),
  decide (ql K (.ref (qV K)) "__setattr__" = some (some (.builtin "object.__setattr__"))),
  decide (qv K (.ref (qV K)) (.type "BaseException")=some true),
  decide (jo K (.ref (qV K))=some (.type "type")),
  zt K (.ref (qV K)),
  decide (ql K (.ref (qV K)) "at" = some none),
  decide (ql K (.ref (qV K)) "word" = some none),
  decide (ql K (.ref (qV K)) "name" = some none),
  decide (ql K (.ref (qV K)) "most" = some none),
  decide (jo K (.ref (FK K))=some (.type "function")),
  Cp.excA K (qG K),
  decide (ql K (.ref (qG K)) "__setattr__" = some (some (.builtin "object.__setattr__"))),
  decide (qv K (.ref (qG K)) (.type "BaseException")=some true),
  decide (jo K (.ref (qG K))=some (.type "type")),
  zt K (.ref (qG K)),
  decide (ql K (.ref (qG K)) "at" = some none),
  decide (ql K (.ref (qG K)) "word" = some none),
  decide (ql K (.ref (qG K)) "name" = some none),
  decide (ql K (.ref (qG K)) "most" = some none),
  decide (jo K (.ref (bC K))=some (.type "function")),
  Cp.excA K (fZ K),
  decide (ql K (.ref (fZ K)) "__setattr__" = some (some (.builtin "object.__setattr__"))),
  decide (qv K (.ref (fZ K)) (.type "BaseException")=some true),
  decide (jo K (.ref (fZ K))=some (.type "type")),
  zt K (.ref (fZ K)),
  decide (ql K (.ref (fZ K)) "at" = some none),
  decide (ql K (.ref (fZ K)) "word" = some none),
  decide (ql K (.ref (fZ K)) "name" = some none),
  decide (ql K (.ref (fZ K)) "most" = some none),
  decide (jo K (.ref (IZ K))=some (.type "function")),
  decide (PySem.W.specialIn K (.builtin "object.__class__") "__get__" = some (some (.builtin "getset_descriptor.__get__")))]
def D2Y (K:qk):List Bool:=[
  decide (PySem.W.takesIn K (.builtin "object.__class__")=some true),
  decide (ql K (.ref (eZ K)) "__getattribute__" = some (some (.builtin "BaseException.__getattribute__"))),
  decide (ql K (.ref (eZ K)) "__getattr__" = some none),
  decide (ql K (.ref (eZ K)) "__class__" = some (some (.builtin "object.__class__"))),
  decide (PySem.W.mroIn K (eZ K) (.type "object")=some true),
  decide (qv K (.ref (eZ K)) (.type "ValueError")=some true),
  decide (qv K (.ref (eZ K)) (.ref (eZ K))=some true),
  decide (qv K (.ref (eZ K)) (.ref (qP K))=some true),
  decide (qv K (.ref (eZ K)) (.ref (qV K))=some false),
  decide (qv K (.ref (eZ K)) (.ref (qG K))=some false),
  decide (qv K (.ref (eZ K)) (.ref (fZ K))=some false),
  decide (qv K (.ref (eZ K)) (.ref (fB K))=some false),
  decide (qv K (.ref (eZ K)) (.ref (YR K))=some false),
  decide (qv K (.ref (eZ K)) (.ref (fT K))=some false),
  decide (qv K (.ref (eZ K)) (.ref (GZ K))=some false),
  decide (qv K (.ref (eZ K)) (.ref (mX K))=some false),
  decide (qv K (.ref (eZ K)) (.ref (QL K))=some false),
  decide (qv K (.ref (eZ K)) (.ref (aB K))=some false),
  decide (ql K (.ref (qV K)) "__getattribute__" = some (some (.builtin "BaseException.__getattribute__"))),
  decide (ql K (.ref (qV K)) "__getattr__" = some none),
  decide (ql K (.ref (qV K)) "__class__" = some (some (.builtin "object.__class__"))),
  decide (PySem.W.mroIn K (qV K) (.type "object")=some true),
  decide (qv K (.ref (qV K)) (.type "ValueError")=some true),
  decide (qv K (.ref (qV K)) (.ref (qV K))=some true),
  decide (qv K (.ref (qV K)) (.ref (qP K))=some true),
  decide (qv K (.ref (qV K)) (.ref (eZ K))=some false),
  decide (qv K (.ref (qV K)) (.ref (qG K))=some false),
  decide (qv K (.ref (qV K)) (.ref (fZ K))=some false),
  decide (qv K (.ref (qV K)) (.ref (fB K))=some false),
  decide (qv K (.ref (qV K)) (.ref (YR K))=some false),
  decide (qv K (.ref (qV K)) (.ref (fT K))=some false),
  decide (qv K (.ref (qV K)) (.ref (GZ K))=some false),
  decide (qv K (.ref (qV K)) (.ref (mX K))=some false),
  decide (qv K (.ref (qV K)) (.ref (QL K))=some false),
  decide (qv K (.ref (qV K)) (.ref (aB K))=some false),
  decide (ql K (.ref (qG K)) "__getattribute__" = some (some (.builtin "BaseException.__getattribute__"))),
  decide (ql K (.ref (qG K)) "__getattr__" = some none),
  decide (ql K (.ref (qG K)) "__class__" = some (some (.builtin "object.__class__"))),
  decide (PySem.W.mroIn K (qG K) (.type "object")=some true),
  decide (qv K (.ref (qG K)) (.type "ValueError")=some true)]
def uM4 (K:qk):List Bool:=[
  decide (qv K (.ref (qG K)) (.ref (qG K))=some true),
  decide (qv K (.ref (qG K)) (.ref (qP K))=some true),
  decide (qv K (.ref (qG K)) (.ref (eZ K))=some false),
  decide (qv K (.ref (qG K)) (.ref (qV K))=some false),
  decide (qv K (.ref (qG K)) (.ref (fZ K))=some false),
  decide (qv K (.ref (qG K)) (.ref (fB K))=some false),
  decide (qv K (.ref (qG K)) (.ref (YR K))=some false),
  decide (qv K (.ref (qG K)) (.ref (fT K))=some false),
  decide (qv K (.ref (qG K)) (.ref (GZ K))=some false),
  decide (qv K (.ref (qG K)) (.ref (mX K))=some false),
  decide (qv K (.ref (qG K)) (.ref (QL K))=some false),
  decide (qv K (.ref (qG K)) (.ref (aB K))=some false),
  decide (ql K (.ref (fZ K)) "__getattribute__" = some (some (.builtin "BaseException.__getattribute__"))),
  decide (ql K (.ref (fZ K)) "__getattr__" = some none),
  decide (ql K (.ref (fZ K)) "__class__" = some (some (.builtin "object.__class__"))),
  decide (PySem.W.mroIn K (fZ K) (.type "object")=some true),
  decide (qv K (.ref (fZ K)) (.type "ValueError")=some true),
  decide (qv K (.ref (fZ K)) (.ref (fZ K))=some true),
  decide (qv K (.ref (fZ K)) (.ref (qP K))=some true),
  decide (qv K (.ref (fZ K)) (.ref (eZ K))=some false),
  decide (qv K (.ref (fZ K)) (.ref (qV K))=some false),
  decide (qv K (.ref (fZ K)) (.ref (qG K))=some false),
  decide (qv K (.ref (fZ K)) (.ref (fB K))=some false),
  decide (qv K (.ref (fZ K)) (.ref (YR K))=some false),
  decide (qv K (.ref (fZ K)) (.ref (fT K))=some false),
  decide (qv K (.ref (fZ K)) (.ref (GZ K))=some false),
  decide (qv K (.ref (fZ K)) (.ref (mX K))=some false),
  decide (qv K (.ref (fZ K)) (.ref (QL K))=some false),
  decide (qv K (.ref (fZ K)) (.ref (aB K))=some false),
  jr K (eZ K),
  jr K (qV K),
  jr K (qG K),
  jr K (fZ K),
  jr K (fB K),
  jr K (YR K),
  jr K (fT K),
  jr K (GZ K),
  jr K (mX K),
  jr K (QL K),
  jr K (aB K)]
def bAU (K:qk):List Bool:=[
  jr K (qP K),
  decide (jo K (.ref (fB K))=some (.type "type")),
  decide (jo K (.ref (YR K))=some (.type "type")),
  decide (jo K (.ref (fT K))=some (.type "type")),
  decide (jo K (.ref (GZ K))=some (.type "type")),
  decide (jo K (.ref (mX K))=some (.type "type")),
  decide (jo K (.ref (QL K))=some (.type "type")),
  decide (jo K (.ref (aB K))=some (.type "type")),
  decide (jo K (.ref (qP K))=some (.type "type")),
  decide (qv K (.ref (qP K)) (.type "BaseException")=some true),
  decide (decide (Cp.tabA K (KQ K)=Cp.tabA K (lM K))=false),
  decide (decide (Cp.tabA K (KQ K)=Cp.tabA K (JS K))=false),
  decide (decide (Cp.tabA K (lM K)=Cp.tabA K (JS K))=false)]
def hck (K:qk):List Bool:=KNm K++(VYa K++(pJy K++(MNF K++(mIQ K++(D2Y K++(uM4 K++(bAU K)))))))
def x3E:List Str:=[
  "_wall",
  "__name__",
  "PostError",
  "NoPlan",
  "NoText",
  "NoFirst",
  "NoHouse",
  "Idle",
  "TooFar",
  "NoRoom",
  "NoPlace",
  "TooMany",
  "NoLog",
  "NoChoice",
  "MODULUS",
  "LETTERS"]
def ZZK:List Str:=[
  "LONGEST",
  "MOST_CELLS",
  "MOST_HOUSES",
  "MOST_DELAY",
  "TWO_PARTS",
  "is_number",
  "is_worth",
  "is_name",
  "House",
  "cells_in",
  "cells_of",
  "all_steps",
  "is_send",
  "flaw_of_house",
  "Plan",
  "names"]
def RFv:List Str:=[
  "MOST_TIME",
  "order",
  "is_first",
  "firsts",
  "reckoned",
  "steps_for",
  "Doing",
  "reaction",
  "UNTIL",
  "MOST",
  "LATEST",
  "is_until",
  "Plain",
  "_law_begun",
  "_law_take",
  "_law_pick"]
def UCJ:List Str:=[
  "_law_worth",
  "_law_words",
  "_law_sum",
  "_law_send",
  "_law_steps",
  "_law_step",
  "_law_rules",
  "_law_net",
  "_law_built",
  "_law_refused",
  "_law_spoilt",
  "_law_begins",
  "_law_long"]
def hnm:List Str:=x3E++(ZZK++(RFv++(UCJ)))
def hta (K:qk):List Addr:=[KQ K,lM K,JS K]
abbrev NJ (K:qk):List (Addr × Addr):=(hta K).map λa=>(Cp.codeA K a,Cp.tabA K a)
abbrev hR:PySem.W.OpenRow := PySem.W.OpenLaw.row PySem.Challenge.rw_counterpost_k19_plain_refused
abbrev hq:Program:=PySem.W.view hR.prog [66]
theorem hrun (w:World):HandSHeadRun.RunEq hR hq (Cp.hkL [] hfn hck hta) (Cp.hkLT [] hfn hck hta) 40000 hnm w:=by
 intro os
 kernel_rfl
end
end Mi
namespace Mi
open PySem PySem.Spec
open PyProof.Rows L2 Cp
def spLaw (K:qk):L2.Sp:=λvs H Q _=>∃ (a:Addr) (ns:List Int),vs=[.ref a]/\SqL K H a (ns.map V.int)/\(∀ b ∈ hta K,H (Cp.tabA K b)=some (.tbl #[]))/\ns.length<=63/\∀ H',Q (.bl true) H'
end Mi
section
open PySem PySem.W PyProof.Rows
set_option maxRecDepth 100000 in
set_option maxHeartbeats 0 in
theorem Mi.early (main:∀ (w:World) (mg:Str->Option Value) (fa:Addr) (h:Heap),(Cp.hkL [] Mi.hfn Mi.hck Mi.hta).says w h->h.Ns mainGlobals mg->mg (HandSHeadRun.topDef Mi.hR.prog 66).name=some (Value.ref fa) ->
  ∃ (K:qk) (fd:FuncData),K.In h/\(∀ a ∈ Mi.hta K,Cp.TabK K a/\h.get? (Cp.tabA K a)=some Cp.tabO)/\(∀ (s:Shared) (u:Value),BindsTo s fd ⟨[u],[]⟩ [("_law_script",u)])/\∀ base:Heap,K.In base->base.Ns mainGlobals mg->(∀ a ∈ Mi.hta K,LamX.TabB base mg (Cp.codeA K a) (Cp.tabA K a))->Cp.FnG (PySem.Challenge.rw_counterpost_k19_plain_refused).prog w K mg base L2.CX0 26 fa fd ["_law_script"] (Mi.spLaw K)):PySem.Challenge.rw_counterpost_k19_plain_refused.Holds := by
 w_on;o_law
 refine HandSHeadRun.head_any (r:=Mi.hR) (q:=Mi.hq) (H:=Cp.hkL [] Mi.hfn Mi.hck Mi.hta) (ob:=Cp.hkLT [] Mi.hfn Mi.hck Mi.hta) (M:=40000) (loose:=Mi.hnm) (d:=HandSHeadRun.topDef Mi.hR.prog 66) (kwd:=[]) Cp.hkLT_eq (by kernel_rfl) (λs=>by kernel_rfl) Mi.hrun (by kernel_rfl) (by kernel_rfl) (by kernel_rfl) (by rfl) (by first|assumption|decide +kernel) qf ⟨rfl,rfl,rfl,rfl,rfl,by decide +kernel⟩ ?hw ?hc
 case hw=>w_witness2
 case hc => exact Cp.walk_ofET (l := PySem.Challenge.rw_counterpost_k19_plain_refused) (n := 63) (k := 26) (x := "_law_script") (sp := Mi.spLaw) (ta := Mi.hta) rfl qg (by kernel_rfl) ⟨rfl,by decide,by decide⟩ main (λK _ a ns hl ht hS => ⟨a,ns,rfl,hS,ht,hl,λ_ => rfl⟩)
end
namespace Mi
open PySem PySem.Spec
open PyProof.Rows L2 Cp
inductive W where
 | non|bl (b:Bool)|int (i:Int)|str (s:Str)
 | tup (xs:List W)|lst (xs:List W)|kt (xs:List W)
 | dk (ks:List Key) (ws:List W)|dt (ks:List (List Key)) (ws:List W)
 | obj (c:Str) (fs:List Str) (ws:List W)
 | exc (c:Str) (fs:List Str) (ws:List W)
 | ref (n:Nat)|scr (ns:List Int)|ty (n:String)|cls (c:Str)
instance:Inhabited W:=⟨.non⟩
inductive Ob where
 | lst (xs:List W)|dk (kvs:List (Key × W))|dt (kvs:List (List Key × W))|ins (c:Str) (fs:List (Str × W))|fdk (kvs:List (Key × W))
abbrev Sto:=List Ob
abbrev Lo:=List (Option W)
inductive Res (α:Type) where
 | ok (a:α)|er (e:W)
def M (α:Type):=Sto->Option (Res α × Sto)
def M.ret {α:Type} (a:α):M α:=λS=>some (.ok a,S)
def M.bind {α β:Type} (m:M α) (f:α->M β):M β:=λS=>match m S with
 | none=>none
 | some (.er e,S')=>some (.er e,S')
 | some (.ok a,S')=>f a S'
instance:Monad M where
 pure:=M.ret
 bind:=M.bind
def gL {α:Type} (o:Option α):M α:=λS=>match o with|some a=>some (.ok a,S)|none=>none
def GG {α:Type}:M α:=λ_=>none
structure Rho where
 l:List Addr
 b:Addr->Prop
def Rho.Off (ρ:Rho) (p:Addr):Prop:=p ∉ ρ.l/\¬ ρ.b p
def Rho.add (ρ:Rho) (p:Addr):Rho:=⟨ρ.l++[p],ρ.b⟩
section
variable (K:qk) (G:Str->Addr) (ρ:Rho) (H:Hp)
def X8 (p C d:Addr):HO:=.ext λh=>∃ (oe:Obj) (vs:Array Value),h.get? p=some oe/\Zc (.ref C) (some d) oe/\oe.data = .fields vs
def LstAt (p:Addr) (vs:List V):Prop:=(Rd H p (.lst vs)/\ρ.Off p) \/ SqL K (λ_=>none) p vs
mutual
inductive RV:W->V->Prop
 | non:RV .non .non
 | bl (b:Bool):RV (.bl b) (.bl b)
 | int (i:Int):RV (.int i) (.int i)
 | str (x:Str):RV (.str x) (.str x)
 | ty (n:String):RV (.ty n) (.ty n)
 | cls (c:Str):RV (.cls c) (.ref (G c))
 | tup {ws:List W} {p:Addr} {vs:List V}:H p=some (.tup vs)->RVs ws vs->RV (.tup ws) (.ref p)
 | kt {ws:List W} {p:Addr} {vs:List V}:SqT K (λ_=>none) p vs->RVs ws vs->RV (.kt ws) (.ref p)
 | lst {ws:List W} {p:Addr} {vs:List V}:H p=some (.lst vs)->ρ.Off p->RVs ws vs->RV (.lst ws) (.ref p)
 | dk {ks:List Key} {ws:List W} {p:Addr} {vs:List V}:H p=some (.dK (ks.zip vs))->ρ.Off p->ks.length=ws.length->RVs ws vs->RV (.dk ks ws) (.ref p)
 | dt {ks:List (List Key)} {ws:List W} {p:Addr} {vs:List V}:H p=some (.dT (ks.zip vs))->ρ.Off p->ks.length=ws.length->RVs ws vs->RV (.dt ks ws) (.ref p)
 | obj {c:Str} {fs:List Str} {ws:List W} {p dx:Addr} {vs:List V}:H p=some (.ins (G c) dx (fs.zip vs))->ρ.Off p->Cls K (G c)->(∀ f ∈ fs,NoAttr K (G c) f)->fs.length=ws.length->RVs ws vs->RV (.obj c fs ws) (.ref p)
 | exc {c:Str} {fs:List Str} {ws:List W} {p dx:Addr} {vs:List V}:H p=some (X8 p (G c) dx)->ρ.Off p->H dx=some (.xd (fs.zip vs))->ρ.Off dx->fs.length=ws.length->RVs ws vs->RV (.exc c fs ws) (.ref p)
 | ref {n:Nat} {a:Addr}:ρ.l[n]? = some a->RV (.ref n) (.ref a)
 | scr {ns:List Int} {p:Addr}:LstAt K ρ H p (ns.map V.int)->RV (.scr ns) (.ref p)
inductive RVs:List W->List V->Prop
 | nil:RVs [] []
 | cons {w:W} {ws:List W} {v:V} {vs:List V}:RV w v->RVs ws vs->RVs (w :: ws) (v :: vs)
end
def RKs {κ:Type}:List (κ × W)->List (κ × V)->Prop:=Paired λp q=>p.1=q.1/\RV K G ρ H p.2 q.2
def ObR (a:Addr):Ob->Prop
 | .lst ws=>∃ vs,H a=some (.lst vs)/\RVs K G ρ H ws vs
 | .dk kvs=>∃ vs,H a=some (.dK vs)/\RKs K G ρ H kvs vs
 | .dt kvs=>∃ vs,H a=some (.dT vs)/\RKs K G ρ H kvs vs
 | .ins c fs=>∃ dx vs,H a=some (.ins (G c) dx vs)/\Cls K (G c)/\(∀ p ∈ fs,NoAttr K (G c) p.1)/\RKs K G ρ H fs vs
 | .fdk kvs=>∃ o vs,H a=some (.frz o (.dK vs))/\RKs K G ρ H kvs vs
def GSF:Str := "law.<locals>.<lambda>"
def AG:List Str:=[GSF, "Hall.move_end.<locals>.<lambda>", "ahead_told.<locals>.<lambda>", "_law_told.<locals>.<lambda>", "_law_begins.<locals>.<lambda>", "_law_long.<locals>.<lambda>"]
def gO (q:Str):Str := "<tab>" ++ q
def TabOk (G:Str->Addr) (H:Hp):Prop:=∀ q ∈ AG,G (gO q)=0 \/ LamX.TabS H (G (gO q)) q
def NewA (H:Hp) (a:Addr):Prop:=∀ o,H a=some o->∃ ps,o = .tbl ps
def OldA (H:Hp) (a:Addr):Prop:=∃ o,H a=some o/\∀ ps,o ≠ .tbl ps
structure Rel (S:Sto):Prop where
 len:ρ.l.length=S.length
 nd:ρ.l.Nodup
 ob:∀ (n:Nat) (a:Addr) (o:Ob),ρ.l[n]? = some a->S[n]? = some o->ObR K G ρ H a o
 bl:∀ a,ρ.b a->OldA H a
 tb:TabOk G H
def RL:Lo->L2.St->Prop:=λL σ=>L.length=σ.length/\∀ (i:Nat) (w:W),L[i]? = some (some w)->∃ v,σ[i]? = some (some v)/\RV K G ρ H w v
end
structure Ext (ρ:Rho) (H:Hp) (ρ':Rho) (H':Hp):Prop where
 pre:∃ t,ρ'.l=ρ.l++t
 new:∀ a ∈ ρ'.l,a ∈ ρ.l \/ NewA H a
 stp:∀ a o,H a=some o->(∀ ps,o ≠ .tbl ps)->(Frz (λ_=>False) o \/ a ∉ ρ.l)->H' a=some o
 b1:∀ a,ρ.b a->ρ'.b a
 b2:∀ a,ρ'.b a->ρ.b a \/ a ∈ ρ.l \/ NewA H a
theorem NewA.of {H:Hp} {a:Addr} (h:H a=none):NewA H a:=λo e=>by
 rw[h] at e
 cases e
theorem NewA.old {H:Hp} {a:Addr} (h:NewA H a) (k:OldA H a):False:=by
 obtain⟨o,e,nt⟩:=k
 obtain⟨ps,z⟩:=h o e
 exact nt ps z
section
variable {K:qk} {G:Str->Addr} {ρ ρ1 ρ2:Rho} {H H1 H2:Hp} {S:Sto} {a p:Addr}
theorem Ext.refl:Ext ρ H ρ H:=⟨⟨[],by simp⟩,λ_ h=>.inl h,λ_ _ h _ _=>h,λ_ h=>h,λ_ h=>.inl h⟩
theorem Ext.get (e:Ext ρ H ρ1 H1) {n:Nat} (h:ρ.l[n]? = some a):ρ1.l[n]? = some a:=by
 obtain⟨t,et⟩:=e.pre
 rw[et,jl (jk.mp h).1]
 exact h
theorem Ext.mem (e:Ext ρ H ρ1 H1) (h:a ∈ ρ.l):a ∈ ρ1.l:=by
 obtain⟨t,et⟩:=e.pre
 rw[et]
 exact zk _ h
theorem Ext.keep (e:Ext ρ H ρ1 H1) {o:HO} (h:H a=some o) (n:ρ.Off a) (nt:∀ ps,o ≠ .tbl ps:=by(intro ps z;cases z)):H1 a=some o:=e.stp a o h nt (.inr n.1)
theorem IK {p C d:Addr}:∀ ps,X8 p C d ≠ .tbl ps:=λps z=>by
 unfold X8 at z
 cases z
theorem Ext.off' (e:Ext ρ H ρ1 H1) {o:HO} (h:H a=some o) (n:a ∉ ρ.l) (nt:∀ ps,o ≠ .tbl ps:=by(intro ps z;cases z)):a ∉ ρ1.l:=λz=>by
 rcases e.new a z with q|q
 ·exact n q
 ·exact q.old ⟨o,h,nt⟩
theorem Ext.off (e:Ext ρ H ρ1 H1) {o:HO} (h:H a=some o) (n:ρ.Off a) (nt:∀ ps,o ≠ .tbl ps:=by(intro ps z;cases z)):ρ1.Off a:=by
 refine⟨e.off' h n.1 nt,λz=>?_⟩
 rcases e.b2 a z with q|q|q
 ·exact n.2 q
 ·exact n.1 q
 ·exact q.old ⟨o,h,nt⟩
theorem Ext.back (e:Ext ρ H ρ1 H1) (q:NewA H1 a) (m:a ∉ ρ.l):NewA H a:=λo z=>by
 by_cases c:∃ ps,o = .tbl ps
 ·exact c
 ·exact q o (e.stp a o z (λps y=>c ⟨ps,y⟩) (.inr m))
theorem Ext.trans (e:Ext ρ H ρ1 H1) (f:Ext ρ1 H1 ρ2 H2):Ext ρ H ρ2 H2:=by
 refine⟨?_,λa h=>?_,λa o h nt n=>?_,λa h=>f.b1 a (e.b1 a h),λa h=>?_⟩
 ·obtain⟨t,e1⟩:=e.pre
  obtain⟨u,e2⟩:=f.pre
  exact⟨t++u,by rw[e2,e1,ye]⟩
 ·rcases f.new a h with q|q
  ·exact e.new a q
  ·by_cases m:a ∈ ρ.l
   ·exact .inl m
   ·exact .inr (e.back q m)
 ·have h1:=e.stp a o h nt n
  refine f.stp a o h1 nt ?_
  rcases n with n|n
  ·exact .inl n
  ·exact .inr (e.off' h n nt)
 ·by_cases m:a ∈ ρ.l
  ·exact .inr (.inl m)
  ·rcases f.b2 a h with q|q|q
   ·exact e.b2 a q
   ·exact .inr (e.new a q)
   ·exact .inr (.inr (e.back q m))
theorem Ext.same (s:Same H H1):Ext ρ H ρ H1:=⟨⟨[],by simp⟩,λ_ h=>.inl h,λ_ _ h _ _=>s _ _ h,λ_ h=>h,λ_ h=>.inl h⟩
theorem LstAt.mono (e:Ext ρ H ρ1 H1) {vs:List V} (h:LstAt K ρ H p vs):LstAt K ρ1 H1 p vs:=by
 rcases h with⟨h|⟨o,h⟩,n⟩|h
 ·exact .inl ⟨.inl (e.keep h n),e.off h n⟩
 ·exact .inl ⟨.inr ⟨o,e.keep h n⟩,e.off h n⟩
 ·exact .inr h
theorem LstAt.seq {vs:List V} (h:LstAt K ρ H p vs):SqL K H p vs:=by
 rcases h with⟨h,_⟩|h
 ·exact .inl h
 ·rcases h with(h|⟨o,h⟩)|h
  ·cases h
  ·cases h
  ·exact .inr h
theorem PV {vs:List V} (h:SqT K (λ_=>none) p vs):SqT K H p vs:=by
 rcases h with(h|⟨o,h⟩)|h
 ·cases h
 ·cases h
 ·exact .inr h
mutual
theorem RV.mono (e:Ext ρ H ρ1 H1):∀ {w:W} {v:V},RV K G ρ H w v->RV K G ρ1 H1 w v
 | _,_,.non=>.non
 | _,_,.bl b=>.bl b
 | _,_,.int i=>.int i
 | _,_,.str x=>.str x
 | _,_,.ty n=>.ty n
 | _,_,.cls c=>.cls c
 | _,_,.tup h r=>.tup (e.stp _ _ h (by intro ps z;cases z) (.inl trivial)) (RVs.mono e r)
 | _,_,.kt h r=>.kt h (RVs.mono e r)
 | _,_,.lst h n r=>.lst (e.keep h n) (e.off h n) (RVs.mono e r)
 | _,_,.dk h n l r=>.dk (e.keep h n) (e.off h n) l (RVs.mono e r)
 | _,_,.dt h n l r=>.dt (e.keep h n) (e.off h n) l (RVs.mono e r)
 | _,_,.obj h n c f l r=>.obj (e.keep h n) (e.off h n) c f l (RVs.mono e r)
 | _,_,.exc h n h2 n2 l r=>.exc (e.keep h n IK) (e.off h n IK) (e.keep h2 n2) (e.off h2 n2) l (RVs.mono e r)
 | _,_,.ref h=>.ref (e.get h)
 | _,_,.scr h=>.scr (h.mono e)
theorem RVs.mono (e:Ext ρ H ρ1 H1):∀ {ws:List W} {vs:List V},RVs K G ρ H ws vs->RVs K G ρ1 H1 ws vs
 | _,_,.nil=>.nil
 | _,_,.cons h r=>.cons (RV.mono e h) (RVs.mono e r)
end
theorem RVs.length:∀ {ws:List W} {vs:List V},RVs K G ρ H ws vs->ws.length=vs.length
 | _,_,.nil=>rfl
 | _,_,.cons _ r=>by rw[qs,qs,r.length]
theorem RVs.get:∀ {ws:List W} {vs:List V} {i:Nat} {w:W},RVs K G ρ H ws vs->ws[i]? = some w->∃ v,vs[i]? = some v/\RV K G ρ H w v
 | _,_,_,_,.nil,e=>by simp at e
 | _,_,0,_,.cons h _,e=>by simp at e;subst e;exact⟨_,rfl,h⟩
 | _,_,i+1,w,.cons _ t,e=>by
  obtain⟨v,h1,h2⟩:=RVs.get (i:=i) (w:=w) t (by simpa using e)
  exact⟨v,by simpa using h1,h2⟩
theorem RVs.append:∀ {ws us:List W} {vs xs:List V},RVs K G ρ H ws vs->RVs K G ρ H us xs->RVs K G ρ H (ws++us) (vs++xs)
 | _,_,_,_,.nil,s=>s
 | _,_,_,_,.cons h t,s=>.cons h (RVs.append t s)
theorem RVs.take:∀ {ws:List W} {vs:List V} (n:Nat),RVs K G ρ H ws vs->RVs K G ρ H (ws.take n) (vs.take n)
 | _,_,0,_=>.nil
 | _,_,_+1,.nil=>.nil
 | _,_,n+1,.cons h t=>.cons h (RVs.take n t)
theorem RVs.drop:∀ {ws:List W} {vs:List V} (n:Nat),RVs K G ρ H ws vs->RVs K G ρ H (ws.drop n) (vs.drop n)
 | _,_,0,r=>r
 | _,_,_+1,.nil=>.nil
 | _,_,n+1,.cons _ t=>RVs.drop n t
theorem RVs.set {w:W} {v:V} (r:RV K G ρ H w v):∀ {ws:List W} {vs:List V} (n:Nat),RVs K G ρ H ws vs->RVs K G ρ H (ws.set n w) (vs.set n v)
 | _,_,_,.nil=>.nil
 | _,_,0,.cons _ t=>.cons r t
 | _,_,n+1,.cons h t=>.cons h (RVs.set r n t)
theorem RVs.reverse {ws:List W} {vs:List V} (r:RVs K G ρ H ws vs):RVs K G ρ H ws.reverse vs.reverse:=by
 induction ws generalizing vs with
 | nil=>cases r;exact .nil
 | cons w ws ih=>
  cases r with
  | cons h t=>
   rw[List.reverse_cons,List.reverse_cons]
   exact(ih t).append (.cons h .nil)
theorem RKs.mono {κ:Type} (e:Ext ρ H ρ1 H1):∀ {ws:List (κ × W)} {vs:List (κ × V)},RKs K G ρ H ws vs->RKs K G ρ1 H1 ws vs
 | _,_,.nil=>.nil
 | _,_,.cons h t=>.cons ⟨h.1,h.2.mono e⟩ (RKs.mono e t)
theorem RKs.length {κ:Type}:∀ {ws:List (κ × W)} {vs:List (κ × V)},RKs K G ρ H ws vs->ws.length=vs.length
 | _,_,.nil=>rfl
 | _,_,.cons _ t=>by rw[qs,qs,RKs.length t]
theorem ObR.mono (e:Ext ρ H ρ1 H1) (k:∀ o,H a=some o->H1 a=some o):∀ {o:Ob},ObR K G ρ H a o->ObR K G ρ1 H1 a o
 | .lst _,⟨vs,h,r⟩=>⟨vs,k _ h,r.mono e⟩
 | .dk _,⟨vs,h,r⟩=>⟨vs,k _ h,r.mono e⟩
 | .dt _,⟨vs,h,r⟩=>⟨vs,k _ h,r.mono e⟩
 | .ins _ _,⟨dx,vs,h,c,f,r⟩=>⟨dx,vs,k _ h,c,f,r.mono e⟩
 | .fdk _,⟨o,vs,h,r⟩=>⟨o,vs,k _ h,r.mono e⟩
theorem gA:∀ {o:Ob},ObR K G ρ H a o->∃ u,H a=some u/\(∀ ps,u ≠ .tbl ps)/\∀ c q,u ≠ LamX.CodeO c q
 | .lst _,⟨vs,h,r⟩=>⟨_,h,λ_ z=>(by cases z),λ_ _ z=>(by unfold LamX.CodeO at z;cases z)⟩
 | .dk _,⟨vs,h,r⟩=>⟨_,h,λ_ z=>(by cases z),λ_ _ z=>(by unfold LamX.CodeO at z;cases z)⟩
 | .dt _,⟨vs,h,r⟩=>⟨_,h,λ_ z=>(by cases z),λ_ _ z=>(by unfold LamX.CodeO at z;cases z)⟩
 | .ins _ _,⟨dx,vs,h,c,f,r⟩=>⟨_,h,λ_ z=>(by cases z),λ_ _ z=>(by unfold LamX.CodeO at z;cases z)⟩
 | .fdk _,⟨o,vs,h,r⟩=>⟨_,h,λ_ z=>(by cases z),λ_ _ z=>(by unfold LamX.CodeO at z;cases z)⟩
theorem TabOk.same (t:TabOk G H) (s:Same H H1):TabOk G H1:=λq hq=>(t q hq).imp id λt=>t.ext λb o e=>s b o e
def e8k (G:Str->Addr):List (Addr × Str):=(AG.filter λq=>decide (G (gO q) ≠ 0)).map λq=>(G (gO q),q)
theorem TabOk.tabs (t:TabOk G H):LamX.Tabs (e8k G) H:=λp hp=>by
 obtain⟨q,hq,rfl⟩:=jc.mp hp
 obtain⟨h1,h2⟩:=Ql.mp hq
 exact(t q h1).resolve_left (of_decide_eq_true h2)
theorem m9 {q:Str} (hq:q ∈ AG) (h0:G (gO q) ≠ 0):(G (gO q),q) ∈ e8k G:=jc.mpr ⟨q,Ql.mpr ⟨hq,decide_eq_true h0⟩,rfl⟩
theorem TabOk.of (t:LamX.Tabs (e8k G) H):TabOk G H:=λq hq=>by
 by_cases z:G (gO q)=0
 ·exact .inl z
 ·exact .inr (t (G (gO q),q) (m9 hq z))
def TabI (G:Str->Addr):Prop:=∀ q ∈ AG,∀ q' ∈ AG,G (gO q) ≠ 0->G (gO q)=G (gO q')->q=q'
theorem TabI.only (i:TabI G) {q:Str} (hq:q ∈ AG):∀ p ∈ e8k G,p.1=G (gO q)->p.2=q:=λp hp e=>by
 obtain⟨q',hq',rfl⟩:=jc.mp hp
 obtain⟨h1,h2⟩:=Ql.mp hq'
 exact i q' h1 q hq (of_decide_eq_true h2) e
theorem TabOk.but {u:HO} (t:TabOk G H) (b:But p H H1) (h:H p=some u) (n1:∀ ps,u ≠ .tbl ps) (n2:∀ c q,u ≠ LamX.CodeO c q):TabOk G H1:=λq hq=>(t q hq).imp id λ⟨ps,h1,h2,h3⟩=>by
 have ne:G (gO q) ≠ p:=λz=>by
  rw[z,h] at h1
  exact n1 _ (Option.some.inj h1)
 refine⟨ps,(b _ ne).trans h1,h2,λpos cv hc=>?_⟩
 obtain⟨c,e1,e2⟩:=h3 pos cv hc
 refine⟨c,e1,(b _ λz=>?_).trans e2⟩
 rw[z,h] at e2
 exact n2 _ _ (Option.some.inj e2)
theorem Rel.at (r:Rel K G ρ H S) {n:Nat} {o:Ob} (h:S[n]? = some o):∃ a,ρ.l[n]? = some a/\ObR K G ρ H a o:=by
 have hn:n < ρ.l.length:=by
  rw[r.len]
  exact(jk.mp h).1
 exact⟨ρ.l[n],qz hn,r.ob n _ o (qz hn) h⟩
theorem Rel.ref (r:Rel K G ρ H S) {n:Nat} {o:Ob} (hr:ρ.l[n]? = some a) (h:S[n]? = some o):ObR K G ρ H a o:=r.ob n a o hr h
theorem Rel.mem (r:Rel K G ρ H S) (h:a ∈ ρ.l):∃ (n:Nat) (o:Ob),ρ.l[n]? = some a/\S[n]? = some o/\ObR K G ρ H a o:=by
 obtain⟨n,hn,e⟩:=yg h
 have hn':n < S.length:=by rw[<- r.len];exact hn
 have e1:ρ.l[n]? = some a:=by rw[qz hn,e]
 exact⟨n,S[n],e1,qz hn',r.ob n a _ e1 (qz hn')⟩
theorem Rel.newA (r:Rel K G ρ H S) (h:NewA H p):ρ.Off p:=by
 refine⟨λz=>?_,λz=>h.old (r.bl p z)⟩
 obtain⟨_,_,_,_,q⟩:=r.mem z
 obtain⟨u,q,nt,_⟩:=gA q
 exact h.old ⟨u,q,nt⟩
theorem Rel.new (r:Rel K G ρ H S) (h:H p=none):ρ.Off p:=r.newA (.of h)
theorem OldA.same (h:OldA H p) (s:Same H H1):OldA H1 p:=by
 obtain⟨o,e,nt⟩:=h
 exact⟨o,s _ _ e,nt⟩
theorem Rel.same (r:Rel K G ρ H S) (s:Same H H1):Rel K G ρ H1 S:=by
 refine⟨r.len,r.nd,λn a o h1 h2=>(r.ob n a o h1 h2).mono (.same s) λu q=>s _ _ q,λa h=>(r.bl a h).same s,r.tb.same s⟩
theorem Rel.push (r:Rel K G ρ H S) {H1:Hp} (s:Same H H1) (h:H p=none) {o:Ob} (n:Ext ρ H (ρ.add p) H1->ObR K G (ρ.add p) H1 p o):Ext ρ H (ρ.add p) H1/\Rel K G (ρ.add p) H1 (S++[o]):=by
 have e:Ext ρ H (ρ.add p) H1:=⟨⟨[p],rfl⟩,λa m=>by
  rcases ji.mp m with m|m
  ·exact .inl m
  ·rw[qp.mp m]
   exact .inr (.of h),λ_ _ h _ _=>s _ _ h,λ_ h=>h,λ_ h=>.inl h⟩
 refine⟨e,⟨by simp [Rho.add,r.len],?_,λm a u h1 h2=>?_,(r.same s).bl,r.tb.same s⟩⟩
 ·refine zv.mpr ⟨r.nd,by simp,λa ha b hb=>?_⟩
  rw[qp.mp hb]
  rintro rfl
  exact(r.new h).1 ha
 ·by_cases hm:m < ρ.l.length
  ·have h1':ρ.l[m]? = some a:=by
    rw[<- h1]
    exact(jl hm).symm
   rw[jl (by rw[<- r.len];exact hm)] at h2
   exact(r.ob m a u h1' h2).mono e λw q=>s _ _ q
  ·have:m=ρ.l.length:=by
    have:=(jk.mp h1).1
    simp [Rho.add] at this
    omega
   subst this
   simp [Rho.add] at h1
   rw[r.len] at h2
   simp at h2
   subst h1 h2
   exact n e
theorem Rel.set (r:Rel K G ρ H S) {m:Nat} {o:Ob} (hm:ρ.l[m]? = some p) (b:But p H H1) (n:Ext ρ H ρ H1->ObR K G ρ H1 p o) (nf:∃ u,H p=some u/\¬ Frz (λ_=>False) u:=by exact⟨_,by assumption,id⟩):Ext ρ H ρ H1/\Rel K G ρ H1 (S.set m o):=by
 have hp:p ∈ ρ.l:=zu hm
 have lt:m < S.length:=by
  rw[<- r.len]
  exact(jk.mp hm).1
 obtain⟨_,_,_,_,q0⟩:=r.mem hp
 obtain⟨u,q,nf⟩:=nf
 obtain⟨u2,q2,n1,n2⟩:=gA q0
 have e:Ext ρ H ρ H1:=⟨⟨[],by simp⟩,λ_ h=>.inl h,λa o h _ n=>(b.stp q nf hp).keep a o h n,λ_ h=>h,λ_ h=>.inl h⟩
 refine⟨e,⟨by rw[jq];exact r.len,r.nd,λj a w h1 h2=>?_,λa h=>?_,r.tb.but b q2 n1 n2⟩⟩
 ·by_cases hj:j=m
  ·subst hj
   rw[hm] at h1
   cases h1
   rw[jj lt] at h2
   cases h2
   exact n e
  ·rw[jm (Ne.symm hj)] at h2
   have ne:a ≠ p:=λz=>by
    subst z
    obtain⟨h1',e1⟩:=jk.mp h1
    obtain⟨h2',e2⟩:=jk.mp hm
    exact hj ((List.getElem_inj r.nd).mp (e1.trans e2.symm))
   exact(r.ob j a w h1 h2).mono e λu q=>(b a ne).trans q
 ·by_cases ha:a=p
  ·obtain⟨u',q',nt,_⟩:=gA (n e)
   exact⟨u',by rw[ha];exact q',nt⟩
  ·obtain⟨o,q',nt⟩:=r.bl a h
   exact⟨o,(b a ha).trans q',nt⟩
theorem RL.mono (e:Ext ρ H ρ1 H1) {L:Lo} {σ:L2.St} (r:RL K G ρ H L σ):RL K G ρ1 H1 L σ:=⟨r.1,λi w h=>by
 obtain⟨v,h1,h2⟩:=r.2 i w h
 exact⟨v,h1,h2.mono e⟩⟩
theorem RL.set {L:Lo} {σ:L2.St} (r:RL K G ρ H L σ) {w:W} {v:V} (h:RV K G ρ H w v) (i:Nat):RL K G ρ H (L.set i (some w)) (σ.set i (some v)):=⟨by simp [r.1],λj x hx=>by
 by_cases hj:j=i
 ·subst hj
  have lt:j < L.length:=by
   have:=(jk.mp hx).1
   simpa using this
  rw[jj lt] at hx
  cases hx
  exact⟨v,by rw[jj (by rw[<- r.1];exact lt)],h⟩
 ·rw[jm (Ne.symm hj)] at hx ⊢
  exact r.2 j x hx⟩
end
def Rho.block (ρ:Rho) (p:Addr):Rho:=⟨ρ.l,λa=>ρ.b a \/ a=p⟩
section
variable {K:qk} {G:Str->Addr} {ρ ρ1:Rho} {H H1:Hp} {S:Sto} {p:Addr} {b:Addr->Prop}
theorem Ext.block (s:Same H H1) (h:H p=none):Ext ρ H (ρ.block p) H1:=⟨⟨[],by simp [Rho.block]⟩,λ_ h=>.inl h,λ_ _ h _ _=>s _ _ h,λ_ h=>.inl h,λa q=>by
 rcases q with q|rfl
 ·exact .inl q
 ·exact .inr (.inr (.of h))⟩
theorem Rel.block (r:Rel K G ρ H S) (s:Same H H1) (h:H p=none) (h1:OldA H1 p):Rel K G (ρ.block p) H1 S:=by
 refine⟨r.len,r.nd,λn a o e1 e2=>(r.ob n a o e1 e2).mono (.block s h) λu q=>s _ _ q,λa q=>?_,r.tb.same s⟩
 rcases q with q|rfl
 ·exact(r.same s).bl a q
 ·exact h1
theorem Ext.free (e:Ext ρ H ρ1 H1):Ext ρ H ⟨ρ1.l,ρ.b⟩ H1:=⟨e.pre,e.new,e.stp,λ_ h=>h,λ_ h=>.inl h⟩
theorem LstAt.free {vs:List V} (h:LstAt K ρ H p vs) (k:∀ a,b a->ρ.b a):LstAt K ⟨ρ.l,b⟩ H p vs:=by
 rcases h with⟨h,n⟩|h
 ·exact .inl ⟨h,n.1,λz=>n.2 (k _ z)⟩
 ·exact .inr h
mutual
theorem RV.free (k:∀ a,b a->ρ.b a):∀ {w:W} {v:V},RV K G ρ H w v->RV K G ⟨ρ.l,b⟩ H w v
 | _,_,.non=>.non
 | _,_,.bl b=>.bl b
 | _,_,.int i=>.int i
 | _,_,.str x=>.str x
 | _,_,.ty n=>.ty n
 | _,_,.cls c=>.cls c
 | _,_,.tup h r=>.tup h (RVs.free k r)
 | _,_,.kt h r=>.kt h (RVs.free k r)
 | _,_,.lst h n r=>.lst h ⟨n.1,λz=>n.2 (k _ z)⟩ (RVs.free k r)
 | _,_,.dk h n l r=>.dk h ⟨n.1,λz=>n.2 (k _ z)⟩ l (RVs.free k r)
 | _,_,.dt h n l r=>.dt h ⟨n.1,λz=>n.2 (k _ z)⟩ l (RVs.free k r)
 | _,_,.obj h n c f l r=>.obj h ⟨n.1,λz=>n.2 (k _ z)⟩ c f l (RVs.free k r)
 | _,_,.exc h n h2 n2 l r=>.exc h ⟨n.1,λz=>n.2 (k _ z)⟩ h2 ⟨n2.1,λz=>n2.2 (k _ z)⟩ l (RVs.free k r)
 | _,_,.ref h=>.ref h
 | _,_,.scr h=>.scr (h.free k)
theorem RVs.free (k:∀ a,b a->ρ.b a):∀ {ws:List W} {vs:List V},RVs K G ρ H ws vs->RVs K G ⟨ρ.l,b⟩ H ws vs
 | _,_,.nil=>.nil
 | _,_,.cons h r=>.cons (RV.free k h) (RVs.free k r)
end
theorem RKs.free {κ:Type} (k:∀ a,b a->ρ.b a):∀ {ws:List (κ × W)} {vs:List (κ × V)},RKs K G ρ H ws vs->RKs K G ⟨ρ.l,b⟩ H ws vs
 | _,_,.nil=>.nil
 | _,_,.cons h t=>.cons ⟨h.1,h.2.free k⟩ (RKs.free k t)
theorem ObR.free (k:∀ a,b a->ρ.b a):∀ {o:Ob},ObR K G ρ H p o->ObR K G ⟨ρ.l,b⟩ H p o
 | .lst _,⟨vs,h,r⟩=>⟨vs,h,r.free k⟩
 | .dk _,⟨vs,h,r⟩=>⟨vs,h,r.free k⟩
 | .dt _,⟨vs,h,r⟩=>⟨vs,h,r.free k⟩
 | .ins _ _,⟨dx,vs,h,c,f,r⟩=>⟨dx,vs,h,c,f,r.free k⟩
 | .fdk _,⟨o,vs,h,r⟩=>⟨o,vs,h,r.free k⟩
theorem Rel.free (r:Rel K G ρ H S) (k:∀ a,b a->ρ.b a):Rel K G ⟨ρ.l,b⟩ H S:=⟨r.len,r.nd,λn a o h1 h2=>(r.ob n a o h1 h2).free k,λa h=>r.bl a (k a h),r.tb⟩
end
section
variable (K:qk) (G:Str->Addr) (X:W->Rho->Hp->Prop)
def Good {α:Type} (ρ:Rho) (H:Hp) (r:Option (Res α × Sto)) (k:α->Sto->Rho->Hp->Prop):Prop:=match r with
 | none=>False
 | some (.ok a,S')=>∀ ρ' H',Ext ρ H ρ' H'->Rel K G ρ' H' S'->k a S' ρ' H'
 | some (.er e,S')=>∀ ρ' H',Ext ρ H ρ' H'->Rel K G ρ' H' S'->X e ρ' H'
def KL (Q:VK):W->Sto->Rho->Hp->Prop:=λw _ ρ H=>∀ v,RV K G ρ H w v->Q v H
def vRJ (Q:List V->Hp->Prop):List W->Sto->Rho->Hp->Prop:=λw _ ρ H=>∀ v,RVs K G ρ H w v->Q v H
structure RE (t:TE) (m:Lo->M W):Prop where
 run:∀ {ρ:Rho} {S:Sto} {H:Hp} {L:Lo} {σ:L2.St} {Q:VK},Rel K G ρ H S->RL K G ρ H L σ->Good K G X ρ H (m L S) (KL K G Q)->t σ H Q
structure RT (t:TT) (m:Lo->M Bool):Prop where
 run:∀ {ρ:Rho} {S:Sto} {H:Hp} {L:Lo} {σ:L2.St} {Q:Bool->Hp->Prop},Rel K G ρ H S->RL K G ρ H L σ->Good K G X ρ H (m L S) (λb _ _ H=>Q b H)->t σ H Q
structure RA (t:TA) (m:Lo->M (List W)):Prop where
 run:∀ {ρ:Rho} {S:Sto} {H:Hp} {L:Lo} {σ:L2.St} {Q:List V->Hp->Prop},Rel K G ρ H S->RL K G ρ H L σ->Good K G X ρ H (m L S) (vRJ K G Q)->t σ H Q
inductive _root_.Mi.Oc where
 | nx (L:Lo)|rt (w:W)|bk (L:Lo)|ct (L:Lo)
def nD (D:Ends):Oc->Sto->Rho->Hp->Prop
 | .nx L,_,ρ,H=>∀ σ,RL K G ρ H L σ->D.nx σ H
 | .bk L,_,ρ,H=>∀ σ,RL K G ρ H L σ->D.bk σ H
 | .ct L,_,ρ,H=>∀ σ,RL K G ρ H L σ->D.ct σ H
 | .rt w,_,ρ,H=>∀ v,RV K G ρ H w v->D.rt v H
structure RS (t:TS) (m:Lo->M Oc):Prop where
 run:∀ {ρ:Rho} {S:Sto} {H:Hp} {L:Lo} {σ:L2.St} {D:Ends},Rel K G ρ H S->RL K G ρ H L σ->Good K G X ρ H (m L S) (nD K G D)->t D σ H
end
section
variable {K:qk} {G:Str->Addr} {X:W->Rho->Hp->Prop} {α β:Type} {ρ:Rho} {H H1:Hp} {S:Sto} {r:Option (Res α × Sto)} {k k':α->Sto->Rho->Hp->Prop}
theorem Good.imp (h:Good K G X ρ H r k) (f:∀ a S' ρ' H',Ext ρ H ρ' H'->Rel K G ρ' H' S'->k a S' ρ' H'->k' a S' ρ' H'):Good K G X ρ H r k':=by
 unfold Good at h ⊢
 split at h
 ·exact h
 ·exact λρ' H' e q=>f _ _ _ _ e q (h ρ' H' e q)
 ·exact h
theorem Good.bind {m:M β} {f:β->M α} (h:Good K G X ρ H (M.bind m f S) k):Good K G X ρ H (m S) (λa S1 ρ1 H1=>Good K G X ρ1 H1 (f a S1) k):=by
 unfold M.bind at h
 cases e:m S with
 | none=>rw[e] at h;exact h
 | some p=>
  obtain⟨p,S1⟩:=p
  rw[e] at h
  cases p with
  | er x=>exact h
  | ok a=>
   intro ρ1 H1 e1 r1
   simp only at h
   cases e2:f a S1 with
   | none=>rw[e2] at h;exact h
   | some p2=>
    obtain⟨p2,S2⟩:=p2
    rw[e2] at h
    cases p2 with
    | er x=>exact λρ2 H2 f2 q2=>h ρ2 H2 (e1.trans f2) q2
    | ok b=>exact λρ2 H2 f2 q2=>h ρ2 H2 (e1.trans f2) q2
theorem Good.ok {a:α} (h:Good K G X ρ H (some (.ok a,S)) k) (q:Rel K G ρ H S):k a S ρ H:=h ρ H .refl q
theorem Good.same {a:α} (h:Good K G X ρ H (some (.ok a,S)) k) (q:Rel K G ρ H S) (s:Same H H1):k a S ρ H1:=h ρ H1 (.same s) (q.same s)
theorem Good.lift {o:Option α} (h:Good K G X ρ H (gL o S) k):∃ a,o=some a/\Good K G X ρ H (some (.ok a,S)) k:=by
 unfold gL at h
 cases o with
 | none=>exact h.elim
 | some a=>exact⟨a,rfl,h⟩
theorem Good.at (h:Good K G X ρ H r k) {ρ1:Rho} (e:Ext ρ H ρ1 H1):Good K G X ρ1 H1 r k:=by
 unfold Good at h ⊢
 split at h
 ·exact h
 ·exact λρ' H' f q=>h ρ' H' (e.trans f) q
 ·exact λρ' H' f q=>h ρ' H' (e.trans f) q
end
end Mi
namespace Mi
open PySem PySem.Spec
open PyProof.Rows L2 Cp
def lim:Nat:=10000000
theorem tS {n:Nat} (h:n<=lim):n<=sizeLine:=jb h qg
def P0r:W->W->Option W
 | .int i,.int j=>some (.int (i+j))
 | .str a,.str b=>if a.length+b.length<=lim then some (.str (a++b)) else none
 | .tup a,.tup b=>if a.length+b.length<=lim then some (.tup (a++b)) else none
 | _,_=>none
def k6:W->W->Option W
 | .int i,.int j=>some (.int (i - j))
 | _,_=>none
def xO (i j:Int):Bool:=(decide (-(2 ^ 64) < i) && decide (i < 2 ^ 64)) || (decide (-(2 ^ 64) < j) && decide (j < 2 ^ 64))
def N9:W->W->Option W
 | .int i,.int j=>if xO i j then some (.int (i * j)) else none
 | _,_=>none
def YE:W->W->Option W
 | .int i,.int j=>if 0 < j then some (.int (i % j)) else none
 | _,_=>none
def NL:W->W->Option W
 | .int i,.int j=>if 0 < j/\j < 1073741824 then some (.int (i / j)) else none
 | _,_=>none
def sE:W->W->Option W
 | .int i,.int j=>if 0<=j/\j<=1000000/\i.natAbs < 2 ^ 64 then some (.int (i ^ j.toNat)) else none
 | _,_=>none
def ltW:W->W->Option W
 | .int i,.int j=>some (.bl (decide (i < j)))
 | _,_=>none
def leW:W->W->Option W
 | .int i,.int j=>some (.bl (decide (i<=j)))
 | _,_=>none
def gtW:W->W->Option W
 | .int i,.int j=>some (.bl (decide (j < i)))
 | _,_=>none
def geW:W->W->Option W
 | .int i,.int j=>some (.bl (decide (j<=i)))
 | _,_=>none
def tH:W->Bool
 | .non=>true
 | _=>false
def v6j (x:W):Option W:=some (.bl (tH x))
def RX (x:W):Option W:=some (.bl (!tH x))
mutual
def OF (f:Nat->Option PyData):W->Option PyData
 | .non=>some .none
 | .bl b=>some (.bool b)
 | .int i=>some (.int i)
 | .str x=>some (.str x)
 | .tup xs=>(MJ f xs).map .tuple
 | .kt xs=>(MJ f xs).map .tuple
 | .lst xs=>(MJ f xs).map .list
 | .ref n=>f n
 | _=>none
def MJ (f:Nat->Option PyData):List W->Option (List PyData)
 | []=>some []
 | x :: xs=>match OF f x,MJ f xs with
  | some d,some ds=>some (d :: ds)
  | _,_=>none
end
def f30 (w:List W):Option (List PyData):=MJ (λ_=>none) w
def mI (S:Sto) (n:Nat):Option PyData:=match S[n]? with
 | some (.lst xs)=>(f30 xs).map .list
 | _=>none
def toD (S:Sto) (w:W):Option PyData:=OF (mI S) w
def yC:W->W->Option Bool
 | .non,.non=>some true
 | .non,.int _=>some false | .int _,.non=>some false | .non,.bl _=>some false | .bl _,.non=>some false | .non,.str _=>some false | .str _,.non=>some false
 | .int i,.int j=>some (decide (i=j))
 | .bl i,.bl j=>some (decide (i=j))
 | .str i,.str j=>some (decide (i=j))
 | .int _,.str _=>some false | .str _,.int _=>some false | .bl _,.str _=>some false | .str _,.bl _=>some false
 | _,_=>none
def eqW (S:Sto) (x y:W):Option Bool:=match yC x y with
 | some b=>some b
 | none=>match toD S x,toD S y with
  | some d,some e=>if SeqAt.shaped d && SeqAt.shaped e then some (PyData.eqv d e) else none
  | _,_=>none
def QN:W->Bool
 | .non=>true | .bl _=>true | .int _=>true | .str _=>true
 | _=>false
def jX:W->W->Bool
 | .non,.non=>true
 | .bl a,.bl b=>a == b
 | .bl a,.int b=>(if a then 1 else 0) == b
 | .int a,.bl b=>a == (if b then 1 else 0)
 | .int a,.int b=>a == b
 | .str a,.str b=>a == b
 | _,_=>false
def yG (S:Sto):W->Option (List W)
 | .tup xs=>some xs
 | .kt xs=>some xs
 | .lst xs=>some xs
 | .ref n=>match S[n]? with
  | some (.lst xs)=>some xs
  | _=>none
 | _=>none
def fA (S:Sto):W->Option (List W)
 | .lst xs=>some xs
 | .ref n=>match S[n]? with
  | some (.lst xs)=>some xs
  | _=>none
 | _=>none
def dH (s:Str):Option Nat:=match s.cps.toList with
 | [c]=>some c
 | _=>none
def TF (S:Sto) (x y:W):Option Bool:=match yG S y with
 | none=>none
 | some xs=>if QN x && xs.all QN then some (xs.any λy=>jX y x) else
  match toD S x,(fA S y).bind (MJ (mI S)) with
  | some d,some ds=>if SeqAt.shaped d && SeqAt.shaped (.list ds) then some (ds.any λz=>PyData.eqv z d) else none
  | _,_=>none
def inW (S:Sto) (x y:W):Option Bool:=match y with
 | .str z=>match x with
  | .str s=>(dH s).map λc=>decide (c ∈ z.cps.toList)
  | _=>none
 | y=>TF S x y
def MY (S:Sto) (x y:W):Option W:=match P0r x y with
 | some w=>some w
 | none=>match fA S x,fA S y with
  | some a,some b=>if a.length+b.length<=lim then some (.lst (a++b)) else none
  | _,_=>none
def eP (S:Sto):List W->Option W
 | [.str z]=>if z.length<=lim then some (.int z.length) else none
 | [x]=>(yG S x).map λxs=>.int xs.length
 | _=>none
def tyW (S:Sto):W->Option String
 | .non=>some "NoneType" | .bl _=>some "bool" | .int _=>some "int" | .str _=>some "str"
 | .tup _=>some "tuple" | .lst _=>some "list" | .dk _ _=>some "dict" | .dt _ _=>some "dict"
 | .ref n=>match S[n]? with
  | some (.lst _)=>some "list"
  | some (.dk _)=>some "dict"
  | some (.dt _)=>some "dict"
  | _=>none
 | _=>none
def WT:List W->Option (List String)
 | []=>some []
 | .ty n :: r=>(WT r).map (n :: ·)
 | _=>none
def tM (t:String):List String->Option Bool
 | []=>some false
 | T :: r=>match kitB t T with
  | some true=>some true
  | some false=>tM t r
  | none=>none
def iQ (S:Sto):List W->Option W
 | [x,.ty T]=>match tyW S x with
  | some t=>(kitB t T).map .bl
  | none=>none
 | [x,.tup cs]=>match tyW S x,WT cs with
  | some t,some Ts=>(tM t Ts).map .bl
  | _,_=>none
 | _=>none
def MSr:List W->Option W
 | [.int i]=>some (.int i)
 | [.bl b]=>some (.int (if b then 1 else 0))
 | _=>none
def C4:List W->Option (List Bool)
 | []=>some []
 | .bl b :: r=>(C4 r).map (b :: ·)
 | _=>none
def qO (S:Sto):List W->Option W
 | [x]=>((fA S x).bind C4).map λbs=>.bl (bs.all id)
 | _=>none
def oV (S:Sto):W->Option (List W)
 | .tup xs=>some xs
 | x=>fA S x
def qY (S:Sto):List W->Option W
 | [x]=>(oV S x).map .tup
 | _=>none
def ERK (S:Sto):List W->Option W
 | [x]=>(yG S x).map .lst
 | _=>none
def fY:List W->Option W
 | [.int i,.int j]=>some (.int (if j < i then j else i))
 | _=>none
def ixW (S:Sto) (x i:W):Option W:=match i with
 | .int i=>match x with
  | .str z=>if z.length<=lim then(atI z.cps.toList i).map λc=>.str ⟨#[c]⟩ else none
  | x=>(yG S x).bind λxs=>atI xs i
 | _=>none
def PD {α:Type} (xs:List α) (lo hi:Option Int):List α:=(xs.drop (HT.sIx xs.length 0 lo)).take (HT.sIx xs.length xs.length hi - HT.sIx xs.length 0 lo)
def jT {κ β:Type} [DecidableEq κ] (kvs:List (κ × β)) (k:κ):Option β:=(kvs.find? λkv=>decide (kv.1=k)).map (·.2)
def pK {κ β:Type} [DecidableEq κ] (kvs:List (κ × β)) (k:κ) (v:β):List (κ × β):=
 if (kvs.any λkv=>decide (kv.1=k))=true then kvs.map (λkv=>if kv.1=k then(kv.1,v) else kv) else kvs++[(k,v)]
def mS:W->Option Key
 | .int i=>some (.inl i)
 | .str x=>some (.inr x)
 | _=>none
def yD:List W->Option (List Key)
 | []=>some []
 | x :: r=>match mS x,yD r with
  | some k,some ks=>some (k :: ks)
  | _,_=>none
def iJ:W->Option (List Key)
 | .tup xs=>yD xs
 | _=>none
def qW (S:Sto) (d k:W):Option (Option W):=match d with
 | .dk ks ws=>(mS k).map λk=>jT (ks.zip ws) k
 | .dt ks ws=>(iJ k).map λk=>jT (ks.zip ws) k
 | .ref n=>match S[n]? with
  | some (.dk kvs)=>(mS k).map λk=>jT kvs k
  | some (.dt kvs)=>(iJ k).map λk=>jT kvs k
  | _=>none
 | _=>none
def P8 (S:Sto) (f:Str):W->Option W
 | .obj _ fs ws=>(fs.zip ws).lookup f
 | .ref n=>match S[n]? with
  | some (.ins _ fs)=>fs.lookup f
  | _=>none
 | _=>none
end Mi
namespace Mi
open PySem PySem.Spec
open PyProof.Rows L2 Cp
def opS (g:Sto->W->W->Option W):W->W->M W:=λx y S=>gL (g S x y) S
def MI (g:Sto->List W->Option W):List W->M W:=λx S=>gL (g S x) S
section
variable (K:qk) (G:Str->Addr)
def jU (r:R2) (f:W->W->M W):Prop:=∀ {X:W->Rho->Hp->Prop} {ρ:Rho} {S:Sto} {H:Hp} {x y:W} {vx vy:V} {Q:VK},Rel K G ρ H S->RV K G ρ H x vx->RV K G ρ H y vy->Good K G X ρ H (f x y S) (KL K G Q)->r vx vy H Q
def ACq (r:V->Hp->VK->Prop) (f:W->M W):Prop:=∀ {X:W->Rho->Hp->Prop} {ρ:Rho} {S:Sto} {H:Hp} {x:W} {vx:V} {Q:VK},Rel K G ρ H S->RV K G ρ H x vx->Good K G X ρ H (f x S) (KL K G Q)->r vx H Q
def EG (r:List V->Hp->VK->Prop) (f:List W->M W):Prop:=∀ {X:W->Rho->Hp->Prop} {ρ:Rho} {S:Sto} {H:Hp} {xs:List W} {vs:List V} {Q:VK},Rel K G ρ H S->RVs K G ρ H xs vs->Good K G X ρ H (f xs S) (KL K G Q)->r vs H Q
end
section
variable {K:qk} {G:Str->Addr} {X:W->Rho->Hp->Prop} {ρ:Rho} {H:Hp} {S:Sto} {Q:VK} {w:W} {v:V}
theorem Good.fin (g:Good K G X ρ H (some (.ok w,S)) (KL K G Q)) (rel:Rel K G ρ H S) (r:RV K G ρ H w v):Q v H:=g.ok rel v r
theorem Good.newT {ws:List W} {vs:List V} (g:Good K G X ρ H (some (.ok (.tup ws),S)) (KL K G Q)) (rel:Rel K G ρ H S) (r:RVs K G ρ H ws vs):∀ p,H p=none->Q (.ref p) (upd H p (.tup vs)):=λp hp=>by
 have s:=T5 (o:=.tup vs) hp
 exact g.same rel s _ (.tup upd_same (r.mono (.same s)))
theorem Good.newL {ws:List W} {vs:List V} (g:Good K G X ρ H (some (.ok (.lst ws),S)) (KL K G Q)) (rel:Rel K G ρ H S) (r:RVs K G ρ H ws vs):∀ p,H p=none->Q (.ref p) (upd H p (.lst vs)):=λp hp=>by
 have s:=T5 (o:=.lst vs) hp
 exact g.same rel s _ (.lst upd_same (rel.new hp) (r.mono (.same s)))
theorem mBj:jU K G (G2 K) (opS λ_=>P0r):=by
 intro X ρ S H x y vx vy Q rel rx ry g
 obtain⟨w,hw,g⟩:=Good.lift (o:=P0r x y) g
 unfold P0r at hw
 split at hw
 ·cases rx;cases ry;cases hw
  exact oJn (g.fin rel (.int _))
 ·split at hw
  ·rename_i h
   cases rx;cases ry;cases hw
   exact fWz (tS h) (g.fin rel (.str _))
  ·cases hw
 ·split at hw
  ·rename_i h
   cases rx with
   | @tup _ p1 vs1 h1 r1=>
    cases ry with
    | @tup _ p2 vs2 h2 r2=>
     cases hw
     refine .inr (.inr (.inr ⟨p1,p2,vs1,vs2,rfl,rfl,SqT.of h1,SqT.of h2,?_,λe=>?_,λ_ e=>?_,λ_ _=>g.newT rel (r1.append r2)⟩))
     ·rw[<- r1.length,<- r2.length]
      exact tS h
     ·subst e
      cases r1
      exact g.fin rel (.tup h2 r2)
     ·subst e
      cases r2
      rw[jw] at g
      exact g.fin rel (.tup h1 r1)
  ·cases hw
 ·cases hw
theorem jJN {g0:Int->Int->Int} {f:W->W->Option W} (h:∀ x y w,f x y=some w->∃ i j,x = .int i/\y = .int j/\w = .int (g0 i j)):jU K G (rI0 λi j=>.int (g0 i j)) (opS λ_=>f):=by
 intro X ρ S H x y vx vy Q rel rx ry g
 obtain⟨w,hw,g⟩:=Good.lift (o:=f x y) g
 obtain⟨i,j,rfl,rfl,rfl⟩:=h _ _ _ hw
 cases rx;cases ry
 exact⟨i,j,rfl,rfl,g.fin rel (.int _)⟩
theorem rZ {C:Int->Int->Prop} {g0:Int->Int->Int} {f:W->W->Option W} (h:∀ x y w,f x y=some w->∃ i j,x = .int i/\y = .int j/\C i j/\w = .int (g0 i j)):jU K G (rI C λi j=>.int (g0 i j)) (opS λ_=>f):=by
 intro X ρ S H x y vx vy Q rel rx ry g
 obtain⟨w,hw,g⟩:=Good.lift (o:=f x y) g
 obtain⟨i,j,rfl,rfl,c,rfl⟩:=h _ _ _ hw
 cases rx;cases ry
 exact⟨i,j,rfl,rfl,c,g.fin rel (.int _)⟩
theorem EV {g0:Int->Int->Bool} {f:W->W->Option W} (h:∀ x y w,f x y=some w->∃ i j,x = .int i/\y = .int j/\w = .bl (g0 i j)):jU K G (rI0 λi j=>.bl (g0 i j)) (opS λ_=>f):=by
 intro X ρ S H x y vx vy Q rel rx ry g
 obtain⟨w,hw,g⟩:=Good.lift (o:=f x y) g
 obtain⟨i,j,rfl,rfl,rfl⟩:=h _ _ _ hw
 cases rx;cases ry
 exact⟨i,j,rfl,rfl,g.fin rel (.bl _)⟩
theorem HH:jU K G (rI0 λi j=>.int (i - j)) (opS λ_=>k6):=jJN λx y w h=>by
 unfold k6 at h
 split at h
 ·exact⟨_,_,rfl,rfl,(Option.some.inj h).symm⟩
 ·cases h
theorem XD:jU K G (rI CMul λi j=>.int (i * j)) (opS λ_=>N9):=rZ λx y w h=>by
 unfold N9 at h
 split at h
 ·split at h
  ·rename_i c
   refine⟨_,_,rfl,rfl,?_,(Option.some.inj h).symm⟩
   simp only[xO,Bool.or_eq_true,js,decide_eq_true_eq] at c
   exact c
  ·cases h
 ·cases h
theorem aU:jU K G (rI (λ_ j=>0 < j) λi j=>.int (i % j)) (opS λ_=>YE):=rZ λx y w h=>by
 unfold YE at h
 split at h
 ·split at h
  ·rename_i c
   exact⟨_,_,rfl,rfl,c,(Option.some.inj h).symm⟩
  ·cases h
 ·cases h
theorem N4M:jU K G (rI CDiv λi j=>.int (i / j)) (opS λ_=>NL):=rZ λx y w h=>by
 unfold NL at h
 split at h
 ·split at h
  ·rename_i c
   exact⟨_,_,rfl,rfl,c,(Option.some.inj h).symm⟩
  ·cases h
 ·cases h
theorem EU:jU K G (rI CPow λi j=>.int (i ^ j.toNat)) (opS λ_=>sE):=rZ λx y w h=>by
 unfold sE at h
 split at h
 ·split at h
  ·rename_i c
   exact⟨_,_,rfl,rfl,c,(Option.some.inj h).symm⟩
  ·cases h
 ·cases h
theorem nQ:jU K G (rI0 λi j=>.bl (decide (i < j))) (opS λ_=>ltW):=EV λx y w h=>by
 unfold ltW at h
 split at h
 ·exact⟨_,_,rfl,rfl,(Option.some.inj h).symm⟩
 ·cases h
theorem tY:jU K G (rI0 λi j=>.bl (decide (i<=j))) (opS λ_=>leW):=EV λx y w h=>by
 unfold leW at h
 split at h
 ·exact⟨_,_,rfl,rfl,(Option.some.inj h).symm⟩
 ·cases h
theorem pT:jU K G (rI0 λi j=>.bl (decide (j < i))) (opS λ_=>gtW):=EV λx y w h=>by
 unfold gtW at h
 split at h
 ·exact⟨_,_,rfl,rfl,(Option.some.inj h).symm⟩
 ·cases h
theorem nKq:jU K G (rI0 λi j=>.bl (decide (j<=i))) (opS λ_=>geW):=EV λx y w h=>by
 unfold geW at h
 split at h
 ·exact⟨_,_,rfl,rfl,(Option.some.inj h).symm⟩
 ·cases h
theorem RV.non_iff (r:RV K G ρ H w v):decide (v = .non)=tH w:=by
 cases r <;> simp [tH]
theorem B7:jU K G (λx y H Q=>y = .non/\Q (.bl (decide (x = .non))) H) (opS λ_ x y=>match y with | .non=>v6j x | _=>none):=by
 intro X ρ S H x y vx vy Q rel rx ry g
 obtain⟨w,hw,g⟩:=Good.lift (o:=match y with | .non=>v6j x | _=>none) g
 split at hw
 ·cases ry
  refine⟨rfl,?_⟩
  rw[rx.non_iff]
  cases hw
  exact g.fin rel (.bl _)
 ·cases hw
theorem G0:jU K G (λx y H Q=>y = .non/\Q (.bl (!decide (x = .non))) H) (opS λ_ x y=>match y with | .non=>RX x | _=>none):=by
 intro X ρ S H x y vx vy Q rel rx ry g
 obtain⟨w,hw,g⟩:=Good.lift (o:=match y with | .non=>RX x | _=>none) g
 split at hw
 ·cases ry
  refine⟨rfl,?_⟩
  rw[rx.non_iff]
  cases hw
  exact g.fin rel (.bl _)
 ·cases hw
mutual
theorem xE {f:Nat->Option PyData} (hf:∀ n a d,ρ.l[n]? = some a->f n=some d->Dp K H (.ref a) d):∀ {w:W} {v:V} {d:PyData},RV K G ρ H w v->OF f w=some d->Dp K H v d
 | _,_,_,.non,h=>by simp only[OF] at h;cases h;exact .non
 | _,_,_,.bl b,h=>by simp only[OF] at h;cases h;exact .bl b
 | _,_,_,.int i,h=>by simp only[OF] at h;cases h;exact .int i
 | _,_,_,.str x,h=>by simp only[OF] at h;cases h;exact .str x
 | _,_,_,.tup h1 r,h=>by
  simp only[OF] at h
  obtain⟨ds,h2,rfl⟩:=qm.mp h
  exact .tup (SqT.of h1) (ZE hf r h2)
 | _,_,_,.kt h1 r,h=>by
  simp only[OF] at h
  obtain⟨ds,h2,rfl⟩:=qm.mp h
  exact .tup (PV h1) (ZE hf r h2)
 | _,_,_,.lst h1 n r,h=>by
  simp only[OF] at h
  obtain⟨ds,h2,rfl⟩:=qm.mp h
  exact .lst (SqL.of h1) (ZE hf r h2)
 | _,_,_,.ref e,h=>by simp only[OF] at h;exact hf _ _ _ e h
 | _,_,_,.dk _ _ _ _,h=>by simp only[OF] at h;cases h
 | _,_,_,.dt _ _ _ _,h=>by simp only[OF] at h;cases h
 | _,_,_,.obj _ _ _ _ _ _,h=>by simp only[OF] at h;cases h
 | _,_,_,.scr _,h=>by simp only[OF] at h;cases h
 | _,_,_,.ty _,h=>by simp only[OF] at h;cases h
 | _,_,_,.cls _,h=>by simp only[OF] at h;cases h
theorem ZE {f:Nat->Option PyData} (hf:∀ n a d,ρ.l[n]? = some a->f n=some d->Dp K H (.ref a) d):∀ {ws:List W} {vs:List V} {ds:List PyData},RVs K G ρ H ws vs->MJ f ws=some ds->DpAll K H vs ds
 | _,_,_,.nil,h=>by simp only[MJ] at h;cases h;exact .nil
 | _,_,_,.cons h r,e=>by
  simp only[MJ] at e
  split at e
  ·rename_i d ds h1 h2
   cases e
   exact .cons (xE hf h h1) (ZE hf r h2)
  ·cases e
end
theorem TN (rel:Rel K G ρ H S):∀ n a d,ρ.l[n]? = some a->mI S n=some d->Dp K H (.ref a) d:=λn a d hr h=>by
 unfold mI at h
 split at h
 ·rename_i xs hs
  obtain⟨ds,h2,rfl⟩:=qm.mp h
  obtain⟨vs,h3,r⟩:=rel.ref hr hs
  exact .lst (SqL.of h3) (ZE (λ_ _ _ _ z=>by cases z) r h2)
 ·cases h
theorem IB (rel:Rel K G ρ H S) {d:PyData} (r:RV K G ρ H w v) (h:toD S w=some d):Dp K H v d:=xE (TN rel) r h
theorem ZA {x y:W} {vx vy:V} {b:Bool} (rx:RV K G ρ H x vx) (ry:RV K G ρ H y vy) (h:yC x y=some b):scal vx vy=true/\decide (vx=vy)=b:=by
 unfold yC at h
 split at h <;> first|(cases h;done)|(cases rx;cases ry;cases h;refine⟨rfl,?_⟩;simp)
theorem SZ:jU K G (gM K) (opS λS x y=>(eqW S x y).map W.bl):=by
 intro X ρ S H x y vx vy Q rel rx ry g
 obtain⟨w,hw,g⟩:=Good.lift (o:=(eqW S x y).map W.bl) g
 obtain⟨b,hb,rfl⟩:=qm.mp hw
 unfold eqW at hb
 split at hb
 ·rename_i h
  cases hb
  obtain⟨h1,h2⟩:=ZA rx ry h
  exact NOb h1 (by rw[h2];exact g.fin rel (.bl _))
 ·split at hb
  ·rename_i d e h1 h2
   split at hb
   ·rename_i sh
    cases hb
    have:=Qj.mp sh
    exact CHh (IB rel rx h1) (IB rel ry h2) this.1 this.2 (g.fin rel (.bl _))
   ·cases hb
  ·cases hb
theorem QM:jU K G (lE K) (opS λS x y=>(eqW S x y).map λb=>W.bl (!b)):=by
 intro X ρ S H x y vx vy Q rel rx ry g
 obtain⟨w,hw,g⟩:=Good.lift (o:=(eqW S x y).map λb=>W.bl (!b)) g
 obtain⟨b,hb,rfl⟩:=qm.mp hw
 unfold eqW at hb
 split at hb
 ·rename_i h
  cases hb
  obtain⟨h1,h2⟩:=ZA rx ry h
  exact oXe h1 (by rw[h2];exact g.fin rel (.bl _))
 ·split at hb
  ·rename_i d e h1 h2
   split at hb
   ·rename_i sh
    cases hb
    have:=Qj.mp sh
    exact CGl (IB rel rx h1) (IB rel ry h2) this.1 this.2 (g.fin rel (.bl _))
   ·cases hb
  ·cases hb
theorem k7 (r:RV K G ρ H w v) (h:QN w=true):flatV v=true:=by
 cases r <;> first|rfl|(simp [QN] at h)
theorem M4x {x y:W} {vx vy:V} (rx:RV K G ρ H x vx) (ry:RV K G ρ H y vy) (hx:QN x=true) (hy:QN y=true):eqV vx vy=jX x y:=by
 cases rx <;> first|(cases ry <;> first|rfl|(simp [QN] at hy))|(simp [QN] at hx)
theorem FN:∀ {ws:List W} {vs:List V},RVs K G ρ H ws vs->ws.all QN=true->vs.all flatV=true
 | _,_,.nil,_=>rfl
 | _,_,.cons h r,e=>by
  simp only[ze,js] at e ⊢
  exact⟨k7 h e.1,FN r e.2⟩
theorem EYK {x:W} {vx:V} (rx:RV K G ρ H x vx) (hx:QN x=true):∀ {ws:List W} {vs:List V},RVs K G ρ H ws vs->ws.all QN=true->inV vx vs=ws.any λy=>jX y x
 | _,_,.nil,_=>rfl
 | _,_,.cons h r,e=>by
  simp only[ze,js] at e
  simp only[inV,List.any_cons]
  rw[M4x h rx e.1 hx]
  have:=EYK rx hx r e.2
  simp only[inV] at this
  rw[this]
theorem rW (rel:Rel K G ρ H S) {xs:List W} (r:RV K G ρ H w v) (h:yG S w=some xs):∃ p vs,v = .ref p/\(SqL K H p vs \/ SqT K H p vs)/\RVs K G ρ H xs vs:=by
 unfold yG at h
 split at h
 ·cases h
  cases r with
  | tup h1 r=>exact⟨_,_,rfl,.inr (SqT.of h1),r⟩
 ·cases h
  cases r with
  | kt h1 r=>exact⟨_,_,rfl,.inr (PV h1),r⟩
 ·cases h
  cases r with
  | lst h1 n r=>exact⟨_,_,rfl,.inl (SqL.of h1),r⟩
 ·split at h
  ·rename_i hs
   cases h
   cases r with
   | ref e=>
    obtain⟨vs,h3,r⟩:=rel.ref e hs
    exact⟨_,_,rfl,.inl (SqL.of h3),r⟩
  ·cases h
 ·cases h
theorem pX (rel:Rel K G ρ H S) {xs:List W} (r:RV K G ρ H w v) (h:fA S w=some xs):∃ p vs,v = .ref p/\H p=some (.lst vs)/\RVs K G ρ H xs vs:=by
 unfold fA at h
 split at h
 ·cases h
  cases r with
  | lst h1 n r=>exact⟨_,_,rfl,h1,r⟩
 ·split at h
  ·rename_i hs
   cases h
   cases r with
   | ref e=>
    obtain⟨vs,h3,r⟩:=rel.ref e hs
    exact⟨_,_,rfl,h3,r⟩
  ·cases h
 ·cases h
theorem G8O {x y:W} {vx vy:V} {b:Bool} (rel:Rel K G ρ H S) (rx:RV K G ρ H x vx) (ry:RV K G ρ H y vy) (h:inW S x y=some b) :
  (∃ c z,vx = .str ⟨#[c]⟩/\vy = .str z/\b=decide (c ∈ z.cps.toList)) \/ (∃ p vs,vy = .ref p/\(SqL K H p vs \/ SqT K H p vs)/\flatV vx=true/\vs.all flatV=true/\b=inV vx vs) \/
  ∃ d ds,Dp K H vx d/\Dp K H vy (.list ds)/\SeqAt.shaped d=true/\SeqAt.shaped (.list ds)=true/\b=ds.any λz=>PyData.eqv z d:=by
 unfold inW at h
 split at h
 ·split at h
  ·rename_i s
   obtain⟨c,hc,rfl⟩:=qm.mp h
   cases rx;cases ry
   refine .inl ⟨c,_,?_,rfl,rfl⟩
   unfold dH at hc
   split at hc
   ·rename_i c' e
    cases hc
    obtain⟨a⟩:=s
    obtain⟨l⟩:=a
    simp only at e
    rw[e]
   ·cases hc
  ·cases h
 ·unfold TF at h
  split at h
  ·cases h
  ·rename_i xs hs
   split at h
   ·rename_i hf
    cases h
    have hf:=Qj.mp hf
    obtain⟨p,vs,rfl,hq,r⟩:=rW rel ry hs
    exact .inr (.inl ⟨p,vs,rfl,hq,k7 rx hf.1,FN r hf.2,(EYK rx hf.1 r hf.2).symm⟩)
   ·split at h
    ·rename_i d ds h1 h2
     split at h
     ·rename_i sh
      cases h
      have sh:=Qj.mp sh
      obtain⟨ws,h3,h4⟩:=jF.mp h2
      obtain⟨p,vs,rfl,hp,r⟩:=pX rel ry h3
      exact .inr (.inr ⟨d,ds,IB rel rx h1,.lst (SqL.of hp) (ZE (TN rel) r h4),sh.1,sh.2,rfl⟩)
     ·cases h
    ·cases h
theorem eH:jU K G (G2 K) (opS MY):=by
 intro X ρ S H x y vx vy Q rel rx ry g
 obtain⟨w,hw,g2⟩:=Good.lift (o:=MY S x y) g
 unfold MY at hw
 split at hw
 ·rename_i e
  cases hw
  have g3:Good K G X ρ H (opS (λ_=>P0r) x y S) (KL K G Q):=by
   show Good K G X ρ H (gL (P0r x y) S) (KL K G Q)
   rw[e]
   exact g2
  exact mBj rel rx ry g3
 ·split at hw
  ·rename_i a b h1 h2
   split at hw
   ·rename_i hl
    cases hw
    obtain⟨p,vs,rfl,hp,r⟩:=pX rel rx h1
    obtain⟨q,us,rfl,hq,r2⟩:=pX rel ry h2
    exact ODL hp hq (tS (by rw[<- r.length,<- r2.length];exact hl)) (g2.newL rel (r.append r2))
   ·cases hw
  ·cases hw
theorem oP:jU K G (NXp K) (opS λS x y=>(inW S x y).map W.bl):=by
 intro X ρ S H x y vx vy Q rel rx ry g
 obtain⟨w,hw,g⟩:=Good.lift (o:=(inW S x y).map W.bl) g
 obtain⟨b,hb,rfl⟩:=qm.mp hw
 have fin:=g.fin rel (.bl b)
 rcases G8O rel rx ry hb with⟨c,z,rfl,rfl,rfl⟩|⟨p,vs,rfl,hq,h1,h2,rfl⟩|⟨d,ds,h1,h2,h3,h4,rfl⟩
 ·exact zD2 fin
 ·exact g4S hq h1 h2 fin
 ·exact .inr (.inl ⟨d,ds,h1,h2,h3,h4,fin⟩)
theorem V0:jU K G (E4 K) (opS λS x y=>(inW S x y).map λb=>W.bl (!b)):=by
 intro X ρ S H x y vx vy Q rel rx ry g
 obtain⟨w,hw,g⟩:=Good.lift (o:=(inW S x y).map λb=>W.bl (!b)) g
 obtain⟨b,hb,rfl⟩:=qm.mp hw
 have fin:=g.fin rel (.bl (!b))
 rcases G8O rel rx ry hb with⟨c,z,rfl,rfl,rfl⟩|⟨p,vs,rfl,hq,h1,h2,rfl⟩|⟨d,ds,h1,h2,h3,h4,rfl⟩
 ·exact yL fin
 ·exact ON hq h1 h2 fin
 ·exact .inr (.inl ⟨d,ds,h1,h2,h3,h4,fin⟩)
theorem RVs.one {ws:W} {vs:List V} (r:RVs K G ρ H [ws] vs):∃ v,vs=[v]/\RV K G ρ H ws v:=by
 cases r with
 | cons h t=>cases t;exact⟨_,rfl,h⟩
theorem RVs.two {a b:W} {vs:List V} (r:RVs K G ρ H [a,b] vs):∃ v u,vs=[v,u]/\RV K G ρ H a v/\RV K G ρ H b u:=by
 cases r with
 | cons h t=>
  obtain⟨u,rfl,h2⟩:=t.one
  exact⟨_,_,rfl,h,h2⟩
theorem Y8:EG K G (Cp.rLen K) (MI eP):=by
 intro X ρ S H xs vs Q rel r g
 obtain⟨w,hw,g⟩:=Good.lift (o:=eP S xs) g
 unfold eP at hw
 split at hw
 ·split at hw
  ·rename_i z h
   cases hw
   obtain⟨v,rfl,rx⟩:=r.one
   cases rx
   exact ORM (tS h) (g.fin rel (.int _))
  ·cases hw
 ·obtain⟨ys,hs,rfl⟩:=qm.mp hw
  obtain⟨v,rfl,rx⟩:=r.one
  obtain⟨p,vs,rfl,hq,r⟩:=rW rel rx hs
  have fin:=g.fin rel (.int _)
  rw[r.length] at fin
  rcases hq with hq|hq
  ·exact iBd hq fin
  ·exact vXw hq fin
 ·cases hw
theorem RHf (rel:Rel K G ρ H S) {t:String} (r:RV K G ρ H w v) (h:tyW S w=some t):TyX K H v (.type t):=by
 unfold tyW at h
 split at h
 ·cases h;cases r;exact NQz
 ·cases h;cases r;exact EFN
 ·cases h;cases r;exact f0Q
 ·cases h;cases r;exact w3z
 ·cases h
  cases r with
  | tup h1 r=>exact RMy h1
 ·cases h
  cases r with
  | lst h1 n r=>exact NGe h1
 ·cases h
  cases r with
  | dk h1 n l r=>exact JLL h1
 ·cases h
  cases r with
  | dt h1 n l r=>exact .base (.dT h1)
 ·cases r with
  | ref e=>
   split at h
   ·rename_i hs
    cases h
    obtain⟨vs,h3,r⟩:=rel.ref e hs
    exact NGe h3
   ·rename_i hs
    cases h
    obtain⟨vs,h3,r⟩:=rel.ref e hs
    exact JLL h3
   ·rename_i hs
    cases h
    obtain⟨vs,h3,r⟩:=rel.ref e hs
    exact .base (.dT h3)
   ·cases h
 ·cases h
theorem hA:∀ {ws:List W} {Ts:List String} {vs:List V},WT ws=some Ts->RVs K G ρ H ws vs->Paired ClsV vs (Ts.map Value.type)
 | [],Ts,vs,h,r=>by cases r;simp only[WT] at h;cases h;exact .nil
 | .ty n :: ws,Ts,vs,h,r=>by
  simp only[WT] at h
  obtain⟨Us,h2,rfl⟩:=qm.mp h
  cases r with
  | cons h1 r=>
   cases h1
   exact .cons (.ty n) (hA h2 r)
 | .non :: _,_,_,h,_=>by simp [WT] at h
 | .bl _ :: _,_,_,h,_=>by simp [WT] at h
 | .int _ :: _,_,_,h,_=>by simp [WT] at h
 | .str _ :: _,_,_,h,_=>by simp [WT] at h
 | .tup _ :: _,_,_,h,_=>by simp [WT] at h
 | .kt _ :: _,_,_,h,_=>by simp [WT] at h
 | .lst _ :: _,_,_,h,_=>by simp [WT] at h
 | .dk _ _ :: _,_,_,h,_=>by simp [WT] at h
 | .dt _ _ :: _,_,_,h,_=>by simp [WT] at h
 | .obj _ _ _ :: _,_,_,h,_=>by simp [WT] at h
 | .exc _ _ _ :: _,_,_,h,_=>by simp [WT] at h
 | .ref _ :: _,_,_,h,_=>by simp [WT] at h
 | .scr _ :: _,_,_,h,_=>by simp [WT] at h
 | .cls _ :: _,_,_,h,_=>by simp [WT] at h
theorem fC {t:String}:∀ {Ts:List String} {b:Bool},tM t Ts=some b->PySem.W.kitAny K (.type t) (Ts.map Value.type)=some b
 | [],b,h=>by simp only[tM] at h;cases h;rfl
 | T :: r,b,h=>by
  simp only[tM] at h
  split at h
  ·rename_i e
   cases h
   exact kitAny_cons (b:=true) (r:=true) (kit_ty e) (λz=>nomatch z) (λ_=>rfl)
  ·rename_i e
   exact kitAny_cons (b:=false) (kit_ty e) (λ_=>fC h) (λz=>nomatch z)
  ·cases h
theorem K5:EG K G (eY K) (MI iQ):=by
 intro X ρ S H xs vs Q rel r g
 obtain⟨w,hw,g⟩:=Good.lift (o:=iQ S xs) g
 unfold iQ at hw
 split at hw
 ·split at hw
  ·rename_i t ht
   obtain⟨b,hb,rfl⟩:=qm.mp hw
   obtain⟨v,u,rfl,r1,r2⟩:=r.two
   cases r2
   exact t4q (RHf rel r1 ht) (kit_ty hb) (g.fin rel (.bl _))
  ·cases hw
 ·split at hw
  ·rename_i t Ts ht hT
   obtain⟨b,hb,rfl⟩:=qm.mp hw
   obtain⟨v,u,rfl,r1,r2⟩:=r.two
   cases r2 with
   | tup h2 r2=>
    exact .inr ⟨v,_,_,_,_,b,rfl,h2,hA hT r2,RHf rel r1 ht,fC hb,g.fin rel (.bl _)⟩
  ·cases hw
 ·cases hw
theorem d8u:EG K G (λxs H Q=>(∃ i,xs=[.int i]/\Q (.int i) H) \/ ∃ k,xs=[.bl k]/\Q (.int (if k then 1 else 0)) H) (MI λ_=>MSr):=by
 intro X ρ S H xs vs Q rel r g
 obtain⟨w,hw,g⟩:=Good.lift (o:=MSr xs) g
 unfold MSr at hw
 split at hw
 ·cases hw
  obtain⟨v,rfl,rx⟩:=r.one
  cases rx
  exact .inl ⟨_,rfl,g.fin rel (.int _)⟩
 ·cases hw
  obtain⟨v,rfl,rx⟩:=r.one
  cases rx
  exact .inr ⟨_,rfl,g.fin rel (.int _)⟩
 ·cases hw
theorem NY:∀ {ws:List W} {bs:List Bool} {vs:List V},C4 ws=some bs->RVs K G ρ H ws vs->vs=bs.map V.bl
 | [],Ts,vs,h,r=>by cases r;simp only[C4] at h;cases h;rfl
 | .bl n :: ws,Ts,vs,h,r=>by
  simp only[C4] at h
  obtain⟨Us,h2,rfl⟩:=qm.mp h
  cases r with
  | cons h1 r=>
   cases h1
   rw[NY h2 r]
   rfl
 | .non :: _,_,_,h,_=>by simp [C4] at h
 | .ty _ :: _,_,_,h,_=>by simp [C4] at h
 | .int _ :: _,_,_,h,_=>by simp [C4] at h
 | .str _ :: _,_,_,h,_=>by simp [C4] at h
 | .tup _ :: _,_,_,h,_=>by simp [C4] at h
 | .kt _ :: _,_,_,h,_=>by simp [C4] at h
 | .lst _ :: _,_,_,h,_=>by simp [C4] at h
 | .dk _ _ :: _,_,_,h,_=>by simp [C4] at h
 | .dt _ _ :: _,_,_,h,_=>by simp [C4] at h
 | .obj _ _ _ :: _,_,_,h,_=>by simp [C4] at h
 | .ref _ :: _,_,_,h,_=>by simp [C4] at h
 | .scr _ :: _,_,_,h,_=>by simp [C4] at h
 | .cls _ :: _,_,_,h,_=>by simp [C4] at h
theorem JB:EG K G (rAll K) (MI qO):=by
 intro X ρ S H xs vs Q rel r g
 obtain⟨w,hw,g⟩:=Good.lift (o:=qO S xs) g
 unfold qO at hw
 split at hw
 ·obtain⟨bs,hb,rfl⟩:=qm.mp hw
  obtain⟨ys,h1,h2⟩:=jF.mp hb
  obtain⟨v,rfl,rx⟩:=r.one
  obtain⟨p,us,rfl,hp,r⟩:=pX rel rx h1
  rw[NY h2 r] at hp
  exact FP (SqL.of hp) (g.fin rel (.bl _))
 ·cases hw
theorem eZh:EG K G FLs (MI λ_=>fY):=by
 intro X ρ S H xs vs Q rel r g
 obtain⟨w,hw,g⟩:=Good.lift (o:=fY xs) g
 unfold fY at hw
 split at hw
 ·cases hw
  obtain⟨v,u,rfl,r1,r2⟩:=r.two
  cases r1;cases r2
  exact⟨_,_,rfl,g.fin rel (.int _)⟩
 ·cases hw
theorem X3:EG K G (P9 K) (MI qY):=by
 intro X ρ S H xs vs Q rel r g
 obtain⟨w,hw,g⟩:=Good.lift (o:=qY S xs) g
 unfold qY at hw
 split at hw
 ·rename_i x
  obtain⟨ys,hs,rfl⟩:=qm.mp hw
  obtain⟨v,rfl,rx⟩:=r.one
  unfold oV at hs
  split at hs
  ·cases hs
   cases rx with
   | tup h1 r2=>exact⟨_,_,rfl,.inr ⟨SqT.of h1,g.fin rel (.tup h1 r2)⟩⟩
  ·obtain⟨p,us,rfl,hp,r2⟩:=pX rel rx hs
   exact⟨_,_,rfl,.inl ⟨SqL.of hp,g.newT rel r2⟩⟩
 ·cases hw
theorem VL:EG K G (SU K) (MI ERK):=by
 intro X ρ S H xs vs Q rel r g
 obtain⟨w,hw,g⟩:=Good.lift (o:=ERK S xs) g
 unfold ERK at hw
 split at hw
 ·obtain⟨ys,hs,rfl⟩:=qm.mp hw
  obtain⟨v,rfl,rx⟩:=r.one
  obtain⟨p,vs,rfl,hq,r⟩:=rW rel rx hs
  exact⟨p,vs,rfl,hq,g.newL rel r⟩
 ·cases hw
end
end Mi
namespace Mi
open PySem PySem.Spec
open PyProof.Rows L2 Cp
def uV (i:Nat):Lo->M W:=λL=>gL (L[i]?.join)
def mC (w:W):Lo->M W:=λ_=>M.ret w
def mOp (f:W->W->M W) (a b:Lo->M W):Lo->M W:=λL=>(a L).bind λx=>(b L).bind λy=>f x y
def mUn (f:W->M W) (a:Lo->M W):Lo->M W:=λL=>(a L).bind f
def JN:Lo->M (List W):=λ_=>M.ret []
def O9 (a:Lo->M W) (r:Lo->M (List W)):Lo->M (List W):=λL=>(a L).bind λx=>(r L).bind λxs=>M.ret (x :: xs)
def fD (f:List W->M W) (a:Lo->M (List W)):Lo->M W:=λL=>(a L).bind f
def TZ (ws:List W):M W:=if ws.length<=lim then M.ret (.tup ws) else GG
def aW (ws:List W):M W:=if ws.length<=lim then M.ret (.lst ws) else GG
def LU (ws:List W):M W:=λS=>if ws.length<=lim then some (.ok (.ref S.length),S++[.lst ws]) else none
def R4:W->M Bool
 | .bl b=>M.ret b
 | _=>GG
def tW (a:Lo->M W):Lo->M Bool:=λL=>(a L).bind R4
def CZ (S:Sto):W->Option Bool
 | .non=>some false
 | .bl b=>some b
 | .int i=>some (i != 0)
 | .str z=>if z.length<=lim then some ((z.length:Int) != 0) else none
 | x=>(yG S x).map λxs=>!xs.isEmpty
def CGj (w:W):M Bool:=λS=>gL (CZ S w) S
def YG (a:Lo->M W):Lo->M Bool:=λL=>(a L).bind CGj
def oF (c:Lo->M Bool) (a b:Lo->M W):Lo->M W:=λL=>(c L).bind λk=>if k then a L else b L
def KP (a b:Lo->M Bool):Lo->M Bool:=λL=>(a L).bind λk=>if k then b L else M.ret false
def MU (a b:Lo->M Bool):Lo->M Bool:=λL=>(a L).bind λk=>if k then M.ret true else b L
def o0 (a:Lo->M Bool):Lo->M Bool:=λL=>(a L).bind λk=>M.ret (!k)
def HS (a b:Lo->M W):Lo->M W:=λL=>(a L).bind λx=>(R4 x).bind λk=>if k then b L else M.ret (.bl false)
def q5G (a b:Lo->M W):Lo->M W:=λL=>(a L).bind λx=>(R4 x).bind λk=>if k then M.ret (.bl true) else b L
def SJ (a:Lo->M W):Lo->M W:=λL=>(a L).bind λx=>(R4 x).bind λk=>M.ret (.bl (!k))
def cG (f g:W->W->M W) (a b c:Lo->M W):Lo->M W:=λL=>(a L).bind λx=>(b L).bind λy=>(f x y).bind λz=>(R4 z).bind λk=>if k then(c L).bind λu=>g y u else M.ret (.bl false)
def xI (f:Str) (a:Lo->M W):Lo->M W:=mUn (λx S=>gL (P8 S f x) S) a
def ixM:W->W->M W:=λx i S=>gL (ixW S x i) S
def sT:W->W->M W:=λd k S=>gL ((qW S d k).join) S
def rI6 (neg:Bool):W->W->M W:=λk d S=>gL ((qW S d k).map λo=>W.bl (if neg then !o.isSome else o.isSome)) S
def JA:Lo->M (Option Int):=λ_=>M.ret none
def QLP:W->M (Option Int)
 | .int i=>M.ret (some i)
 | _=>GG
def dZ (a:Lo->M W):Lo->M (Option Int):=λL=>(a L).bind QLP
def slW (S:Sto) (x:W) (lo hi:Option Int):Option W:=match x with
 | .str z=>if z.length<=lim then some (.str (cutS z lo hi)) else none
 | .tup xs=>some (.tup (PD xs lo hi))
 | x=>(fA S x).map λxs=>.lst (PD xs lo hi)
def mSl (a:Lo->M W) (l h:Lo->M (Option Int)):Lo->M W:=λL=>(a L).bind λx=>(l L).bind λlo=>(h L).bind λhi=>λS=>gL (slW S x lo hi) S
def NM:List ((Lo->M W) × (Lo->M W))->Lo->M (List (W × W))
 | [],_=>M.ret []
 | (a,b) :: r,L=>(a L).bind λx=>(b L).bind λy=>(NM r L).bind λps=>M.ret ((x,y) :: ps)
def XS:List (W × W)->Option (List (Key × W))
 | []=>some []
 | (k,w) :: r=>match mS k,XS r with
  | some k,some ps=>some ((k,w) :: ps)
  | _,_=>none
def qR {κ β:Type} [DecidableEq κ] (kvs more:List (κ × β)):List (κ × β):=more.foldl (λacc kv=>pK acc kv.1 kv.2) kvs
def WG (ps:List (W × W)):Option W:=match XS ps with
 | some kvs=>if kvs.length<=15 then some (.dk ((qR [] kvs).map (·.1)) ((qR [] kvs).map (·.2))) else none
 | none=>none
def KZ (ms:List ((Lo->M W) × (Lo->M W))):Lo->M W:=λL=>(NM ms L).bind λps S=>gL (WG ps) S
def xG (ms:List ((Lo->M W) × (Lo->M W))):Lo->M W:=λL=>(NM ms L).bind λps S=>match XS ps with
 | some kvs=>if kvs.length<=15 then some (.ok (.ref S.length),S++[.dk (qR [] kvs)]) else none
 | none=>none
section
variable {ι:Type} (c:ι->Cx) (K:qk) (G:Str->Addr) (X:W->Rho->Hp->Prop)
structure Ctx:Prop where
 kK:∀ i,(c i).K=K
 calm:∀ i,(c i).calm=true
 un:∀ i,(c i).A.units+65 < cLine
structure QE (e:Expr) (m:Lo->M W):Prop where
 ex:∃ t,(∀ i,PE (c i) e t)/\RE K G X t m
structure QT (e:Expr) (m:Lo->M Bool):Prop where
 ex:∃ t,(∀ i,PT (c i) e t)/\RT K G X t m
structure QW (e:Expr) (m:Lo->M Bool):Prop where
 ex:∃ t,(∀ i,PW (c i) e t)/\RT K G X t m
structure QA (es:List Expr) (m:Lo->M (List W)):Prop where
 ex:∃ t,(∀ i,PA (c i) es t)/\RA K G X t m
structure RO (t:TO) (m:Lo->M (Option Int)):Prop where
 run:∀ {ρ:Rho} {S:Sto} {H:Hp} {L:Lo} {σ:L2.St} {Q:Option Int->Hp->Prop},Rel K G ρ H S->RL K G ρ H L σ->Good K G X ρ H (m L S) (λo _ _ H'=>Q o H')->t σ H Q
structure QO (e:Option Expr) (m:Lo->M (Option Int)):Prop where
 ex:∃ t,(∀ i,PO (c i) e t)/\RO K G X t m
def RPP (ρ:Rho) (H:Hp):List (W × W)->List (V × V)->Prop:=Paired λp q=>RV K G ρ H p.1 q.1/\RV K G ρ H p.2 q.2
structure RP (trs:List (TE × TE)) (ms:List ((Lo->M W) × (Lo->M W))):Prop where
 run:∀ {ρ:Rho} {S:Sto} {H:Hp} {L:Lo} {σ:L2.St} {Q:List (V × V)->Hp->Prop},Rel K G ρ H S->RL K G ρ H L σ->Good K G X ρ H (NM ms L S) (λps _ ρ' H'=>∀ vs,RPP K G ρ' H' ps vs->Q vs H')->tPairs trs σ H Q
structure QPs (pos:Pos) (ks:List (Option Expr)) (vs:List Expr) (ms:List ((Lo->M W) × (Lo->M W))):Prop where
 ex:∃ trs,(∀ i,PPs (c i) pos ks vs trs)/\RP K G X trs ms
end
section
variable {ι:Type} {c:ι->Cx} {K:qk} {G:Str->Addr} {X:W->Rho->Hp->Prop} {e a b d:Expr} {es:List Expr} {pos p pos':Pos} {m ma mb md:Lo->M W} {ms:Lo->M (List W)} {ka kb:Lo->M Bool}
theorem QW.qt (h:QW c K G X e ka):QT c K G X e ka:=by
 obtain⟨t,h1,h2⟩:=h.ex
 exact⟨t,λi=>(h1 i).pt,h2⟩
theorem jW (i:Nat) {x:Str} (hN:∀ j,(c j).N[i]? = some x:=by exact λ_=>rfl) (hv:∀ j,Vis (c j).env.scope x:=by first|exact λ_=>Or.inl rfl|exact λ_=>Or.inr (Or.inl rfl)|exact λ_=>Or.inr (Or.inr rfl))
  (hd:(x == ("__debug__" : Str))=false:=by decide) (hcd:(x == ("__classdict__" : Str))=false:=by decide):QE c K G X (.Name x pos) (uV i):=⟨_,λj=>pe_var (hN j) (hv j) hd hcd,⟨by
 intro ρ S H L σ Q rel rl g
 obtain⟨w,hw,g⟩:=Good.lift (o:=L[i]?.join) g
 obtain⟨v,h1,h2⟩:=rl.2 i w (Option.join_eq_some_iff.mp hw)
 exact⟨v,h1,g.fin rel h2⟩⟩⟩
theorem RE.cst {w:W} {v:V} (h:∀ ρ H,RV K G ρ H w v):RE K G X (tC v) (mC w):=⟨λrel rl g=>Good.fin g rel (h _ _)⟩
theorem JX {i:Int} {j}:QE c K G X (.Constant (.int i) j pos) (mC (.int i)):=⟨_,λ_=>pe_int,.cst λ_ _=>.int i⟩
theorem O5 {i:Bool} {j}:QE c K G X (.Constant (.bool i) j pos) (mC (.bl i)):=⟨_,λ_=>pe_bl,.cst λ_ _=>.bl i⟩
theorem WO {i:Str} {j}:QE c K G X (.Constant (.str i) j pos) (mC (.str i)):=⟨_,λ_=>pe_str,.cst λ_ _=>.str i⟩
theorem LS {j}:QE c K G X (.Constant .none j pos) (mC .non):=⟨_,λ_=>pe_non,.cst λ_ _=>.non⟩
theorem NX {x:Str} {w:W} {v:V} {u:Value} (hg:∀ j,Gl (c j) x) (hm:∀ j,(c j).mg x=some u) (r:RelV v u) (h:∀ ρ H,RV K G ρ H w v) (hd:(x == ("__debug__" : Str))=false:=by decide):QE c K G X (.Name x pos) (mC w):=⟨_,λj=>pe_glob (hg j) (hm j) r hd,.cst h⟩
theorem VF {x:Str} {T:String} (hg:∀ j,Gl (c j) x) (hm:∀ j,(c j).mg x=none) (hv:bootBuiltins x=some (.type T)) (hn:x ≠ "__name__" := by decide) (hd:(x == ("__debug__" : Str))=false:=by decide):QE c K G X (.Name x pos) (mC (.ty T)):=⟨_,λj=>pe_bltn (v:=.ty T) (hg j) (hm j) hv rfl hn hd,.cst λ_ _=>.ty T⟩
theorem RE.op {r:R2} {f:W->W->M W} {ta tb:TE} (hf:jU K G r f) (ha:RE K G X ta ma) (hb:RE K G X tb mb):RE K G X (tOp r ta tb) (mOp f ma mb):=⟨by
 intro ρ S H L σ Q rel rl g
 refine ha.run rel rl (g.bind.imp λx S1 ρ1 H1 e1 r1 g1 vx rx=>?_)
 refine hb.run r1 (rl.mono e1) (g1.bind.imp λy S2 ρ2 H2 e2 r2 g2 vy ry=>?_)
 exact hf r2 (rx.mono e2) ry g2⟩
theorem RE.un {r:V->Hp->VK->Prop} {f:W->M W} {ta:TE} (hf:ACq K G r f) (ha:RE K G X ta ma):RE K G X (tUn r ta) (mUn f ma):=⟨by
 intro ρ S H L σ Q rel rl g
 refine ha.run rel rl (g.bind.imp λx S1 ρ1 H1 e1 r1 g1 vx rx=>?_)
 exact hf r1 rx g1⟩
theorem YH {op:Operator} {r:R2} {f:W->W->M W} (ho:∀ i,OpR (c i) (binaryOp op) r) (hf:jU K G r f) (ha:QE c K G X a ma) (hb:QE c K G X b mb):QE c K G X (.BinOp a op b pos) (mOp f ma mb):=by
 obtain⟨ta,h1,h2⟩:=ha.ex
 obtain⟨tb,h3,h4⟩:=hb.ex
 exact⟨_,λi=>pe_op (ho i) (h1 i) (h3 i),h2.op hf h4⟩
theorem xR {op:CmpOp} {r:R2} {f:W->W->M W} (ho:∀ i,OpR (c i) (compareOp op) r) (hf:jU K G r f) (ha:QE c K G X a ma) (hb:QE c K G X b mb) (hm:behindInMarks op b=false):QE c K G X (.Compare a [op] [b] pos) (mOp f ma mb):=by
 obtain⟨ta,h1,h2⟩:=ha.ex
 obtain⟨tb,h3,h4⟩:=hb.ex
 exact⟨_,λi=>pe_cmpR (ho i) (h1 i) (h3 i) hm,h2.op hf h4⟩
theorem UO {ρ:Rho} {H:Hp} {S:Sto} {w:W} {k:Bool->Sto->Rho->Hp->Prop} (rel:Rel K G ρ H S) (g:Good K G X ρ H (R4 w S) k):∃ b,w = .bl b/\k b S ρ H:=by
 cases w <;> first|exact g.elim|exact⟨_,rfl,g.ok rel⟩
theorem RE.tst {ta:TE} (ha:RE K G X ta ma):RT K G X (tTest ta) (tW ma):=⟨by
 intro ρ S H L σ Q rel rl g
 refine ha.run rel rl (g.bind.imp λx S1 ρ1 H1 e1 r1 g1 vx rx=>?_)
 obtain⟨b,rfl,q⟩:=UO r1 g1
 cases rx
 exact⟨b,rfl,q⟩⟩
theorem cK {op:CmpOp} {r:R2} {f:W->W->M W} (ho:∀ i,OpR (c i) (compareOp op) r) (hf:jU K G r f) (ha:QE c K G X a ma) (hb:QE c K G X b mb) (hm:behindInMarks op b=false):QT c K G X (.Compare a [op] [b] pos) (tW (mOp f ma mb)):=by
 obtain⟨ta,h1,h2⟩:=ha.ex
 obtain⟨tb,h3,h4⟩:=hb.ex
 exact⟨_,λi=>pt_cmpR (ho i) (h1 i) (h3 i) hm,(h2.op hf h4).tst⟩
theorem RE.chain {r r':R2} {f g:W->W->M W} {ta tb td:TE} (hf:jU K G r f) (hg:jU K G r' g) (ha:RE K G X ta ma) (hb:RE K G X tb mb) (hd:RE K G X td md):RE K G X (tChain r r' ta tb td) (cG f g ma mb md):=⟨by
 intro ρ S H L σ Q rel rl gd
 refine ha.run rel rl (gd.bind.imp λx S1 ρ1 H1 e1 r1 g1 vx rx=>?_)
 refine hb.run r1 (rl.mono e1) (g1.bind.imp λy S2 ρ2 H2 e2 r2 g2 vy ry=>?_)
 refine hf r2 (rx.mono e2) ry (g2.bind.imp λz S3 ρ3 H3 e3 r3 g3 vz rz=>?_)
 obtain⟨k,rfl,q⟩:=UO r3 g3.bind
 cases rz
 refine⟨k,rfl,?_⟩
 cases k with
 | false=>
  rw[if_neg qg] at q ⊢
  exact q.fin r3 (.bl _)
 | true=>
  rw[if_pos rfl] at q ⊢
  refine hd.run r3 (((rl.mono e1).mono e2).mono e3) (q.bind.imp λu S4 ρ4 H4 e4 r4 g4 vu ru=>?_)
  exact hg r4 ((ry.mono e3).mono e4) ru g4⟩
theorem gW {op op':CmpOp} {r r':R2} {f g:W->W->M W} (ho:∀ i,OpR (c i) (compareOp op) r) (ho':∀ i,OpR (c i) (compareOp op') r') (hf:jU K G r f) (hg:jU K G r' g) (ha:QE c K G X a ma) (hb:QE c K G X b mb) (hd:QE c K G X d md)
  (h:∀ (i:ι) ta tb td,PE (c i) a ta->PE (c i) b tb->PE (c i) d td->PE (c i) (.Compare a [op,op'] [b,d] pos) (tChain r r' ta tb td)):QE c K G X (.Compare a [op,op'] [b,d] pos) (cG f g ma mb md):=by
 obtain⟨ta,h1,h2⟩:=ha.ex
 obtain⟨tb,h3,h4⟩:=hb.ex
 obtain⟨td,h5,h6⟩:=hd.ex
 exact⟨_,λi=>h i _ _ _ (h1 i) (h3 i) (h5 i),h2.chain hf hg h4 h6⟩
theorem zA {op op':CmpOp} {r r':R2} {f g:W->W->M W} (hf:jU K G r f) (hg:jU K G r' g) (ha:QE c K G X a ma) (hb:QE c K G X b mb) (hd:QE c K G X d md)
  (h:∀ (i:ι) ta tb td,PE (c i) a ta->PE (c i) b tb->PE (c i) d td->PT (c i) (.Compare a [op,op'] [b,d] pos) (tTest (tChain r r' ta tb td))):QT c K G X (.Compare a [op,op'] [b,d] pos) (tW (cG f g ma mb md)):=by
 obtain⟨ta,h1,h2⟩:=ha.ex
 obtain⟨tb,h3,h4⟩:=hb.ex
 obtain⟨td,h5,h6⟩:=hd.ex
 exact⟨_,λi=>h i _ _ _ (h1 i) (h3 i) (h5 i),(h2.chain hf hg h4 h6).tst⟩
theorem TJs {ρ:Rho} {H:Hp} {S:Sto} {w:W} {v:V} {k:Bool} (rel:Rel K G ρ H S) (r:RV K G ρ H w v) (h:CZ S w=some k):TruV K v H k:=by
 unfold CZ at h
 split at h
 ·cases h;cases r;rfl
 ·cases h;cases r;rfl
 ·cases h;cases r;rfl
 ·split at h
  ·rename_i z
   cases h;cases r
   exact⟨tS z,rfl⟩
  ·cases h
 ·obtain⟨xs,hs,rfl⟩:=qm.mp h
  obtain⟨p,vs,rfl,hq,r⟩:=rW rel r hs
  have e:(!xs.isEmpty) = !vs.isEmpty:=by
   have:=r.length
   cases xs <;> cases vs <;> simp_all
  rcases hq with hq|hq
  ·exact .inl ⟨vs,hq,e⟩
  ·exact .inr (.inl ⟨vs,hq,e⟩)
theorem jG (cx:Ctx c K) (ha:QE c K G X a ma) (h:∀ (i:ι) whole,isTrue a (c i).env whole=(do let v <- whole;standAt a.pos;holding [v] (truthy v))):QT c K G X a (YG ma):=by
 obtain⟨ta,h1,h2⟩:=ha.ex
 refine⟨λσ H Q=>ta σ H λx H'=>∃ k,TruV K x H' k/\Q k H',λi=>?_,⟨?_⟩⟩
 ·have:=pt_truth (h1 i) (h i)
  rw[cx.kK i] at this
  exact this
 ·intro ρ S H L σ Q rel rl g
  refine h2.run rel rl (g.bind.imp λx S1 ρ1 H1 e1 r1 g1 vx rx=>?_)
  obtain⟨k,hk,g2⟩:=Good.lift (o:=CZ S1 x) g1
  exact⟨k,TJs r1 rx hk,g2.ok r1⟩
theorem RT.ite {ta tb:TT} (Q':Bool->Bool):True:=trivial
theorem mM (ha:QT c K G X a ka):QW c K G X (.BoolOp .And [a] pos) ka:=by
 obtain⟨t,h1,h2⟩:=ha.ex
 exact⟨t,λi=>pw_and1 (h1 i),h2⟩
theorem OU (ha:QT c K G X a ka):QW c K G X (.BoolOp .Or [a] pos) ka:=by
 obtain⟨t,h1,h2⟩:=ha.ex
 exact⟨t,λi=>pw_or1 (h1 i),h2⟩
theorem UF (ha:QT c K G X a ka) (hb:QW c K G X (.BoolOp .And (b :: es) pos) kb):QW c K G X (.BoolOp .And (a :: b :: es) pos) (KP ka kb):=by
 obtain⟨t,h1,h2⟩:=ha.ex
 obtain⟨u,h3,h4⟩:=hb.ex
 refine⟨_,λi=>pw_and (h1 i) (h3 i),⟨?_⟩⟩
 intro ρ S H L σ Q rel rl g
 refine h2.run rel rl (g.bind.imp λk S1 ρ1 H1 e1 r1 g1=>?_)
 cases k with
 | true=>exact h4.run r1 (rl.mono e1) g1
 | false=>exact g1.ok r1
theorem lK (ha:QT c K G X a ka) (hb:QW c K G X (.BoolOp .Or (b :: es) pos) kb):QW c K G X (.BoolOp .Or (a :: b :: es) pos) (MU ka kb):=by
 obtain⟨t,h1,h2⟩:=ha.ex
 obtain⟨u,h3,h4⟩:=hb.ex
 refine⟨_,λi=>pw_or (h1 i) (h3 i),⟨?_⟩⟩
 intro ρ S H L σ Q rel rl g
 refine h2.run rel rl (g.bind.imp λk S1 ρ1 H1 e1 r1 g1=>?_)
 cases k with
 | true=>exact g1.ok r1
 | false=>exact h4.run r1 (rl.mono e1) g1
theorem n0 (ha:QT c K G X a ka):QT c K G X (.UnaryOp .Not a pos) (o0 ka):=by
 obtain⟨t,h1,h2⟩:=ha.ex
 refine⟨_,λi=>pt_not (h1 i),⟨?_⟩⟩
 intro ρ S H L σ Q rel rl g
 exact h2.run rel rl (g.bind.imp λk S1 ρ1 H1 e1 r1 g1=>g1.ok r1)
theorem XB {op} (ha:QE c K G X a ma):QE c K G X (.BoolOp op [a] pos) ma:=by
 obtain⟨t,h1,h2⟩:=ha.ex
 exact⟨t,λi=>pe_one (h1 i),h2⟩
theorem QB (ha:QE c K G X a ma) (hb:QE c K G X (.BoolOp .And (b :: es) pos) mb):QE c K G X (.BoolOp .And (a :: b :: es) pos) (HS ma mb):=by
 obtain⟨t,h1,h2⟩:=ha.ex
 obtain⟨u,h3,h4⟩:=hb.ex
 refine⟨_,λi=>pe_and (h1 i) (h3 i),⟨?_⟩⟩
 intro ρ S H L σ Q rel rl g
 refine h2.run rel rl (g.bind.imp λx S1 ρ1 H1 e1 r1 g1 vx rx=>?_)
 obtain⟨k,rfl,q⟩:=UO r1 g1.bind
 cases rx
 refine⟨k,rfl,?_⟩
 cases k with
 | true=>exact h4.run r1 (rl.mono e1) q
 | false=>exact Good.fin (w:=.bl false) q r1 (.bl _)
theorem mDQ (ha:QE c K G X a ma):QE c K G X (.UnaryOp .Not a pos) (SJ ma):=by
 obtain⟨t,h1,h2⟩:=ha.ex
 refine⟨_,λi=>pe_not (h1 i),⟨?_⟩⟩
 intro ρ S H L σ Q rel rl g
 refine h2.run rel rl (g.bind.imp λx S1 ρ1 H1 e1 r1 g1 vx rx=>?_)
 obtain⟨k,rfl,q⟩:=UO r1 g1.bind
 cases rx
 exact⟨k,rfl,Good.fin (w:=.bl (!k)) q r1 (.bl _)⟩
theorem nR (hd:QT c K G X d ka) (ha:QE c K G X a ma) (hb:QE c K G X b mb):QE c K G X (.IfExp d a b pos) (oF ka ma mb):=by
 obtain⟨t,h1,h2⟩:=hd.ex
 obtain⟨ta,h3,h4⟩:=ha.ex
 obtain⟨tb,h5,h6⟩:=hb.ex
 refine⟨_,λi=>pe_ifExp (h1 i) (h3 i) (h5 i),⟨?_⟩⟩
 intro ρ S H L σ Q rel rl g
 refine h2.run rel rl (g.bind.imp λk S1 ρ1 H1 e1 r1 g1=>?_)
 cases k with
 | true=>exact h4.run r1 (rl.mono e1) g1
 | false=>exact h6.run r1 (rl.mono e1) g1
theorem R5:QA c K G X [] JN:=⟨_,λ_=>pa_nil,⟨λrel rl g=>g.ok rel [] .nil⟩⟩
theorem W4 (ha:QE c K G X e ma) (hr:QA c K G X es ms) (hs:∀ i,starEach (e :: es) (c i).env=(false,eval e (c i).env) :: starEach es (c i).env:=by exact λ_=>rfl):QA c K G X (e :: es) (O9 ma ms):=by
 obtain⟨t,h1,h2⟩:=ha.ex
 obtain⟨u,h3,h4⟩:=hr.ex
 refine⟨_,λi=>pa_cons (h1 i) (h3 i) (hs i),⟨?_⟩⟩
 intro ρ S H L σ Q rel rl g
 refine h2.run rel rl (g.bind.imp λx S1 ρ1 H1 e1 r1 g1 vx rx=>?_)
 refine h4.run r1 (rl.mono e1) (g1.bind.imp λxs S2 ρ2 H2 e2 r2 g2 vs rs=>?_)
 exact g2.ok r2 _ (.cons (rx.mono e2) rs)
theorem CC {x1} (h:QA c K G X es ms):QE c K G X (.Tuple es x1 pos) (fD TZ ms):=by
 obtain⟨t,h1,h2⟩:=h.ex
 refine⟨_,λi=>pe_tup (h1 i),⟨?_⟩⟩
 intro ρ S H L σ Q rel rl g
 refine h2.run rel rl (g.bind.imp λxs S1 ρ1 H1 e1 r1 g1 vs rs=>?_)
 unfold TZ at g1
 split at g1
 ·rename_i z
  exact⟨by rw[<- rs.length];exact tS z,Good.newT g1 r1 rs⟩
 ·exact g1.elim
theorem CB (h:QA c K G X es ms):QE c K G X (.List es pos) (fD aW ms):=by
 obtain⟨t,h1,h2⟩:=h.ex
 refine⟨_,λi=>pe_lst (h1 i),⟨?_⟩⟩
 intro ρ S H L σ Q rel rl g
 refine h2.run rel rl (g.bind.imp λxs S1 ρ1 H1 e1 r1 g1 vs rs=>?_)
 unfold aW at g1
 split at g1
 ·rename_i z
  exact⟨by rw[<- rs.length];exact tS z,Good.newL g1 r1 rs⟩
 ·exact g1.elim
theorem Good.push {ρ:Rho} {H:Hp} {S:Sto} {Q:VK} {o:Ob} (g:Good K G X ρ H (some (.ok (.ref S.length),S++[o])) (KL K G Q)) (rel:Rel K G ρ H S) {q:Addr} {H1:Hp} (s:Same H H1) (hq:H q=none)
  (n:Ext ρ H (ρ.add q) H1->ObR K G (ρ.add q) H1 q o):Q (.ref q) H1:=by
 obtain⟨e,r⟩:=rel.push s hq n
 refine g _ _ e r _ (.ref ?_)
 show(ρ.l++[q])[S.length]? = some q
 rw[<- rel.len]
 simp
def aV:List W->M W:=λws S=>match ws with
 | [x]=>match yG S x with
  | some xs=>some (.ok (.ref S.length),S++[.lst xs])
  | none=>none
 | _=>none
theorem O2:EG K G (SU K) aV:=by
 intro X ρ S H xs vs Q rel r g
 unfold aV at g
 split at g
 ·split at g
  ·rename_i ys hs
   obtain⟨v,rfl,rx⟩:=r.one
   obtain⟨p,us,rfl,hq,r2⟩:=rW rel rx hs
   exact⟨p,us,rfl,hq,λq hn=>Good.push g rel (T5 hn) hn λe=>⟨us,upd_same,r2.mono e⟩⟩
  ·exact g.elim
 ·exact g.elim
theorem X2 (h:QA c K G X es ms):QE c K G X (.List es pos) (fD LU ms):=by
 obtain⟨t,h1,h2⟩:=h.ex
 refine⟨_,λi=>pe_lst (h1 i),⟨?_⟩⟩
 intro ρ S H L σ Q rel rl g
 refine h2.run rel rl (g.bind.imp λxs S1 ρ1 H1 e1 r1 g1 vs rs=>?_)
 unfold LU at g1
 split at g1
 ·rename_i z
  exact⟨by rw[<- rs.length];exact tS z,λq hq=>Good.push g1 r1 (T5 hq) hq λe=>⟨vs,upd_same,rs.mono e⟩⟩
 ·exact g1.elim
theorem RA.call {r:List V->Hp->VK->Prop} {f:List W->M W} {t:TA} (hf:EG K G r f) (h:RA K G X t ms):RE K G X (tCB r t) (fD f ms):=⟨by
 intro ρ S H L σ Q rel rl g
 exact h.run rel rl (g.bind.imp λxs S1 ρ1 H1 e1 r1 g1 vs rs=>hf r1 rs g1)⟩
theorem bK {id:String} {x:Str} {r:List V->Hp->VK->Prop} {f:List W->M W} (hc:∀ i,CallR (c i) (.builtin id) r) (hf:EG K G r f) (hg:∀ i,Gl (c i) x) (hm:∀ i,(c i).mg x=none) (hv:bootBuiltins x=some (.builtin id)) (ha:QA c K G X (e :: es) ms)
  (hn:x ≠ "__name__" := by decide) (hdb:(x == ("__debug__" : Str))=false:=by decide) (he:∀ i,starEach (e :: es) (c i).env=(false,eval e (c i).env) :: starEach es (c i).env:=by exact λ_=>rfl)
  (hpl:∀ i,(backTo pos (starEach es (c i).env)).any (·.1)=false:=by exact λ_=>rfl):QE c K G X (.Call (.Name x p) (e :: es) [] pos) (fD f ms):=by
 obtain⟨t,h1,h2⟩:=ha.ex
 exact⟨_,λi=>pe_callB (hc i) (hg i) (hm i) hv (h1 i) hn hdb (he i) (hpl i),h2.call hf⟩
theorem MR {T:String} {x:Str} {r:List V->Hp->VK->Prop} {f:List W->M W} (hc:∀ i,CallR (c i) (.type T) r) (hf:EG K G r f) (hg:∀ i,Gl (c i) x) (hm:∀ i,(c i).mg x=none) (hv:bootBuiltins x=some (.type T)) (ha:QA c K G X (e :: es) ms)
  (hn:x ≠ "__name__" := by decide) (hdb:(x == ("__debug__" : Str))=false:=by decide) (he:∀ i,starEach (e :: es) (c i).env=(false,eval e (c i).env) :: starEach es (c i).env:=by exact λ_=>rfl)
  (hpl:∀ i,(backTo pos (starEach es (c i).env)).any (·.1)=false:=by exact λ_=>rfl):QE c K G X (.Call (.Name x p) (e :: es) [] pos) (fD f ms):=by
 obtain⟨t,h1,h2⟩:=ha.ex
 exact⟨_,λi=>pe_callTy (hc i) (hg i) (hm i) hv (h1 i) hn hdb (he i) (hpl i),h2.call hf⟩
theorem rZi {ρ:Rho} {H:Hp} {ws:List W} {vs:List V} {i:Int} {w:W} (r:RVs K G ρ H ws vs) (h:atI ws i=some w):∃ v,atI vs i=some v/\RV K G ρ H w v:=by
 unfold atI at h ⊢
 rw[<- r.length]
 obtain⟨j,h1,h2⟩:=jF.mp h
 obtain⟨v,h3,h4⟩:=r.get h2
 exact⟨v,by rw[h1];exact h3,h4⟩
theorem K8q:jU K G (rIx K) ixM:=by
 intro X ρ S H x y vx vy Q rel rx ry g
 obtain⟨w,hw,g2⟩:=Good.lift (o:=ixW S x y) g
 unfold ixW at hw
 split at hw
 ·split at hw
  ·split at hw
   ·rename_i z
    obtain⟨c,hc,rfl⟩:=qm.mp hw
    cases rx;cases ry
    exact zK2 (tS z) hc (g2.fin rel (.str _))
   ·cases hw
  ·obtain⟨xs,hs,ha⟩:=jF.mp hw
   obtain⟨p,vs,rfl,hq,r⟩:=rW rel rx hs
   cases ry
   obtain⟨v,h3,h4⟩:=rZi r ha
   rcases hq with hq|hq
   ·exact eF3 hq h3 (g2.fin rel h4)
   ·exact pGJ hq h3 (g2.fin rel h4)
 ·cases hw
theorem N4 (cx:Ctx c K) (ha:QE c K G X a ma) (hb:QE c K G X b mb) (hs:PlainIx b):QE c K G X (.Subscript a b pos) (mOp ixM ma mb):=by
 obtain⟨ta,h1,h2⟩:=ha.ex
 obtain⟨tb,h3,h4⟩:=hb.ex
 exact⟨_,λi=>pe_ix (cx.kK i ▸ ix_seq) (h1 i) (h3 i) hs,h2.op K8q h4⟩
theorem BW:QO c K G X none JA:=⟨tNoPart,λi=>po_none,⟨λrel rl g=>g.ok rel⟩⟩
theorem fH (ha:QE c K G X a ma):QO c K G X (some a) (dZ ma):=by
 obtain⟨t,h1,h2⟩:=ha.ex
 refine⟨tPart t,λi=>po_some (h1 i),⟨?_⟩⟩
 intro ρ S H L σ Q rel rl g
 refine h2.run rel rl (g.bind.imp λx S1 ρ1 H1 e1 r1 g1 vx rx=>?_)
 unfold QLP at g1
 split at g1
 ·cases rx
  exact⟨_,rfl,g1.ok r1⟩
 ·exact g1.elim
theorem Q6L {ρ:Rho} {H:Hp} {ws:List W} {vs:List V} {lo hi:Option Int} (r:RVs K G ρ H ws vs):RVs K G ρ H (PD ws lo hi) (cutV vs lo hi):=by
 unfold PD cutV
 rw[r.length]
 exact(r.drop _).take _
theorem TBg {α:Type} {xs:List α} {lo hi:Option Int} (h:HT.sIx xs.length 0 lo=0/\HT.sIx xs.length xs.length hi=xs.length):PD xs lo hi=xs:=by
 unfold PD
 rw[h.1,h.2,List.drop_zero,Nat.sub_zero,List.take_length]
def rKZ (K:qk):V->Option Int->Option Int->Hp->VK->Prop:=λx lo hi H Q=>rSlL K x lo hi H Q \/ (λx lo hi H Q=>rSlA K x lo hi H Q \/ rSlS x lo hi H Q) x lo hi H Q
theorem slU (X:Cx):SlR X (rKZ X.K):=sl_list.or (sl_tupA.or sl_str)
theorem D2 {lo hi:Option Expr} {p2:Pos} {ml mh:Lo->M (Option Int)} (cx:Ctx c K) (ha:QE c K G X a ma) (hl:QO c K G X lo ml) (hh:QO c K G X hi mh):QE c K G X (.Subscript a (.Slice lo hi none p2) pos) (mSl ma ml mh):=by
 obtain⟨t,h1,h2⟩:=ha.ex
 obtain⟨tl,h3,h4⟩:=hl.ex
 obtain⟨th,h5,h6⟩:=hh.ex
 refine⟨tSl (rKZ K) t tl th,λi=>pe_slice (cx.kK i ▸ slU (c i)) (h1 i) (h3 i) (h5 i),⟨?_⟩⟩
 intro ρ S H L σ Q rel rl g
 refine h2.run rel rl (g.bind.imp λx S1 ρ1 H1 e1 r1 g1 vx rx=>?_)
 refine h4.run r1 (rl.mono e1) (g1.bind.imp λlo S2 ρ2 H2 e2 r2 g2=>?_)
 refine h6.run r2 ((rl.mono e1).mono e2) (g2.bind.imp λhi S3 ρ3 H3 e3 r3 g3=>?_)
 obtain⟨w,hw,g4⟩:=Good.lift (o:=slW S3 x lo hi) g3
 have rx:=(rx.mono e2).mono e3
 unfold slW at hw
 split at hw
 ·split at hw
  ·rename_i z
   cases hw;cases rx
   exact .inr (.inr ⟨_,rfl,tS z,g4.fin r3 (.str _)⟩)
  ·cases hw
 ·cases hw
  cases rx with
  | @tup _ p vs h1 r=>
   refine .inr (.inl ⟨p,vs,rfl,SqT.of h1,λz=>?_,λ_=>g4.newT r3 (Q6L r)⟩)
   rw[<- r.length] at z
   rw[TBg z] at g4
   exact g4.fin r3 (.tup h1 r)
 ·obtain⟨xs,hs,rfl⟩:=qm.mp hw
  obtain⟨p,vs,rfl,hp,r⟩:=pX r3 rx hs
  exact .inl ⟨p,vs,rfl,SqL.of hp,g4.newL r3 (Q6L r)⟩
theorem mJ {ρ:Rho} {H:Hp} {f:Str} {w:W}:∀ {fs:List (Str × W)} {vs:List (Str × V)},RKs K G ρ H fs vs->fs.lookup f=some w->∃ v,vs.lookup f=some v/\RV K G ρ H w v
 | _,_,.nil,h=>by simp at h
 | _,_,.cons (a:=p) (b:=q) hd t,h=>by
  obtain⟨k,x⟩:=p
  obtain⟨k',y⟩:=q
  obtain⟨e,r⟩:=hd
  simp only at e r
  subst e
  rw[Qh] at h ⊢
  cases z:f == k with
  | true=>
   rw[z] at h
   cases h
   exact⟨y,rfl,r⟩
  | false=>
   rw[z] at h
   exact mJ t h
theorem z6 {κ:Type} {ρ:Rho} {H:Hp}:∀ {fs:List κ} {ws:List W} {vs:List V},RVs K G ρ H ws vs->fs.length=ws.length->RKs K G ρ H (fs.zip ws) (fs.zip vs)
 | [],[],_,.nil,_=>.nil
 | f :: fs,w :: ws,_,.cons h t,l=>.cons ⟨rfl,h⟩ (z6 t (by simpa using l))
theorem XO {κ:Type} {fs:List κ} {ws:List W} {p:κ × W} (h:p ∈ fs.zip ws):p.1 ∈ fs:=(Qk (a:=p.1) (b:=p.2) h).1
theorem IJ {f:Str} {w:W}:∀ {fs:List (Str × W)},fs.lookup f=some w->(f,w) ∈ fs
 | [],h=>by simp at h
 | (k,x) :: fs,h=>by
  rw[Qh] at h
  split at h
  ·rename_i z
   cases h
   rw[eq_of_beq z]
   exact qw
  ·exact qy _ (IJ h)
theorem E79 {ρ:Rho} {H:Hp} {S:Sto} {x w:W} {v:V} {f:Str} (rel:Rel K G ρ H S) (r:RV K G ρ H x v) (h:P8 S f x=some w) :
  ∃ a C dx fs u,v = .ref a/\H a=some (.ins C dx fs)/\Cls K C/\NoAttr K C f/\fs.lookup f=some u/\RV K G ρ H w u:=by
 unfold P8 at h
 split at h
 ·cases r with
  | obj h1 n c nf l r=>
   obtain⟨u,h2,h3⟩:=mJ (z6 r l) h
   exact⟨_,_,_,_,u,rfl,h1,c,nf _ (XO (IJ h)),h2,h3⟩
 ·split at h
  ·rename_i hs
   cases r with
   | ref e=>
    obtain⟨dx,vs,h1,c,nf,r⟩:=rel.ref e hs
    obtain⟨u,h2,h3⟩:=mJ r h
    exact⟨_,_,_,_,u,rfl,h1,c,nf _ (IJ h),h2,h3⟩
  ·cases h
 ·cases h
theorem IC {f:Str} (cx:Ctx c K) (ha:QE c K G X e ma) (hb:∀ i,attributeBase e f (c i).env (eval e (c i).env)=eval e (c i).env:=by exact λ_=>rfl):QE c K G X (.Attribute e f pos) (xI f ma):=by
 obtain⟨t,h1,h2⟩:=ha.ex
 refine⟨tFld K t f,λi=>?_,⟨?_⟩⟩
 ·have:=pe_fld (pos:=pos) (h1 i) (hb i)
  rw[cx.kK i] at this
  exact this
 ·intro ρ S H L σ Q rel rl g
  refine h2.run rel rl (g.bind.imp λx S1 ρ1 H1 e1 r1 g1 vx rx=>?_)
  obtain⟨w,hw,g2⟩:=Good.lift (o:=P8 S1 f x) g1
  obtain⟨a,C,dx,fs,u,rfl,h3,h4,h5,h6,h7⟩:=E79 r1 rx hw
  exact⟨a,C,dx,fs,u,rfl,h3,h4,h5,h6,g2.fin r1 h7⟩
theorem WJ {κ:Type} [DecidableEq κ] {ρ:Rho} {H:Hp} {k:κ}:∀ {kvs:List (κ × W)} {vs:List (κ × V)},RKs K G ρ H kvs vs->(jT kvs k=none/\valV vs k=none) \/ ∃ w v,jT kvs k=some w/\valV vs k=some v/\RV K G ρ H w v
 | _,_,.nil=>.inl ⟨rfl,rfl⟩
 | _,_,.cons (a:=p) (b:=q) hd t=>by
  obtain⟨k',x⟩:=p
  obtain⟨k2,y⟩:=q
  obtain⟨e,r⟩:=hd
  simp only at e r
  subst e
  by_cases h:k'=k
  ·subst h
   exact .inr ⟨x,y,by simp [jT,zp],by simp [valV,zp],r⟩
  ·rcases WJ t with⟨h1,h2⟩|⟨w,v,h1,h2,h3⟩
   ·exact .inl ⟨by simpa [jT,zp,h] using h1,by simpa [valV,zp,h] using h2⟩
   ·exact .inr ⟨w,v,by simpa [jT,zp,h] using h1,by simpa [valV,zp,h] using h2,h3⟩
theorem XFC {κ:Type} [DecidableEq κ] {ρ:Rho} {H:Hp} {k:κ}:∀ {kvs:List (κ × W)} {vs:List (κ × V)},RKs K G ρ H kvs vs->(kvs.any λkv=>decide (kv.1=k))=(vs.any λkv=>decide (kv.1=k))
 | _,_,.nil=>rfl
 | _,_,.cons hd t=>by rw[List.any_cons,List.any_cons,XFC t,hd.1]
theorem n2K {κ:Type} [DecidableEq κ] {ρ:Rho} {H:Hp} {k:κ} {w:W} {v:V} (h:RV K G ρ H w v):∀ {kvs:List (κ × W)} {vs:List (κ × V)},RKs K G ρ H kvs vs ->
  RKs K G ρ H (kvs.map (λkv=>if kv.1=k then(kv.1,w) else kv)) (vs.map (λkv=>if kv.1=k then(kv.1,v) else kv))
 | _,_,.nil=>.nil
 | _,_,.cons (a:=p) (b:=q) hd t=>by
  refine .cons ?_ (n2K h t)
  show(if p.1=k then(p.1,w) else p).1=(if q.1=k then(q.1,v) else q).1/\RV K G ρ H (if p.1=k then(p.1,w) else p).2 (if q.1=k then(q.1,v) else q).2
  by_cases hk:p.1=k
  ·rw[if_pos hk,if_pos (by rw[<- hd.1];exact hk)]
   exact⟨hd.1,h⟩
  ·rw[if_neg hk,if_neg (by rw[<- hd.1];exact hk)]
   exact hd
theorem QP {κ:Type} {ρ:Rho} {H:Hp}:∀ {kvs more:List (κ × W)} {vs vm:List (κ × V)},RKs K G ρ H kvs vs->RKs K G ρ H more vm->RKs K G ρ H (kvs++more) (vs++vm)
 | _,_,_,_,.nil,s=>s
 | _,_,_,_,.cons hd t,s=>.cons hd (QP t s)
theorem oM {κ:Type} [DecidableEq κ] {ρ:Rho} {H:Hp} {k:κ} {w:W} {v:V} {kvs:List (κ × W)} {vs:List (κ × V)} (r:RKs K G ρ H kvs vs) (h:RV K G ρ H w v):RKs K G ρ H (pK kvs k w) (putK vs k v):=by
 unfold pK putK
 rw[XFC r]
 split
 ·exact n2K h r
 ·exact QP r (.cons ⟨rfl,h⟩ .nil)
theorem HV {ρ:Rho} {H:Hp} {x:W} {v:V} {k:Key} (r:RV K G ρ H x v) (h:mS x=some k):v=kV k:=by
 unfold mS at h
 split at h
 ·cases h;cases r;rfl
 ·cases h;cases r;rfl
 ·cases h
theorem GJ {ρ:Rho} {H:Hp}:∀ {xs:List W} {vs:List V} {ks:List Key},RVs K G ρ H xs vs->yD xs=some ks->vs=ks.map kV
 | _,_,_,.nil,h=>by simp only[yD] at h;cases h;rfl
 | _,_,_,.cons hd t,h=>by
  simp only[yD] at h
  split at h
  ·rename_i k ks h1 h2
   cases h
   rw[HV hd h1,GJ t h2]
   rfl
  ·cases h
theorem jL {ρ:Rho} {H:Hp} {x:W} {v:V} {k:List Key} (r:RV K G ρ H x v) (h:iJ x=some k):∃ b,v = .ref b/\H b=some (.tup (k.map kV)):=by
 unfold iJ at h
 split at h
 ·cases r with
  | tup h1 r=>exact⟨_,rfl,by rw[h1,GJ r h]⟩
 ·cases h
theorem i7 {ρ:Rho} {H:Hp} {S:Sto} {d k:W} {vd vk:V} {o:Option W} (rel:Rel K G ρ H S) (rd:RV K G ρ H d vd) (rk:RV K G ρ H k vk) (h:qW S d k=some o) :
  ∃ a o',vd = .ref a/\DGet H a vk o'/\(o=none/\o'=none \/ ∃ w v,o=some w/\o'=some v/\RV K G ρ H w v)/\IsD H a:=by
 have fin:∀ {κ:Type} [DecidableEq κ] {kvs:List (κ × W)} {vs:List (κ × V)} (k:κ),RKs K G ρ H kvs vs->(jT kvs k=none/\valV vs k=none \/ ∃ w v,jT kvs k=some w/\valV vs k=some v/\RV K G ρ H w v):=λk r=>WJ r
 unfold qW at h
 split at h
 ·obtain⟨k',hk,rfl⟩:=qm.mp h
  cases rd with
  | @dk ks ws p vs h1 n l r=>exact⟨p,_,rfl,.inl ⟨_,k',.inl h1,HV rk hk,rfl⟩,fin k' (z6 r l),.inl ⟨_,.inl h1⟩⟩
 ·obtain⟨k',hk,rfl⟩:=qm.mp h
  cases rd with
  | @dt ks ws p vs h1 n l r=>
   obtain⟨b,e1,e2⟩:=jL rk hk
   exact⟨p,_,rfl,.inr ⟨_,k',b,.inl h1,e1,e2,rfl⟩,fin k' (z6 r l),.inr ⟨_,.inl h1⟩⟩
 ·split at h
  ·rename_i hs
   obtain⟨k',hk,rfl⟩:=qm.mp h
   cases rd with
   | ref e=>
    obtain⟨vs,h1,r⟩:=rel.ref e hs
    exact⟨_,_,rfl,.inl ⟨_,k',.inl h1,HV rk hk,rfl⟩,fin k' r,.inl ⟨_,.inl h1⟩⟩
  ·rename_i hs
   obtain⟨k',hk,rfl⟩:=qm.mp h
   cases rd with
   | ref e=>
    obtain⟨vs,h1,r⟩:=rel.ref e hs
    obtain⟨b,e1,e2⟩:=jL rk hk
    exact⟨_,_,rfl,.inr ⟨_,k',b,.inl h1,e1,e2,rfl⟩,fin k' r,.inr ⟨_,.inl h1⟩⟩
  ·cases h
 ·cases h
theorem q7u:jU K G NQH sT:=by
 intro X ρ S H x y vx vy Q rel rx ry g
 obtain⟨w,hw,g⟩:=Good.lift (o:=(qW S x y).join) g
 obtain⟨a,o',rfl,h1,h2,_⟩:=i7 rel rx ry (Option.join_eq_some_iff.mp hw)
 rcases h2 with⟨z,_⟩|⟨w',v,e,rfl,r⟩
 ·cases z
 ·cases e
  exact⟨a,v,rfl,h1,g.fin rel r⟩
theorem XI (cx:Ctx c K) (ha:QE c K G X a ma) (hb:QE c K G X b mb) (hs:NoSl b):QE c K G X (.Subscript a b pos) (mOp sT ma mb):=by
 obtain⟨ta,h1,h2⟩:=ha.ex
 obtain⟨tb,h3,h4⟩:=hb.ex
 exact⟨tDGet ta tb,λi=>pe_dget (by have:=cx.un i;omega) (h1 i) (h3 i) hs,h2.op q7u h4⟩
theorem RE.din {ta tb:TE} (neg:Bool) (ha:RE K G X ta ma) (hb:RE K G X tb mb):RE K G X (λσ H Q=>ta σ H λy H1=>tb σ H1 λx H2=>∃ a o,x = .ref a/\DGet H2 a y o/\Q (.bl (if neg then !o.isSome else o.isSome)) H2) (mOp (rI6 neg) ma mb):=⟨by
 intro ρ S H L σ Q rel rl g
 refine ha.run rel rl (g.bind.imp λx S1 ρ1 H1 e1 r1 g1 vx rx=>?_)
 refine hb.run r1 (rl.mono e1) (g1.bind.imp λy S2 ρ2 H2 e2 r2 g2 vy ry=>?_)
 obtain⟨w,hw,g3⟩:=Good.lift (o:=(qW S2 y x).map λo=>W.bl (if neg then !o.isSome else o.isSome)) g2
 obtain⟨o,ho,rfl⟩:=qm.mp hw
 obtain⟨a,o',rfl,h1,h2,_⟩:=i7 r2 ry (rx.mono e2) ho
 have fin:=g3.fin r2 (.bl _)
 refine⟨a,o',rfl,h1,?_⟩
 rcases h2 with⟨rfl,rfl⟩|⟨w',v,rfl,rfl,r⟩ <;> exact fin⟩
theorem TD (cx:Ctx c K) (ha:QE c K G X a ma) (hb:QE c K G X b mb) (hm:behindInMarks .NotIn b=false:=by rfl):QT c K G X (.Compare a [.NotIn] [b] pos) (tW (mOp (rI6 true) ma mb)):=by
 obtain⟨ta,h1,h2⟩:=ha.ex
 obtain⟨tb,h3,h4⟩:=hb.ex
 exact⟨_,λi=>pt_cmp (pc_dnotin (by have:=cx.un i;omega) (h1 i) (h3 i)) hm,(h2.din true h4).tst⟩
end
end Mi
namespace Mi
open PySem PySem.Spec
open PyProof.Rows L2 Cp
section
variable {K:qk} {G:Str->Addr} {ρ ρ1:Rho} {H H1:Hp} {p:Addr}
structure Re (ρ:Rho) (H:Hp) (ρ1:Rho) (H1:Hp):Prop where
 off:∀ (a:Addr) (u:HO),ρ.Off a->(∀ ps,u ≠ .tbl ps)->H a=some u->ρ1.Off a/\H1 a=some u
 tup:∀ (a:Addr) (xs:List V),H a=some (.tup xs)->H1 a=some (.tup xs)
 pl:∀ (n:Nat) (a:Addr),ρ.l[n]? = some a->ρ1.l[n]? = some a
 fz:∀ (a:Addr) (o:Obj) (u:HO),H a=some (.frz o u)->H1 a=some (.frz o u)
theorem Re.at2 (k:Re ρ H ρ1 H1) {a:Addr} {u:HO} (n:ρ.Off a) (h:H a=some u) (nt:∀ ps,u ≠ .tbl ps:=by(intro ps z;cases z)):ρ1.Off a/\H1 a=some u:=k.off a u n nt h
mutual
theorem RV.re (k:Re ρ H ρ1 H1):∀ {w:W} {v:V},RV K G ρ H w v->RV K G ρ1 H1 w v
 | _,_,.non=>.non
 | _,_,.bl b=>.bl b
 | _,_,.int i=>.int i
 | _,_,.str x=>.str x
 | _,_,.ty n=>.ty n
 | _,_,.cls c=>.cls c
 | _,_,.tup h r=>.tup (k.tup _ _ h) (RVs.re k r)
 | _,_,.kt h r=>.kt h (RVs.re k r)
 | _,_,.lst h n r=>.lst (k.at2 n h).2 (k.at2 n h).1 (RVs.re k r)
 | _,_,.dk h n l r=>.dk (k.at2 n h).2 (k.at2 n h).1 l (RVs.re k r)
 | _,_,.dt h n l r=>.dt (k.at2 n h).2 (k.at2 n h).1 l (RVs.re k r)
 | _,_,.obj h n c f l r=>.obj (k.at2 n h).2 (k.at2 n h).1 c f l (RVs.re k r)
 | _,_,.exc h n h2 n2 l r=>.exc (k.at2 n h IK).2 (k.at2 n h IK).1 (k.at2 n2 h2).2 (k.at2 n2 h2).1 l (RVs.re k r)
 | _,_,.ref h=>.ref (k.pl _ _ h)
 | _,_,.scr (.inl ⟨.inl h,n⟩)=>.scr (.inl ⟨.inl (k.at2 n h).2,(k.at2 n h).1⟩)
 | _,_,.scr (.inl ⟨.inr ⟨o,h⟩,n⟩)=>.scr (.inl ⟨.inr ⟨o,(k.at2 n h).2⟩,(k.at2 n h).1⟩)
 | _,_,.scr (.inr h)=>.scr (.inr h)
theorem RVs.re (k:Re ρ H ρ1 H1):∀ {ws:List W} {vs:List V},RVs K G ρ H ws vs->RVs K G ρ1 H1 ws vs
 | _,_,.nil=>.nil
 | _,_,.cons h r=>.cons (RV.re k h) (RVs.re k r)
end
theorem RKs.re {κ:Type} (k:Re ρ H ρ1 H1):∀ {ws:List (κ × W)} {vs:List (κ × V)},RKs K G ρ H ws vs->RKs K G ρ1 H1 ws vs
 | _,_,.nil=>.nil
 | _,_,.cons h t=>.cons ⟨h.1,h.2.re k⟩ (RKs.re k t)
theorem ObR.re (k:Re ρ H ρ1 H1) (s:∀ o,H p=Option.some o->H1 p=Option.some o):∀ {o:Ob},ObR K G ρ H p o->ObR K G ρ1 H1 p o
 | .lst _,⟨vs,h,r⟩=>⟨vs,s _ h,r.re k⟩
 | .dk _,⟨vs,h,r⟩=>⟨vs,s _ h,r.re k⟩
 | .dt _,⟨vs,h,r⟩=>⟨vs,s _ h,r.re k⟩
 | .ins _ _,⟨dx,vs,h,c,f,r⟩=>⟨dx,vs,s _ h,c,f,r.re k⟩
 | .fdk _,⟨o,vs,h,r⟩=>⟨o,vs,s _ h,r.re k⟩
theorem Rel.adopt {S:Sto} (r:Rel K G ρ H S) (hp:p ∉ ρ.l) (hb:ρ.b p) {o:Ob} {b:Addr->Prop} (k:∀ a,b a->ρ.b a) (n:Re ρ H ⟨ρ.l++[p],b⟩ H->ObR K G ⟨ρ.l++[p],b⟩ H p o):Rel K G ⟨ρ.l++[p],b⟩ H (S++[o]):=by
 have re:Re ρ H ⟨ρ.l++[p],b⟩ H:=⟨λa u q _ h=>by
  refine⟨⟨λz=>?_,λz=>q.2 (k a z)⟩,h⟩
  rcases ji.mp z with z|z
  ·exact q.1 z
  ·rw[qp.mp z] at q
   exact q.2 hb,λ_ _ h=>h,λn a h=>by
  show(ρ.l++[p])[n]? = some a
  rw[jl (jk.mp h).1]
  exact h,λ_ _ _ h=>h⟩
 refine⟨by simp [r.len],?_,λm a u h1 h2=>?_,λa h=>r.bl a (k a h),r.tb⟩
 ·refine zv.mpr ⟨r.nd,by simp,λa ha b hb=>?_⟩
  rw[qp.mp hb]
  rintro rfl
  exact hp ha
 ·by_cases hm:m < ρ.l.length
  ·have h1':ρ.l[m]? = some a:=by
    rw[<- h1]
    exact(jl hm).symm
   rw[jl (by rw[<- r.len];exact hm)] at h2
   exact(r.ob m a u h1' h2).re re λ_ q=>q
  ·have:m=ρ.l.length:=by
    have:=(jk.mp h1).1
    simp at this
    omega
   subst this
   simp at h1
   rw[r.len] at h2
   simp at h2
   subst h1 h2
   exact n re
theorem _root_.Mi.Ext.re (e:Ext ρ H ρ1 H1):Re ρ H ρ1 H1:=⟨λa u n nt h=>⟨e.off h n nt,e.keep h n nt⟩,λa xs h=>e.stp a _ h (by intro ps z;cases z) (.inl trivial),λn a h=>e.get h,λa o u h=>e.stp a _ h (by intro ps z;cases z) (.inl trivial)⟩
theorem Re.trans {ρ2:Rho} {H2:Hp} (h:Re ρ H ρ1 H1) (k:Re ρ1 H1 ρ2 H2):Re ρ H ρ2 H2:=⟨λa u n nt q=>by
 obtain⟨n1,q1⟩:=h.off a u n nt q
 exact k.off a u n1 nt q1,λa xs q=>k.tup _ _ (h.tup a xs q),λn a q=>k.pl n a (h.pl n a q),λa o u q=>k.fz a o u (h.fz a o u q)⟩
theorem Re.refl:Re ρ H ρ H:=⟨λ_ _ n _ h=>⟨n,h⟩,λ_ _ h=>h,λ_ _ h=>h,λ_ _ _ h=>h⟩
theorem Re.but (b:But p H H1) (hb:ρ.b p) (nt:∀ xs,H p ≠ some (.tup xs)) (nf:∀ o u,H p ≠ some (.frz o u)):Re ρ H ρ H1:=⟨λa u q _ h=>by
 refine⟨q,(b a λz=>?_).trans h⟩
 subst z
 exact q.2 hb,λa xs h=>(b a λz=>by
  subst z
  exact nt xs h).trans h,λ_ _ h=>h,λa o u h=>(b a λz=>by
  subst z
  exact nf o u h).trans h⟩
@[simp] def NtO:Option HO->Prop
 | some (.lst _)=>True
 | some (.dK _)=>True
 | some (.dT _)=>True
 | _=>False
theorem NtO.ex {o:Option HO} (h:NtO o):∃ u,o=some u/\(∀ ps,u ≠ .tbl ps)/\(∀ c q,u ≠ LamX.CodeO c q)/\(∀ xs,o ≠ some (.tup xs))/\∀ o' v,o ≠ some (.frz o' v):=by
 unfold NtO at h
 split at h
 ·exact⟨_,rfl,(by intro ps z;cases z),(by intro c q z;unfold LamX.CodeO at z;cases z),(by intro xs z;cases z),(by intro o v z;cases z)⟩
 ·exact⟨_,rfl,(by intro ps z;cases z),(by intro c q z;unfold LamX.CodeO at z;cases z),(by intro xs z;cases z),(by intro o v z;cases z)⟩
 ·exact⟨_,rfl,(by intro ps z;cases z),(by intro c q z;unfold LamX.CodeO at z;cases z),(by intro xs z;cases z),(by intro o v z;cases z)⟩
 ·exact h.elim
theorem NtO.old {H:Hp} {a:Addr} (h:NtO (H a)):OldA H a:=by
 obtain⟨u,e,n1,_⟩:=h.ex
 exact⟨u,e,n1⟩
theorem Rel.but {S:Sto} (r:Rel K G ρ H S) (b:But p H H1) (hb:ρ.b p) (hp:p ∉ ρ.l) (nt:NtO (H p)) (h1:NtO (H1 p)):Rel K G ρ H1 S:=
 ⟨r.len,r.nd,λn a o e1 e2=>(r.ob n a o e1 e2).re (.but b hb nt.ex.choose_spec.2.2.2.1 nt.ex.choose_spec.2.2.2.2) λu q=>(b a λz=>by
  subst z
  exact hp (zu e1)).trans q,λa h=>by
  by_cases ha:a=p
  ·subst ha
   exact h1.old
  ·obtain⟨o,q',nt⟩:=r.bl a h
   exact⟨o,(b a ha).trans q',nt⟩,by
  obtain⟨u,e,n1,n2,_⟩:=nt.ex
  exact r.tb.but b e n1 n2⟩
structure Way (K:qk) (G:Str->Addr) (ρ:Rho) (H:Hp) (D:Addr) (ρ1:Rho) (H1:Hp) (S1:Sto):Prop where
 ext:Ext ρ H ρ1 H1
 rel:Rel K G ρ1 H1 S1
 b:ρ1.b D
 l:D ∉ ρ1.l
variable {S S1 S2:Sto} {D:Addr} {ρ2:Rho} {H2:Hp}
theorem Way.start (rel:Rel K G ρ H S) (s:Same H H1) (hD:H D=none) (h1:NtO (H1 D)):Way K G ρ H D (ρ.block D) H1 S:=
 ⟨.block s hD,rel.block s hD h1.old,.inr rfl,(rel.new hD).1⟩
theorem Way.go (w:Way K G ρ H D ρ1 H1 S1) (e:Ext ρ1 H1 ρ2 H2) (r:Rel K G ρ2 H2 S2) (h:NtO (H1 D)):Way K G ρ H D ρ2 H2 S2:=
 ⟨w.ext.trans e,r,e.b1 D w.b,by
  obtain⟨u,q,n1,_⟩:=h.ex
  exact e.off' q w.l n1⟩
theorem Way.keep (w:Way K G ρ H D ρ1 H1 S1) (e:Ext ρ1 H1 ρ2 H2) {o:HO} (h:H1 D=some o) (nt:∀ ps,o ≠ .tbl ps:=by(intro ps z;cases z)):H2 D=some o:=e.stp D o h nt (.inr w.l)
theorem Way.set (w:Way K G ρ H D ρ1 H1 S1) (b:But D H1 H2) (hD:H D=none) (nt:NtO (H1 D)) (h1:NtO (H2 D)):Way K G ρ H D ρ1 H2 S1:=
 ⟨⟨w.ext.pre,w.ext.new,λa o h nt n=>(b a λz=>by
  subst z
  rw[hD] at h
  cases h).trans (w.ext.stp a o h nt n),w.ext.b1,w.ext.b2⟩,w.rel.but b w.b w.l nt h1,w.b,w.l⟩
theorem Way.value (w:Way K G ρ H D ρ1 H1 S1) (rel:Rel K G ρ H S) (hD:H D=none):Ext ρ H ⟨ρ1.l,ρ.b⟩ H1/\Rel K G ⟨ρ1.l,ρ.b⟩ H1 S1/\(⟨ρ1.l,ρ.b⟩:Rho).Off D/\Re ρ1 H1 ⟨ρ1.l,ρ.b⟩ H1:=
 ⟨w.ext.free,w.rel.free w.ext.b1,⟨w.l,λz=>(NewA.of hD).old (rel.bl D z)⟩,⟨λa u q _ h=>⟨⟨q.1,λz=>q.2 (w.ext.b1 a z)⟩,h⟩,λ_ _ h=>h,λ_ _ h=>h,λ_ _ _ h=>h⟩⟩
theorem Way.place (w:Way K G ρ H D ρ1 H1 S1) (rel:Rel K G ρ H S) (hD:H D=none) {o:Ob} (n:Re ρ1 H1 ⟨ρ1.l++[D],ρ.b⟩ H1->ObR K G ⟨ρ1.l++[D],ρ.b⟩ H1 D o) :
  Ext ρ H ⟨ρ1.l++[D],ρ.b⟩ H1/\Rel K G ⟨ρ1.l++[D],ρ.b⟩ H1 (S1++[o])/\(⟨ρ1.l++[D],ρ.b⟩:Rho).l[S1.length]? = some D:=by
 refine⟨⟨?_,λa m=>?_,w.ext.stp,λ_ h=>h,λ_ h=>.inl h⟩,w.rel.adopt w.l w.b w.ext.b1 n,?_⟩
 ·obtain⟨t,e⟩:=w.ext.pre
  exact⟨t++[D],by simp [e]⟩
 ·rcases ji.mp m with m|m
  ·exact w.ext.new a m
  ·rw[qp.mp m]
   exact .inr (.of hD)
 ·show(ρ1.l++[D])[S1.length]? = some D
  rw[<- w.rel.len]
  simp
end
section
variable {K:qk} {G:Str->Addr} {X:W->Rho->Hp->Prop} {α β:Type} {ρ ρ1:Rho} {H H1:Hp} {S:Sto} {k:α->Sto->Rho->Hp->Prop}
theorem Good.bindB {m:M β} {f:β->M α} (h:Good K G X ρ H (M.bind m f S) k) (e:Ext ρ H ρ1 H1):Good K G X ρ1 H1 (m S) (λa S2 ρ2 H2=>Good K G X ρ H (f a S2) k):=by
 unfold M.bind at h
 cases q:m S with
 | none=>rw[q] at h;exact h
 | some p=>
  obtain⟨p,S1⟩:=p
  rw[q] at h
  cases p with
  | er x=>exact λρ2 H2 e2 r2=>h ρ2 H2 (e.trans e2) r2
  | ok a=>exact λρ2 H2 e2 r2=>h
end
section
variable {ι:Type} {c:ι->Cx} {K:qk} {G:Str->Addr} {X:W->Rho->Hp->Prop} {e a b d:Expr} {pos p:Pos} {m ma mb md:Lo->M W}
theorem D4:QPs c K G X pos [] [] []:=⟨[],λ_=>pps_nil,⟨λrel rl g=>g.ok rel [] .nil⟩⟩
theorem VD {ks:List (Option Expr)} {vs:List Expr} {ms:List ((Lo->M W) × (Lo->M W))} (ha:QE c K G X a ma) (hb:QE c K G X b mb) (hr:QPs c K G X pos ks vs ms):QPs c K G X pos (some a :: ks) (b :: vs) ((ma,mb) :: ms):=by
 obtain⟨ta,h1,h2⟩:=ha.ex
 obtain⟨tb,h3,h4⟩:=hb.ex
 obtain⟨trs,h5,h6⟩:=hr.ex
 refine⟨(ta,tb) :: trs,λi=>pps_cons (h1 i) (h3 i) (h5 i),⟨?_⟩⟩
 intro ρ S H L σ Q rel rl g
 refine h2.run rel rl (Good.imp (Good.bind g) λx S1 ρ1 H1 e1 r1 g1 vx rx=>?_)
 refine h4.run r1 (rl.mono e1) (g1.bind.imp λy S2 ρ2 H2 e2 r2 g2 vy ry=>?_)
 refine h6.run r2 ((rl.mono e1).mono e2) (g2.bind.imp λps S3 ρ3 H3 e3 r3 g3 vs rs=>?_)
 exact g3.ok r3 _ (.cons ⟨(rx.mono e2).mono e3,ry.mono e3⟩ rs)
theorem qZ {ρ:Rho} {H:Hp}:∀ {ps:List (W × W)} {vs:List (V × V)} {kvs:List (Key × W)},RPP K G ρ H ps vs->XS ps=some kvs->∃ kvv:List (Key × V),vs=kvv.map (λkv=>(kV kv.1,kv.2))/\RKs K G ρ H kvs kvv
 | _,_,_,.nil,h=>by simp only[XS] at h;cases h;exact⟨[],rfl,.nil⟩
 | _,_,_,.cons (a:=p) (b:=q) hd t,h=>by
  obtain⟨k,w⟩:=p
  obtain⟨vk,vw⟩:=q
  simp only[XS] at h
  split at h
  ·rename_i k' ps' h1 h2
   cases h
   obtain⟨kvv,rfl,r⟩:=qZ t h2
   refine⟨(k',vw) :: kvv,?_,.cons ⟨rfl,hd.2⟩ r⟩
   have e:vk=kV k':=HV hd.1 h1
   subst e
   rfl
  ·cases h
theorem YT {κ:Type} {ρ:Rho} {H:Hp} [DecidableEq κ]:∀ {more acc:List (κ × W)} {vm va:List (κ × V)},RKs K G ρ H more vm->RKs K G ρ H acc va->RKs K G ρ H (qR acc more) (vm.foldl (λ(acc:List (κ × V)) (kv:κ × V)=>putK acc kv.1 kv.2) va)
 | _,_,_,_,.nil,s=>s
 | _,acc,_,va,.cons (a:=p) (b:=q) hd t,s=>by
  have h:=oM (k:=p.1) s hd.2
  show RKs K G ρ H (List.foldl (λ(acc:List (κ × W)) (kv:κ × W)=>pK acc kv.1 kv.2) (pK acc p.1 p.2) _) (List.foldl (λ(acc:List (κ × V)) (kv:κ × V)=>putK acc kv.1 kv.2) (putK va q.1 q.2) _)
  rw[<- hd.1]
  exact YT t h
theorem IF {κ:Type} {ρ:Rho} {H:Hp}:∀ {kvs:List (κ × W)} {vs:List (κ × V)},RKs K G ρ H kvs vs->∃ us,vs=(kvs.map (·.1)).zip us/\RVs K G ρ H (kvs.map (·.2)) us
 | _,_,.nil=>⟨[],rfl,.nil⟩
 | _,_,.cons (a:=p) (b:=q) hd t=>by
  obtain⟨us,h1,h2⟩:=IF t
  refine⟨q.2 :: us,?_,.cons hd.2 h2⟩
  rw[jn,List.zip_cons_cons,h1,hd.1]
theorem AX {ks:List (Option Expr)} {vs:List Expr} {ms:List ((Lo->M W) × (Lo->M W))} (h:QPs c K G X pos ks vs ms) (hall:ks.all (·.isSome)=true) (hl:ks.length=vs.length) (h0:ks ≠ []) (h15:ks.length<=15):QE c K G X (.Dict ks vs pos) (KZ ms):=by
 obtain⟨trs,h1,h2⟩:=h.ex
 refine⟨tDisp trs,λi=>pe_disp (h1 i) hall hl h0 h15,⟨?_⟩⟩
 intro ρ S H L σ Q rel rl g
 refine qUv λD H1 hD s1 h1=>?_
 have w1:Way K G ρ H D (ρ.block D) H1 S:=.start rel s1 hD (by rw[h1];simp)
 refine h2.run w1.rel (rl.mono w1.ext) (Good.imp (Good.bindB g w1.ext) λps S2 ρ2 H2 e2 r2 g2 vps rps=>?_)
 have w2:=w1.go e2 r2 (by rw[h1];simp)
 have hd2:=w1.keep e2 h1
 obtain⟨w,hw,g3⟩:=Good.lift (o:=WG ps) g2
 unfold WG at hw
 split at hw
 ·rename_i kvs hk
  split at hw
  ·rename_i hz
   cases hw
   obtain⟨kvv,rfl,rk⟩:=qZ rps hk
   refine kHo hd2 (λH3 b3 h3=>?_) (by rw[<- RKs.length rk];exact hz)
   have w3:=w2.set b3 hD (by rw[hd2];simp) (by rw[h3];simp)
   obtain⟨e4,r4,o4,re4⟩:=w3.value rel hD
   have rm:RKs K G ρ2 H2 (qR [] kvs) (mergeK [] kvv):=YT rk .nil
   obtain⟨us,eu,ru⟩:=IF rm
   rw[eu] at h3
   exact g3 _ _ e4 r4 _ (.dk h3 o4 (by simp) ((ru.re (.but b3 w2.b (by rw[hd2];simp) (by rw[hd2];simp))).re re4))
  ·cases hw
 ·cases hw
theorem UZc {ks:List (Option Expr)} {vs:List Expr} {ms:List ((Lo->M W) × (Lo->M W))} (h:QPs c K G X pos ks vs ms) (hall:ks.all (·.isSome)=true) (hl:ks.length=vs.length) (h0:ks ≠ []) (h15:ks.length<=15):QE c K G X (.Dict ks vs pos) (xG ms):=by
 obtain⟨trs,h1,h2⟩:=h.ex
 refine⟨tDisp trs,λi=>pe_disp (h1 i) hall hl h0 h15,⟨?_⟩⟩
 intro ρ S H L σ Q rel rl g
 refine qUv λD H1 hD s1 h1=>?_
 have w1:Way K G ρ H D (ρ.block D) H1 S:=.start rel s1 hD (by rw[h1];simp)
 refine h2.run w1.rel (rl.mono w1.ext) (Good.imp (Good.bindB g w1.ext) λps S2 ρ2 H2 e2 r2 g2 vps rps=>?_)
 have w2:=w1.go e2 r2 (by rw[h1];simp)
 have hd2:=w1.keep e2 h1
 split at g2
 ·rename_i kvs hk
  split at g2
  ·rename_i hz
   obtain⟨kvv,rfl,rk⟩:=qZ rps hk
   refine kHo hd2 (λH3 b3 h3=>?_) (by rw[<- RKs.length rk];exact hz)
   have w3:=w2.set b3 hD (by rw[hd2];simp) (by rw[h3];simp)
   have rm:RKs K G ρ2 H2 (qR [] kvs) (mergeK [] kvv):=YT rk .nil
   obtain⟨e4,r4,p4⟩:=w3.place rel hD (o:=.dk (qR [] kvs)) λre=>⟨_,h3,(rm.re (.but b3 w2.b (by rw[hd2];simp) (by rw[hd2];simp))).re re⟩
   exact g2 _ _ e4 r4 _ (.ref p4)
  ·exact g2.elim
 ·exact g2.elim
end
end Mi
namespace Mi
open PySem PySem.Spec
open PyProof.Rows L2 Cp
noncomputable section
def fU (i:Nat):W->Lo->M Lo:=λw L=>M.ret (L.set i (some w))
def gNo:List W->Lo->M Lo:=λws L=>match ws with|[]=>M.ret L | _=>GG
def gCo (g:W->Lo->M Lo) (gs:List W->Lo->M Lo):List W->Lo->M Lo:=λws L=>match ws with|x :: xs=>(g x L).bind λL'=>gs xs L' | _=>GG
def gTu (n:Nat) (gs:List W->Lo->M Lo):W->Lo->M Lo:=λw L=>match w with | .tup xs=>if xs.length=n then gs xs L else GG | _=>GG
def gLs (n:Nat) (gs:List W->Lo->M Lo):W->Lo->M Lo:=λw L S=>match fA S w with|some xs=>if xs.length=n then gs xs L S else none|none=>none
def gSt (n i:Nat) (gs:List W->Lo->M Lo):W->Lo->M Lo:=λw L S=>match yG S w with
 | some xs=>if n<=xs.length+1/\xs.length<=16384 then gs (xs.take i++[.lst ((xs.drop i).take (xs.length+1 - n))]++(xs.drop i).drop (xs.length+1 - n)) L S else none
 | none=>none
def IE (o i v:W):M Unit:=λS=>match o,i with
 | .ref n,.int k=>match S[n]? with
  | some (.lst xs)=>match ixN xs.length k with
   | some j=>some (.ok (),S.set n (.lst (xs.set j v)))
   | none=>none
  | _=>none
 | _,_=>none
def gIt (o i:Lo->M W):W->Lo->M Lo:=λw L=>(o L).bind λx=>(i L).bind λy=>(IE x y w).bind λ_=>M.ret L
def dF:Lo->M Oc:=λL=>M.ret (.nx L)
def FS (b:Lo->M Oc):Oc->M Oc
 | .nx L=>b L
 | o=>M.ret o
def kO (a b:Lo->M Oc):Lo->M Oc:=λL=>(a L).bind (FS b)
def iE (a:Lo->M W):Lo->M Oc:=λL=>(a L).bind λw=>M.ret (.rt w)
def GDV:Lo->M Oc:=λ_=>M.ret (.rt .non)
def x8d:Lo->M Oc:=λL=>M.ret (.bk L)
def M5w:Lo->M Oc:=λL=>M.ret (.ct L)
def fX (a:Lo->M W):Lo->M Oc:=λL=>(a L).bind λ_=>M.ret (.nx L)
def mIf (k:Lo->M Bool) (t u:Lo->M Oc):Lo->M Oc:=λL=>(k L).bind λb=>if b then t L else u L
def O0 (a:Lo->M W) (g:W->Lo->M Lo):Lo->M Oc:=λL=>(a L).bind λw=>(g w L).bind λL'=>M.ret (.nx L')
def IT (i j:Nat) (a:Lo->M (List W)):Lo->M Oc:=λL=>(a L).bind λws=>match ws with|[x,y]=>M.ret (.nx ((L.set i (some x)).set j (some y))) | _=>GG
def PUy (i j l:Nat) (a:Lo->M (List W)):Lo->M Oc:=λL=>(a L).bind λws=>match ws with|[x,y,z]=>M.ret (.nx (((L.set i (some x)).set j (some y)).set l (some z))) | _=>GG
def CA:Lo->M Oc:=λ_=>GG
def MF (f:Str) (v:W):List (Str × W)->List (Str × W)
 | []=>[(f,v)]
 | (g,x) :: r=>if g=f then(g,v) :: r else(g,x) :: MF f v r
def LG (cs:List Str) (f:Str) (x v:W):M Unit:=λS=>match x with
 | .ref n=>match S[n]? with
  | some (.ins c fs)=>if c ∈ cs/\fs.length < 1000 then some (.ok (),S.set n (.ins c (MF f v fs))) else none
  | _=>none
 | _=>none
def mB (cs:List Str) (f:Str) (o v:Lo->M W):Lo->M Oc:=λL=>(v L).bind λy=>(o L).bind λx=>(LG cs f x y).bind λ_=>M.ret (.nx L)
def yI (d k v:W):M Unit:=λS=>match d with
 | .ref n=>match S[n]? with
  | some (.dk kvs)=>match mS k with
   | some k=>if kvs.length < lim then some (.ok (),S.set n (.dk (pK kvs k v))) else none
   | none=>none
  | some (.dt kvs)=>match iJ k with
   | some k=>if kvs.length < lim then some (.ok (),S.set n (.dt (pK kvs k v))) else none
   | none=>none
  | _=>none
 | _=>none
def cA (d k v:Lo->M W):Lo->M Oc:=λL=>(v L).bind λv=>(d L).bind λd=>(k L).bind λk=>(yI d k v).bind λ_=>M.ret (.nx L)
structure Itm where
 items:List W
 live:Sto->Prop
def JL (p:Sto->Prop):M Unit:=λS=>open Classical in if p S then some (.ok (),S) else none
def pD (a:Lo->M W):Lo->M Itm:=λL=>(a L).bind λw S=>match yG S w with
 | some xs=>some (.ok ⟨xs,λS=>yG S w=some xs⟩,S)
 | none=>none
def Y7 (a:Lo->M W):Lo->M Itm:=λL=>(a L).bind λw=>match w with
 | .str z=>M.ret ⟨z.cps.toList.map λc=>.str ⟨#[c]⟩,λ_=>True⟩
 | _=>GG
def MQ (a:Lo->M W):Lo->M Itm:=λL=>(a L).bind λw=>match w with
 | .scr ns=>M.ret ⟨ns.map .int,λ_=>True⟩
 | _=>GG
def lS (lo hi:Int):Itm:=⟨(List.range (hi - lo).toNat).map λ(i:Nat)=>W.int (lo+(i:Int)),λ_=>True⟩
def itR1 (a:Lo->M (List W)):Lo->M Itm:=λL=>(a L).bind λws=>match ws with
 | [.int j]=>if -(2 ^ 62)<=j/\j < 2 ^ 62 then M.ret (lS 0 j) else GG
 | _=>GG
def TC (a:Lo->M (List W)):Lo->M Itm:=λL=>(a L).bind λws S=>match ws with
 | [w]=>match fA S w with
  | some xs=>some (.ok ⟨xs.zipIdx.map λp=>.tup [.int (p.2:Nat),p.1],λS=>fA S w=some xs⟩,S)
  | none=>none
 | _=>none
def AU (go:Lo->M Oc):Oc->M Oc
 | .nx L=>go L
 | .ct L=>go L
 | .bk L=>M.ret (.nx L)
 | .rt w=>M.ret (.rt w)
def Y2 (p:Sto->Prop) (g:W->Lo->M Lo) (b:Lo->M Oc):List W->Lo->M Oc
 | [],L=>(JL p).bind λ_=>M.ret (.nx L)
 | x :: xs,L=>(JL p).bind λ_=>(g x L).bind λL'=>(b L').bind (AU (Y2 p g b xs))
def GN (it:Lo->M Itm) (g:W->Lo->M Lo) (b:Lo->M Oc):Lo->M Oc:=λL=>(it L).bind λI=>Y2 I.live g b I.items L
def C0 (k:Lo->M Bool) (b:Lo->M Oc):Nat->Lo->M Oc
 | 0,_=>GG
 | n+1,L=>(k L).bind λc=>if c then(b L).bind (AU (C0 k b n)) else M.ret (.nx L)
open Classical in
def eE (k:Lo->M Bool) (b:Lo->M Oc):Lo->M Oc:=λL S=>if h:∃ n,C0 k b n L S ≠ none then C0 k b (choose h) L S else none
def YW (L:Lo):List Nat->Lo
 | []=>L
 | v :: vs=>(YW L vs).set v none
def GH (p:Sto->Prop) (g:W->Lo->M Lo) (t:Lo->M Bool) (e:Lo->M W) (vs:List Nat) (L:Lo):List W->List W->M (List W)
 | [],acc=>(JL p).bind λ_=>M.ret acc
 | x :: xs,acc=>(JL p).bind λ_=>(g x (YW L vs)).bind λL'=>(t L').bind λk=>if k then(e L').bind λw=>if acc.length < lim then GH p g t e vs L xs (acc++[w]) else GG else GH p g t e vs L xs acc
def dJ:Lo->M Bool:=λ_=>M.ret true
def wK (f:List W->M W) (it:Lo->M Itm) (g:W->Lo->M Lo) (t:Lo->M Bool) (e:Lo->M W) (vs:List Nat):Lo->M W:=λL=>(it L).bind λI=>(GH I.live g t e vs L I.items []).bind f
def VR (ws:List W):M W:=M.ret (.lst ws)
def jYA (ws:List W):M W:=λS=>some (.ok (.ref S.length),S++[.lst ws])
section
variable {ι:Type} (c:ι->Cx) (K:qk) (G:Str->Addr) (X:W->Rho->Hp->Prop)
def Only (ws:List Nat) (σ σ':L2.St):Prop:=σ'.length=σ.length/\∀ i,i ∉ ws->σ'[i]? = σ[i]?
structure RGt (g:TG) (ws:List Nat) (m:W->Lo->M Lo):Prop where
 run:∀ {ρ:Rho} {S:Sto} {H:Hp} {L:Lo} {σ:L2.St} {w:W} {v:V} {Q:L2.St->Hp->Prop},Rel K G ρ H S->RL K G ρ H L σ->RV K G ρ H w v->Good K G X ρ H (m w L S) (λL' _ ρ' H'=>∀ σ',RL K G ρ' H' L' σ'->Only ws σ σ'->Q σ' H')->g v σ H Q
structure v1y (g:TGs) (ws:List Nat) (m:List W->Lo->M Lo):Prop where
 run:∀ {ρ:Rho} {S:Sto} {H:Hp} {L:Lo} {σ:L2.St} {w:List W} {v:List V} {Q:L2.St->Hp->Prop},Rel K G ρ H S->RL K G ρ H L σ->RVs K G ρ H w v->Good K G X ρ H (m w L S) (λL' _ ρ' H'=>∀ σ',RL K G ρ' H' L' σ'->Only ws σ σ'->Q σ' H')->g v σ H Q
structure QG (e:Expr) (ws:List Nat) (m:W->Lo->M Lo):Prop where
 ex:∃ t,(∀ i,PG (c i) e t)/\RGt K G X t ws m
structure QGs (es:List Expr) (ws:List Nat) (m:List W->Lo->M Lo):Prop where
 ex:∃ t,(∀ i,PGs (c i) es t)/\v1y K G X t ws m
structure QS (s:Stmt) (m:Lo->M Oc):Prop where
 ex:∃ t,(∀ i,PS (c i) s t)/\RS K G X t m
structure QSs (s:List Stmt) (m:Lo->M Oc):Prop where
 ex:∃ t,(∀ i,PSs (c i) s t)/\RS K G X t m
def uIq (J:It) (I:Itm) (ρ:Rho) (H:Hp):Prop:=∀ ρ1 H1 S1,Re ρ H ρ1 H1->Rel K G ρ1 H1 S1->I.live S1->J.stop I.items.length H1 /\
 ∀ i x,I.items[i]? = some x->J.go i H1/\∀ v H2,J.yld i H1 v H2->Same H1 H2/\RV K G ρ1 H2 x v
structure RI (t:TI) (m:Lo->M Itm):Prop where
 run:∀ {ρ:Rho} {S:Sto} {H:Hp} {L:Lo} {σ:L2.St} {R:It->Hp->Prop},Rel K G ρ H S->RL K G ρ H L σ->Good K G X ρ H (m L S) (λI _ ρ' H'=>∀ J,uIq K G J I ρ' H'->R J H')->t σ H R
structure QI (tg e:Expr) (m:Lo->M Itm):Prop where
 ex:∃ t,(∀ i,PI (c i) tg e t)/\RI K G X t m
structure QTs (es:List Expr) (m:Lo->M Bool):Prop where
 ex:∃ t,(∀ i,PTs (c i) es t)/\RT K G X t m
end
section
variable {ι:Type} {c:ι->Cx} {K:qk} {G:Str->Addr} {X:W->Rho->Hp->Prop} {e a b d tg:Expr} {es:List Expr} {pos p pos':Pos} {m ma mb md:Lo->M W} {ms:Lo->M (List W)} {ka kb:Lo->M Bool} {i j l:Nat} {x y z:Str} {st:Stmt} {sts:List Stmt} {o o1 o2:Lo->M Oc} {ws us:List Nat} {g:W->Lo->M Lo} {gs:List W->Lo->M Lo}
theorem Only.refl {σ:L2.St}:Only ws σ σ:=⟨rfl,λ_ _=>rfl⟩
theorem Only.set {σ:L2.St} {v:Option V}:Only [i] σ (σ.set i v):=⟨by simp,λj h=>jm (by simpa using Ne.symm (by simpa using h))⟩
theorem Only.trans {σ τ υ:L2.St} (h:Only ws σ τ) (k:Only us τ υ):Only (ws++us) σ υ:=⟨k.1.trans h.1,λi n=>(k.2 i λz=>n (ym _ z)).trans (h.2 i λz=>n (zk _ z))⟩
theorem p5B (nd:∀ q,(c q).N.Nodup) (hi:∀ q,(c q).N[i]? = some x) (hx:∀ q,Loc (c q).env.scope x) (hf:∀ q,(c q).fn x=true \/ (c q).env.scope.names.lookup x=some .local):QG c K G X (.Name x pos) [i] (fU i):=
 ⟨_,λq=>pg_name (nd q) (hi q) (hx q) (hf q),⟨λrel rl rv g=>g.ok rel _ (rl.set rv i) .set⟩⟩
theorem y7:QGs c K G X [] [] gNo:=⟨_,λ_=>pgs_nil,⟨by
 intro ρ S H L σ w v Q rel rl rv g
 cases rv with
 | nil=>exact⟨rfl,g.ok rel _ rl .refl⟩
 | cons _ _=>exact g.elim⟩⟩
theorem RGt.cons {t:TG} {u:TGs} (h1:RGt K G X t ws g) (h2:v1y K G X u us gs):v1y K G X (gCons t u) (ws++us) (gCo g gs):=⟨by
 intro ρ S H L σ w v Q rel rl rv gd
 cases rv with
 | nil=>exact gd.elim
 | cons h r=>
  refine⟨_,_,rfl,h1.run rel rl h ((Good.bind gd).imp λL' S1 ρ1 H1 e1 r1 g1 σ1 rl1 on1=>?_)⟩
  exact h2.run r1 rl1 (r.mono e1) (g1.imp λL2 S2 ρ2 H2 e2 r2 g2 σ2 rl2 on2=>g2 σ2 rl2 (on1.trans on2))⟩
theorem AF (h1:QG c K G X e ws g) (h2:QGs c K G X es us gs) (ha:∀ q,(assignEach (e :: es) (c q).env).map (·.2)=assign e (c q).env :: (assignEach es (c q).env).map (·.2):=by exact λ_=>rfl):QGs c K G X (e :: es) (ws++us) (gCo g gs):=by
 obtain⟨t,p1,r1⟩:=h1.ex
 obtain⟨u,p2,r2⟩:=h2.ex
 exact⟨_,λq=>pgs_cons (p1 q) (p2 q) (ha q),r1.cons r2⟩
theorem d9 (h1:QG c K G X e ws g) (h2:QGs c K G X es us gs) (ha:∀ q,(assignEach (.Starred e p :: es) (c q).env).map (·.2)=assign e (c q).env :: (assignEach es (c q).env).map (·.2):=by exact λ_=>rfl):QGs c K G X (.Starred e p :: es) (ws++us) (gCo g gs):=by
 obtain⟨t,p1,r1⟩:=h1.ex
 obtain⟨u,p2,r2⟩:=h2.ex
 exact⟨_,λq=>OE (p1 q) (p2 q) (ha q),r1.cons r2⟩
theorem oR {k n:Nat} (cx:Ctx c K) (h:QGs c K G X es ws gs) (hn:∀ q,(assignEach es (c q).env).length=n:=by exact λ_=>rfl) (hst:∀ q,(assignEach es (c q).env).findIdx? (·.1)=none:=by exact λ_=>rfl):QG c K G X (.Tuple es k pos) ws (gTu n gs):=by
 obtain⟨t,p1,r1⟩:=h.ex
 refine⟨gTup K n t,λq=>Z8y (cx.calm q) (p1 q) (hn q) (hst q) (cx.kK q),⟨?_⟩⟩
 intro ρ S H L σ w v Q rel rl rv gd
 unfold gTu at gd
 split at gd
 ·split at gd
  ·rename_i hl
   cases rv with
   | tup h1 r=>exact⟨_,_,rfl,SqT.of h1,by rw[<- r.length];exact hl,r1.run rel rl r gd⟩
  ·exact gd.elim
 ·exact gd.elim
theorem qI {k n:Nat} (cx:Ctx c K) (h:QGs c K G X es ws gs) (hn:∀ q,(assignEach es (c q).env).length=n:=by exact λ_=>rfl) (hst:∀ q,(assignEach es (c q).env).findIdx? (·.1)=none:=by exact λ_=>rfl):QG c K G X (.Tuple es k pos) ws (gLs n gs):=by
 obtain⟨t,p1,r1⟩:=h.ex
 refine⟨Cp.gLst K n t,λq=>X5C (cx.calm q) (p1 q) (hn q) (hst q) (cx.kK q),⟨?_⟩⟩
 intro ρ S H L σ w v Q rel rl rv gd
 unfold gLs at gd
 split at gd
 ·rename_i xs hs
  split at gd
  ·rename_i hl
   obtain⟨p,vs,rfl,hp,r⟩:=pX rel rv hs
   exact⟨p,vs,rfl,SqL.of hp,by rw[<- r.length];exact hl,r1.run rel rl r gd⟩
  ·exact gd.elim
 ·exact gd.elim
theorem V7 {k n:Nat} (cx:Ctx c K) (h:QGs c K G X es ws gs) (hn:∀ q,(assignEach es (c q).env).length=n:=by exact λ_=>rfl) (hst:∀ q,(assignEach es (c q).env).findIdx? (·.1)=some i:=by exact λ_=>rfl) (lt:i < n:=by decide):QG c K G X (.Tuple es k pos) ws (gSt n i gs):=by
 obtain⟨t,p1,r1⟩:=h.ex
 refine⟨s3e K n i t,λq=>sGk (cx.calm q) (p1 q) (hn q) (hst q) lt (cx.kK q),⟨?_⟩⟩
 intro ρ S H L σ w v Q rel rl rv gd
 unfold gSt at gd
 split at gd
 ·rename_i xs hs
  split at gd
  ·rename_i hl
   obtain⟨p,vs,rfl,hp,r⟩:=rW rel rv hs
   rw[r.length] at hl
   refine⟨p,vs,rfl,hp.symm,hl.1,hl.2,λD hD=>?_⟩
   have s:=T5 (o:=.lst ((vs.drop i).take (vs.length+1 - n))) hD
   refine r1.run (rel.same s) (rl.mono (.same s)) ?_ (gd.at (.same s))
   rw[r.length]
   have r':=r.mono (.same (ρ:=ρ) s)
   refine((r'.take i).append (.cons (.lst upd_same (rel.new hD) ((r'.drop i).take _)) .nil)).append ((r'.drop i).drop _)
  ·exact gd.elim
 ·exact gd.elim
theorem JK {ρ:Rho} {H:Hp} {S:Sto} {o i v:W} {vo vi vv:V} {k:Unit->Sto->Rho->Hp->Prop} {Q:Hp->Prop} (rel:Rel K G ρ H S) (ro:RV K G ρ H o vo) (ri:RV K G ρ H i vi) (rv:RV K G ρ H v vv)
  (gd:Good K G X ρ H (IE o i v S) k) (hk:∀ S' H',Ext ρ H ρ H'->Rel K G ρ H' S'->k () S' ρ H'->Q H'):rSetL vo vi vv H Q:=by
 unfold IE at gd
 split at gd
 ·split at gd
  ·rename_i xs hs
   split at gd
   ·rename_i j hj
    cases ro with
    | ref e=>
     cases ri
     obtain⟨vs,h1,r⟩:=rel.ref e hs
     rw[r.length] at hj
     refine⟨_,vs,_,j,rfl,rfl,h1,hj,?_⟩
     obtain⟨ee,rr⟩:=rel.set (H1:=upd H _ (.lst (vs.set j vv))) (o:=.lst (xs.set j v)) e (λ_ ne=>upd_ne ne) λee=>⟨_,upd_same,(r.mono ee).set (rv.mono ee) j⟩
     exact hk _ _ ee rr (gd _ _ ee rr)
   ·exact gd.elim
  ·exact gd.elim
 ·exact gd.elim
theorem MZ (hb:QE c K G X a ma) (hi:QE c K G X b mb) (ha:∀ q v,assign (.Subscript a b pos) (c q).env v=(do
   let ov <- holding [v] (eval a (c q).env)
   let iv <- holding [v,ov] (eval b (c q).env)
   standAt pos
   holding [v,ov,iv] (setItem ov iv v)
   release [v,ov,iv] []):=by intro _ _;rfl):QG c K G X (.Subscript a b pos) [] (gIt ma mb):=by
 obtain⟨t,p1,r1⟩:=hb.ex
 obtain⟨u,p2,r2⟩:=hi.ex
 refine⟨_,λq=>pg_sub (p1 q) (p2 q) set_list (ha q),⟨?_⟩⟩
 intro ρ S H L σ w v Q rel rl rv gd
 refine r1.run rel rl ((Good.bind gd).imp λx S1 ρ1 H1 e1 q1 g1 vx rx=>?_)
 refine r2.run q1 (rl.mono e1) (g1.bind.imp λy S2 ρ2 H2 e2 q2 g2 vy ry=>?_)
 refine JK q2 (rx.mono e2) ry ((rv.mono e1).mono e2) g2.bind λS' H' ee rr gg=>?_
 exact gg.ok rr _ (((rl.mono e1).mono e2).mono ee) .refl
theorem YK:QSs c K G X [] dF:=⟨_,λ_=>pss_nil,⟨λrel rl g=>g.ok rel _ rl⟩⟩
theorem RS.seq {t u:TS} (h1:RS K G X t o1) (h2:RS K G X u o2):RS K G X (tSeq t u) (kO o1 o2):=⟨by
 intro ρ S H L σ D rel rl gd
 refine h1.run rel rl ((Good.bind gd).imp λo S1 ρ1 H1 e1 r1 g1=>?_)
 cases o with
 | nx L'=>exact λσ' rl'=>h2.run r1 rl' g1
 | rt w=>exact λv rv=>g1.ok r1 v rv
 | bk L'=>exact λσ' rl'=>g1.ok r1 σ' rl'
 | ct L'=>exact λσ' rl'=>g1.ok r1 σ' rl'⟩
theorem CJ (h1:QS c K G X st o1) (h2:QSs c K G X sts o2):QSs c K G X (st :: sts) (kO o1 o2):=by
 obtain⟨t,p1,r1⟩:=h1.ex
 obtain⟨u,p2,r2⟩:=h2.ex
 exact⟨_,λq=>pss_cons (p1 q) (p2 q),r1.seq r2⟩
theorem G9 (h1:QS c K G X st o1):QSs c K G X [st] o1:=by
 obtain⟨t,p1,r1⟩:=h1.ex
 exact⟨_,λq=>pss_one (p1 q),r1⟩
theorem uAW:QS c K G X (.Continue pos) M5w:=⟨_,λ_=>ps_continue,⟨λrel rl g=>g.ok rel _ rl⟩⟩
theorem L7:QS c K G X st CA:=⟨_,λ_=>ps_never,⟨λrel rl g=>g.elim⟩⟩
theorem kC (ha:QE c K G X a ma):QS c K G X (.Return (some a) pos) (iE ma):=by
 obtain⟨t,p1,r1⟩:=ha.ex
 refine⟨_,λq=>ps_ret (p1 q),⟨?_⟩⟩
 intro ρ S H L σ D rel rl gd
 exact r1.run rel rl ((Good.bind gd).imp λw S1 ρ1 H1 e1 q1 g1 v rv=>g1.ok q1 v rv)
theorem wR (ha:QE c K G X a ma) (hs:∀ q,swapsWith a none pos.line (c q).env=pure false:=by exact λ_=>rfl):QS c K G X (.Expr a pos) (fX ma):=by
 obtain⟨t,p1,r1⟩:=ha.ex
 refine⟨_,λq=>ps_expr (p1 q) (hs q),⟨?_⟩⟩
 intro ρ S H L σ D rel rl gd
 exact r1.run rel rl ((Good.bind gd).imp λw S1 ρ1 H1 e1 q1 g1 v rv=>g1.ok q1 _ (rl.mono e1))
theorem hV {bs cs:List Stmt} (hk:QT c K G X d ka) (h1:QSs c K G X bs o1) (h2:QSs c K G X cs o2):QS c K G X (.If d bs cs pos) (mIf ka o1 o2):=by
 obtain⟨t,p1,r1⟩:=hk.ex
 obtain⟨u,p2,r2⟩:=h1.ex
 obtain⟨v,p3,r3⟩:=h2.ex
 refine⟨_,λq=>ps_if (p1 q) (p2 q) (p3 q),⟨?_⟩⟩
 intro ρ S H L σ D rel rl gd
 refine r1.run rel rl ((Good.bind gd).imp λk S1 ρ1 H1 e1 q1 g1=>?_)
 cases k with
 | true=>exact r2.run q1 (rl.mono e1) g1
 | false=>exact r3.run q1 (rl.mono e1) g1
theorem RE.asg {te:TE} {t:TG} (ha:RE K G X te ma) (hg:RGt K G X t ws g):RS K G X (tAsg te t) (O0 ma g):=⟨by
 intro ρ S H L σ D rel rl gd
 refine ha.run rel rl ((Good.bind gd).imp λw S1 ρ1 H1 e1 q1 g1 v rv=>?_)
 exact hg.run q1 (rl.mono e1) rv (g1.bind.imp λL' S2 ρ2 H2 e2 q2 g2 σ2 rl2 _=>g2.ok q2 σ2 rl2)⟩
theorem eJ (ha:QE c K G X e ma) (hg:QG c K G X tg ws g) (hs:∀ q,swapsWithSole [tg] e pos.line (c q).env=pure false:=by exact λ_=>rfl) (hw:∀ q,swappedStores [tg] e (c q).env=pure none:=by exact λ_=>rfl)
  (h1:∀ q,(assignEach [tg] (c q).env).map (·.2)=[assign tg (c q).env]:=by exact λ_=>rfl):QS c K G X (.Assign [tg] e pos) (O0 ma g):=by
 obtain⟨t,p1,r1⟩:=ha.ex
 obtain⟨u,p2,r2⟩:=hg.ex
 exact⟨_,λq=>ps_asg (p1 q) (p2 q) (hs q) (hw q) (h1 q),r1.asg r2⟩
theorem RGt.name:RGt K G X (gName i) [i] (fU i):=⟨λrel rl rv g=>g.ok rel _ (rl.set rv i) .set⟩
theorem d6Y (nd:∀ q,(c q).N.Nodup) (hi:∀ q,(c q).N[i]? = some x) (hx:∀ q,Loc (c q).env.scope x) (hf:∀ q,(c q).fn x=true \/ (c q).env.scope.names.lookup x=some .local) (ha:QE c K G X e ma)
  (hs:∀ q,swapsWith e (some (.Name x pos')) pos.line (c q).env=pure false:=by exact λ_=>rfl):QS c K G X (.Assign [.Name x pos'] e pos) (O0 ma (fU i)):=by
 obtain⟨t,p1,r1⟩:=ha.ex
 exact⟨_,λq=>ps_set (nd q) (hi q) (hx q) (p1 q) (hs q) (hf q),r1.asg .name⟩
theorem D5 {px py pt:Pos} {kt k2 pt2} (cx:Ctx c K) (nd:∀ q,(c q).N.Nodup) (hi:∀ q,(c q).N[i]? = some x) (hj:∀ q,(c q).N[j]? = some y) (hij:i ≠ j) (hx:∀ q,(c q).env.scope.names.lookup x=some .local) (hy:∀ q,(c q).env.scope.names.lookup y=some .local) (ha:QA c K G X [a,b] ms)
  (hw:∀ q,swappedStores [.Tuple [.Name x px,.Name y py] kt pt] (.Tuple [a,b] k2 pt2) (c q).env=pure (some [x,y])) (hs:∀ q,swapsWithSole [.Tuple [.Name x px,.Name y py] kt pt] (.Tuple [a,b] k2 pt2) pos.line (c q).env=pure false:=by exact λ_=>rfl) :
  QS c K G X (.Assign [.Tuple [.Name x px,.Name y py] kt pt] (.Tuple [a,b] k2 pt2) pos) (IT i j ms):=by
 obtain⟨t,p1,r1⟩:=ha.ex
 refine⟨_,λq=>ps_par (cx.calm q) (nd q) (hi q) (hj q) hij (hx q) (hy q) (p1 q) (hw q) (hs q),⟨?_⟩⟩
 intro ρ S H L σ D rel rl gd
 refine r1.run rel rl ((Good.bind gd).imp λw S1 ρ1 H1 e1 q1 g1 v rv=>?_)
 match w,rv with
 | [w1,w2],.cons h1 (.cons h2 .nil)=>exact⟨_,_,rfl,g1.ok q1 _ (((rl.mono e1).set h1 i).set h2 j)⟩
 | [],_=>exact g1.elim
 | [_],_=>exact g1.elim
 | _ :: _ :: _ :: _,_=>exact g1.elim
theorem W0 {ρ:Rho} {H:Hp} {f:Str} {w:W} {v:V} (h:RV K G ρ H w v):∀ {fs:List (Str × W)} {vs:List (Str × V)},RKs K G ρ H fs vs->RKs K G ρ H (MF f w fs) (putF f v vs)
 | _,_,.nil=>.cons ⟨rfl,h⟩ .nil
 | _,_,.cons (a:=p) (b:=q) hd t=>by
  obtain⟨k,x⟩:=p
  obtain⟨k',y⟩:=q
  obtain⟨e,r⟩:=hd
  simp only at e r
  subst e
  unfold MF putF
  split
  ·exact .cons ⟨rfl,h⟩ t
  ·exact .cons ⟨rfl,r⟩ (W0 h t)
theorem Y6 {f:Str} {w:W} {p:Str × W}:∀ {fs:List (Str × W)},p ∈ MF f w fs->p.1=f \/ ∃ q ∈ fs,q.1=p.1
 | [],h=>by
  simp only[MF,qp] at h
  exact .inl (by rw[h])
 | (g,x) :: r,h=>by
  unfold MF at h
  split at h
  ·rcases qo.mp h with h|h
   ·exact .inr ⟨_,qw,by rw[h]⟩
   ·exact .inr ⟨p,qy _ h,rfl⟩
  ·rcases qo.mp h with h|h
   ·exact .inr ⟨_,qw,by rw[h]⟩
   ·rcases Y6 h with h|⟨q,h1,h2⟩
    ·exact .inl h
    ·exact .inr ⟨q,qy _ h1,h2⟩
theorem eA {cs:List Str} {f:Str} (cx:Ctx c K) (hn:∀ n ∈ cs,NoAttr K (G n) f) (ho:QE c K G X a ma) (hv:QE c K G X b mb) (hs:∀ q,swapsWith b (some (.Attribute a f pos')) pos.line (c q).env=pure false:=by exact λ_=>rfl):QS c K G X (.Assign [.Attribute a f pos'] b pos) (mB cs f ma mb):=by
 obtain⟨t,p1,r1⟩:=ho.ex
 obtain⟨u,p2,r2⟩:=hv.ex
 refine⟨sFld K t u f,λq=>?_,⟨?_⟩⟩
 ·have:=ps_fld (p1 q) (p2 q) (hs q)
  rw[cx.kK q] at this
  exact this
 ·intro ρ S H L σ D rel rl gd
  refine r2.run rel rl ((Good.bind gd).imp λy S1 ρ1 H1 e1 q1 g1 vy ry=>?_)
  refine r1.run q1 (rl.mono e1) (g1.bind.imp λx S2 ρ2 H2 e2 q2 g2 vx rx=>?_)
  have g3:=g2.bind
  unfold LG at g3
  split at g3
  ·split at g3
   ·rename_i n fs hs
    split at g3
    ·rename_i hl
     cases rx with
     | ref e=>
      obtain⟨dx,vs,h1,cl,nf,r⟩:=q2.ref e hs
      refine⟨_,_,dx,vs,rfl,h1,cl,hn _ hl.1,by rw[<- RKs.length r];exact hl.2,?_⟩
      obtain⟨ee,rr⟩:=q2.set (H1:=upd H2 _ (.ins _ dx (putF f vy vs))) (o:=.ins n (MF f y fs)) e (λ_ ne=>upd_ne ne) λee=>⟨dx,_,upd_same,cl,λp hp=>by
       rcases Y6 hp with h|⟨q,h2,h3⟩
       ·rw[h];exact hn _ hl.1
       ·rw[<- h3];exact nf q h2,W0 ((ry.mono e2).mono ee) (r.mono ee)⟩
      exact(g3 _ _ ee rr).ok rr _ (((rl.mono e1).mono e2).mono ee)
    ·exact g3.elim
   ·exact g3.elim
  ·exact g3.elim
theorem iW (cx:Ctx c K) (ho:QE c K G X a ma) (hi:QE c K G X b mb) (hv:QE c K G X d md) (hs:∀ q,swapsWith d (some (.Subscript a b pos')) pos.line (c q).env=pure false:=by exact λ_=>rfl):QS c K G X (.Assign [.Subscript a b pos'] d pos) (cA ma mb md):=by
 obtain⟨t,p1,r1⟩:=ho.ex
 obtain⟨u,p2,r2⟩:=hi.ex
 obtain⟨v,p3,r3⟩:=hv.ex
 refine⟨sDPut t u v,λq=>ps_dput (by have:=cx.un q;omega) (p1 q) (p2 q) (p3 q) (hs q),⟨?_⟩⟩
 intro ρ S H L σ D rel rl gd
 refine r3.run rel rl ((Good.bind gd).imp λz S1 ρ1 H1 e1 q1 g1 vz rz=>?_)
 refine r1.run q1 (rl.mono e1) (g1.bind.imp λx S2 ρ2 H2 e2 q2 g2 vx rx=>?_)
 refine r2.run q2 ((rl.mono e1).mono e2) (g2.bind.imp λy S3 ρ3 H3 e3 q3 g3 vy ry=>?_)
 have g4:=g3.bind
 have rx:=rx.mono e3
 have rz:=(rz.mono e2).mono e3
 have rl:=((rl.mono e1).mono e2).mono e3
 unfold yI at g4
 split at g4
 ·cases rx with
  | ref e=>
   split at g4
   ·rename_i kvs hs
    split at g4
    ·rename_i k hk
     split at g4
     ·rename_i hl
      obtain⟨vs,h1,r⟩:=q3.ref e hs
      refine⟨_,_,rfl,.inl ⟨vs,k,h1,HV ry hk,jz (by rw[<- RKs.length r];exact hl) (by decide:lim<=sizeLine),rfl⟩,?_⟩
      obtain⟨ee,rr⟩:=q3.set (o:=.dk (pK kvs k z)) e (λ_ ne=>upd_ne ne) λee=>⟨_,upd_same,oM (r.mono ee) (rz.mono ee)⟩
      exact(g4 _ _ ee rr).ok rr _ (rl.mono ee)
     ·exact g4.elim
    ·exact g4.elim
   ·rename_i kvs hs
    split at g4
    ·rename_i k hk
     split at g4
     ·rename_i hl
      obtain⟨vs,h1,r⟩:=q3.ref e hs
      obtain⟨b,e5,e6⟩:=jL ry hk
      refine⟨_,_,rfl,.inr ⟨vs,k,b,h1,e5,e6,jz (by rw[<- RKs.length r];exact hl) (by decide:lim<=sizeLine),rfl⟩,?_⟩
      obtain⟨ee,rr⟩:=q3.set (o:=.dt (pK kvs k z)) e (λ_ ne=>upd_ne ne) λee=>⟨_,upd_same,oM (r.mono ee) (rz.mono ee)⟩
      exact(g4 _ _ ee rr).ok rr _ (rl.mono ee)
     ·exact g4.elim
    ·exact g4.elim
   ·exact g4.elim
 ·exact g4.elim
end
end
end Mi
namespace Mi
open PySem PySem.Spec
open PyProof.Rows L2 Cp
noncomputable section
section
variable {ι:Type} {c:ι->Cx} {K:qk} {G:Str->Addr} {X:W->Rho->Hp->Prop} {e a b d tg:Expr} {es:List Expr} {pos p pos':Pos} {m ma mb md:Lo->M W} {ms:Lo->M (List W)} {ka kb:Lo->M Bool} {i j l:Nat} {x y z:Str} {st:Stmt} {sts:List Stmt} {o o1 o2:Lo->M Oc} {ws us:List Nat} {g:W->Lo->M Lo} {gs:List W->Lo->M Lo} {it it1:Lo->M Itm}
theorem WP {ρ:Rho} {H:Hp} {S:Sto} {P:Sto->Prop} {k:Unit->Sto->Rho->Hp->Prop} (gd:Good K G X ρ H (JL P S) k):P S/\Good K G X ρ H (some (.ok (),S)) k:=by
 unfold JL at gd
 split at gd
 ·rename_i h
  exact⟨h,gd⟩
 ·exact gd.elim
theorem RI.for_ {wi:TI} {t:TG} {tb:TS} (hi:RI K G X wi it) (hg:RGt K G X t ws g) (hb:RS K G X tb o):RS K G X (tFor wi t tb) (GN it g o):=⟨by
 intro ρ S H L σ D rel rl gd
 refine hi.run rel rl ((Good.bind gd).imp λI S1 ρ1 H1 e1 r1 g1 J hJ=>?_)
 refine⟨λi m σ1 Hc=>m=I.items.length - i/\i<=I.items.length/\∃ ρc Sc Lc,Ext ρ1 H1 ρc Hc/\Rel K G ρc Hc Sc/\RL K G ρc Hc Lc σ1/\Good K G X ρc Hc (Y2 I.live g o (I.items.drop i) Lc Sc) (nD K G D),⟨I.items.length,by simp,jf _,ρ1,S1,L,.refl,r1,rl.mono e1,g1⟩,?_⟩
 rintro i m σ1 Hc ⟨rfl,hi',ρc,Sc,Lc,ec,rc,rlc,gc⟩
 rcases yb hi' with lt|rfl
 ·obtain⟨x,hx⟩:∃ x,I.items[i]? = some x:=⟨I.items[i],qz lt⟩
  rw[zi lt] at gc
  have ex:I.items[i]=x:=by
   rw[qz lt] at hx
   exact Option.some.inj hx
  rw[ex] at gc
  obtain⟨lv,g2⟩:=WP (Good.bind gc)
  obtain⟨_,hit⟩:=hJ ρc Hc Sc ec.re rc lv
  obtain⟨go,yl⟩:=hit i x hx
  have g3:=(g2.ok rc)
  refine .inr ⟨go,λσ2 H2=>∃ ρ2 S2 L2,Ext ρ1 H1 ρ2 H2/\Rel K G ρ2 H2 S2/\RL K G ρ2 H2 L2 σ2/\Good K G X ρ2 H2 (Y2 I.live g o (I.items.drop (i+1)) L2 S2) (nD K G D),λσ2 H2 q=>⟨I.items.length - (i+1),by omega,rfl,lt,q⟩,λv H2 yv=>?_⟩
  obtain⟨sm,rv⟩:=yl v H2 yv
  refine hg.run (rc.same sm) (rlc.mono (.same sm)) rv ((Good.bind (g3.at (.same sm))).imp λL' S3 ρ3 H3 e3 r3 g4 σ3 rl3 _=>?_)
  refine hb.run r3 rl3 ((Good.bind g4).imp λoc S4 ρ4 H4 e4 r4 g5=>?_)
  have e14:=((ec.trans (.same sm)).trans e3).trans e4
  cases oc with
  | nx L4=>exact λσ4 rl4=>⟨ρ4,S4,L4,e14,r4,rl4,g5⟩
  | ct L4=>exact λσ4 rl4=>⟨ρ4,S4,L4,e14,r4,rl4,g5⟩
  | bk L4=>exact λσ4 rl4=>g5.ok r4 σ4 rl4
  | rt w=>exact λv rv=>g5.ok r4 v rv
 ·rw[yi] at gc
  obtain⟨lv,g2⟩:=WP (Good.bind gc)
  exact .inl ⟨(hJ ρc Hc Sc ec.re rc lv).1,(g2.ok rc).ok rc σ1 rlc⟩⟩
theorem lQ {body:List Stmt} (cx:Ctx c K) (hp:∀ q,PassesOwn (model (c q).prog (c q).w) (c q).A (c q).env (c q).xe) (hi:QI c K G X tg e it) (hg:QG c K G X tg ws g) (hb:QSs c K G X body o)
  (h:∀ (q:ι) wi t tb,PI (c q) tg e wi->PG (c q) tg t->PSs (c q) body tb->PS (c q) (.For tg e body [] pos) (tFor wi t tb)):QS c K G X (.For tg e body [] pos) (GN it g o):=by
 obtain⟨wi,p1,r1⟩:=hi.ex
 obtain⟨t,p2,r2⟩:=hg.ex
 obtain⟨tb,p3,r3⟩:=hb.ex
 exact⟨_,λq=>h q _ _ _ (p1 q) (p2 q) (p3 q),r1.for_ r2 r3⟩
theorem VX {α β:Type} {m:M α} {f h:α->M β} {S:Sto} {r:Res β × Sto} (up:∀ a S r,f a S=some r->h a S=some r) (e:M.bind m f S=some r):M.bind m h S=some r:=by
 unfold M.bind at e ⊢
 cases q:m S with
 | none=>rw[q] at e;cases e
 | some p=>
  obtain⟨p,S1⟩:=p
  rw[q] at e
  cases p with
  | er w=>exact e
  | ok a=>exact up a S1 r e
theorem cP {k:Lo->M Bool} {b:Lo->M Oc}:∀ {n m:Nat} {L:Lo} {S:Sto} {r:Res Oc × Sto},n<=m->C0 k b n L S=some r->C0 k b m L S=some r
 | 0,_,_,_,_,_,h=>by cases h
 | n+1,0,_,_,_,le,_=>absurd le qh
 | n+1,m+1,L,S,r,le,h=>by
  refine VX (λq S1 r1 h1=>?_) h
  cases q with
  | false=>exact h1
  | true=>
   refine VX (f:=AU (C0 k b n)) (h:=AU (C0 k b m)) (λoc S2 r2 h2=>?_) h1
   cases oc with
   | nx L'=>exact cP qh h2
   | ct L'=>exact cP qh h2
   | bk L'=>exact h2
   | rt w=>exact h2
theorem vB {k:Lo->M Bool} {b:Lo->M Oc} {n:Nat} {L:Lo} {S:Sto} {r:Res Oc × Sto} (h:C0 k b n L S=some r):eE k b L S=some r:=by
 unfold eE
 have ex:∃ n,C0 k b n L S ≠ none:=⟨n,by rw[h];simp⟩
 rw[dif_pos ex]
 obtain⟨r2,h2⟩:=Option.ne_none_iff_exists'.mp (Classical.choose_spec ex)
 rw[h2]
 have h3:=cP (Nat.le_max_left n (Classical.choose ex)) h
 have h4:=cP (Nat.le_max_right n (Classical.choose ex)) h2
 rw[h3] at h4
 exact h4.symm
theorem vR {k:Lo->M Bool} {b:Lo->M Oc} {L:Lo} {S:Sto} {r:Res Oc × Sto} (h:eE k b L S=some r):∃ n,C0 k b n L S=some r:=by
 unfold eE at h
 split at h
 ·exact⟨_,h⟩
 ·cases h
theorem pP {body:List Stmt} (hk:QT c K G X d ka) (hb:QSs c K G X body o)
  (h:∀ (q:ι) t tb,PT (c q) d t->PSs (c q) body tb->PS (c q) (.While d body [] pos) (tWhile t tb)):QS c K G X (.While d body [] pos) (eE ka o):=by
 obtain⟨t,p1,r1⟩:=hk.ex
 obtain⟨tb,p2,r2⟩:=hb.ex
 refine⟨_,λq=>h q _ _ (p1 q) (p2 q),⟨?_⟩⟩
 intro ρ S H L σ D rel rl gd
 obtain⟨n,hn⟩:∃ n,Good K G X ρ H (C0 ka o n L S) (nD K G D):=by
  cases e:eE ka o L S with
  | none=>rw[e] at gd;exact gd.elim
  | some r=>
   obtain⟨n,hn⟩:=vR e
   exact⟨n,by rw[hn];rw[e] at gd;exact gd⟩
 refine⟨λm σ1 H1=>∃ ρ1 S1 L1,Rel K G ρ1 H1 S1/\RL K G ρ1 H1 L1 σ1/\Good K G X ρ1 H1 (C0 ka o m L1 S1) (nD K G D),⟨n,ρ,S,L,rel,rl,hn⟩,?_⟩
 rintro m σ1 H1 ⟨ρ1,S1,L1,q1,rl1,g1⟩
 cases m with
 | zero=>exact g1.elim
 | succ m=>
  refine r1.run q1 rl1 ((Good.bind g1).imp λk S2 ρ2 H2 e2 q2 g2=>?_)
  cases k with
  | false=>exact(g2.ok q2) σ1 (rl1.mono e2)
  | true=>
   refine⟨λσ3 H3=>∃ ρ3 S3 L3,Rel K G ρ3 H3 S3/\RL K G ρ3 H3 L3 σ3/\Good K G X ρ3 H3 (C0 ka o m L3 S3) (nD K G D),λσ3 H3 q=>⟨m,Nat.lt_succ_self _,q⟩,?_⟩
   refine r2.run q2 (rl1.mono e2) ((Good.bind g2).imp λoc S4 ρ4 H4 e4 r4 g5=>?_)
   cases oc with
   | nx L4=>exact λσ4 rl4=>⟨ρ4,S4,L4,r4,rl4,g5⟩
   | ct L4=>exact λσ4 rl4=>⟨ρ4,S4,L4,r4,rl4,g5⟩
   | bk L4=>exact λσ4 rl4=>g5.ok r4 σ4 rl4
   | rt w=>exact λv rv=>g5.ok r4 v rv
theorem VO {σ:L2.St} {i:Nat}:∀ {vs:List Nat},i ∈ vs->(wipe σ vs)[i]? = if i < σ.length then some none else none
 | [],h=>by simp at h
 | v :: vs,h=>by
  unfold wipe
  by_cases hv:v=i
  ·subst hv
   by_cases hl:v < σ.length
   ·rw[jj (by rw[wipe_length];exact hl),if_pos hl]
   ·rw[Qe (by rw[jq,wipe_length];omega),if_neg hl]
  ·rw[jm hv]
   exact VO ((qo.mp h).resolve_left (Ne.symm hv))
theorem T9 {σ τ:L2.St} {vs:List Nat} (h:Only ws σ τ) (sub:∀ i ∈ ws,i ∈ vs):wipe τ vs=wipe σ vs:=by
 apply List.ext_getElem?
 intro i
 by_cases hi:i ∈ vs
 ·rw[VO hi,VO hi,h.1]
 ·rw[wipe_out hi,wipe_out hi]
  exact h.2 i λz=>hi (sub i z)
theorem xT {σ:L2.St} {vs:List Nat}:wipe (wipe σ vs) vs=wipe σ vs:=by
 apply List.ext_getElem?
 intro i
 by_cases hi:i ∈ vs
 ·rw[VO hi,VO hi,wipe_length]
 ·rw[wipe_out hi]
theorem RL.wipe {ρ:Rho} {H:Hp} {L:Lo} {σ:L2.St} (r:RL K G ρ H L σ):∀ vs:List Nat,RL K G ρ H (YW L vs) (wipe σ vs)
 | []=>r
 | v :: vs=>by
  have ih:=RL.wipe r vs
  unfold YW L2.wipe
  refine⟨by simp [ih.1],λj w h=>?_⟩
  by_cases hj:j=v
  ·subst hj
   by_cases hl:j < (YW L vs).length
   ·rw[jj hl] at h
    cases h
   ·rw[Qe (by simpa using hl)] at h
    cases h
  ·rw[jm (Ne.symm hj)] at h ⊢
   exact ih.2 j w h
def y5 (K:qk) (G:Str->Addr) (f:List W->M W):Prop:=∀ {X:W->Rho->Hp->Prop} {ρ ρ1:Rho} {H H1:Hp} {S S1:Sto} {D:Addr} {ws:List W} {vs:List V} {Q:VK},Rel K G ρ H S->H D=none->Way K G ρ H D ρ1 H1 S1->H1 D=some (.lst vs)->RVs K G ρ1 H1 ws vs->Good K G X ρ H (f ws S1) (KL K G Q)->Q (.ref D) H1
theorem qL:y5 K G VR:=by
 intro X ρ ρ1 H H1 S S1 D ws vs Q rel hD w h r gd
 obtain⟨e4,r4,o4,re4⟩:=w.value rel hD
 exact gd _ _ e4 r4 _ (.lst h o4 (r.re re4))
theorem YZS:y5 K G jYA:=by
 intro X ρ ρ1 H H1 S S1 D ws vs Q rel hD w h r gd
 obtain⟨e4,r4,p4⟩:=w.place rel hD (o:=.lst ws) λre=>⟨vs,h,r.re re⟩
 exact gd _ _ e4 r4 _ (.ref p4)
theorem RI.lc {f:List W->M W} {wi:TI} {t:TG} {tt:TT} {te:TE} {vs:List Nat} (fin:y5 K G f) (hi:RI K G X wi it) (hg:RGt K G X t ws g) (ht:RT K G X tt ka) (he:RE K G X te ma) (sub:∀ i ∈ ws,i ∈ vs):RE K G X (tLc wi t tt te vs) (wK f it g ka ma vs):=⟨by
 intro ρ S H L σ Q rel rl gd
 refine hi.run rel rl ((Good.bind gd).imp λI S1 ρ1 H1 e1 r1 g1 J hJ=>?_)
 intro D hD
 have sD:=T5 (o:=.lst []) hD
 refine⟨λi m Hc=>m=I.items.length - i/\i<=I.items.length/\∃ ρc Sc acc vacc,Way K G ρ1 H1 D ρc Hc Sc/\Hc D=some (.lst vacc)/\RVs K G ρc Hc acc vacc/\Good K G X ρ1 H1 (M.bind (GH I.live g ka ma vs L (I.items.drop i) acc) f Sc) (KL K G Q),⟨I.items.length,by simp,jf _,_,S1,[],[],.start r1 sD hD (by rw[upd_same];simp),upd_same,.nil,g1⟩,?_⟩
 rintro i m Hc ⟨rfl,hi',ρc,Sc,acc,vacc,w,hd,racc,gc⟩
 rcases yb hi' with lt|rfl
 ·obtain⟨x,hx⟩:∃ x,I.items[i]? = some x:=⟨I.items[i],qz lt⟩
  have ex:I.items[i]=x:=by
   rw[qz lt] at hx
   exact Option.some.inj hx
  rw[zi lt,ex] at gc
  have assoc:∀ {α β γ:Type} (m:M α) (f:α->M β) (h:β->M γ) (S:Sto),M.bind (M.bind m f) h S=M.bind m (λa=>M.bind (f a) h) S:=by
   intro α β γ m f h S
   unfold M.bind
   cases m S with
   | none=>rfl
   | some p=>obtain⟨p,S'⟩:=p;cases p <;> rfl
  unfold GH at gc
  rw[assoc] at gc
  obtain⟨lv,g2⟩:=WP (Good.bindB gc w.ext)
  obtain⟨_,hit⟩:=hJ ρc Hc Sc w.ext.re w.rel lv
  obtain⟨go,yl⟩:=hit i x hx
  have g3:=g2.ok w.rel
  rw[assoc] at g3
  refine .inr ⟨go,λH2=>∃ ρc Sc acc vacc,Way K G ρ1 H1 D ρc H2 Sc/\H2 D=some (.lst vacc)/\RVs K G ρc H2 acc vacc/\Good K G X ρ1 H1 (M.bind (GH I.live g ka ma vs L (I.items.drop (i+1)) acc) f Sc) (KL K G Q),λH2 q=>⟨I.items.length - (i+1),by omega,rfl,lt,q⟩,λv H2 yv=>?_⟩
  obtain⟨sm,rv⟩:=yl v H2 yv
  have w2:=w.go (.same sm) (w.rel.same sm) (by rw[hd];simp)
  have hd2:=sm _ _ hd
  have racc2:=racc.mono (.same sm)
  have rl2:RL K G ρc H2 (YW L vs) (wipe σ vs):=((rl.mono e1).mono w2.ext).wipe vs
  refine hg.run w2.rel rl2 rv ((Good.bindB g3 w2.ext).imp λL' S3 ρ3 H3 e3 r3 g4 σ3 rl3 on3=>?_)
  have w3:=w2.go e3 r3 (by rw[hd2];simp)
  have hd3:=w2.keep e3 hd2
  have racc3:=racc2.mono e3
  refine⟨(T9 on3 sub).trans xT,ht.run w3.rel rl3 ?_⟩
  rw[assoc] at g4
  refine(Good.bindB g4 w3.ext).imp λk S4 ρ4 H4 e4 r4 g5=>?_
  have w4:=w3.go e4 r4 (by rw[hd3];simp)
  have hd4:=w3.keep e4 hd3
  have racc4:=racc3.mono e4
  cases k with
  | false=>exact⟨ρ4,S4,acc,vacc,w4,hd4,racc4,g5⟩
  | true=>
   simp only[if_true] at g5 ⊢
   rw[assoc] at g5
   refine he.run w4.rel (rl3.mono e4) ((Good.bindB g5 w4.ext).imp λy S5 ρ5 H5 e5 r5 g6 vy ry=>?_)
   have w5:=w4.go e5 r5 (by rw[hd4];simp)
   have hd5:=w4.keep e5 hd4
   have racc5:=racc4.mono e5
   split at g6
   ·rename_i hl
    have b6:But D H5 (upd H5 D (.lst (vacc++[vy]))):=λ_ ne=>upd_ne ne
    have re6:Re ρ5 H5 ρ5 (upd H5 D (.lst (vacc++[vy]))):=.but b6 w5.b (by rw[hd5];simp) (by rw[hd5];simp)
    exact⟨vacc,hd5,jz (by rw[<- racc5.length];exact hl) (by decide:lim<=sizeLine),ρ5,S5,acc++[y],vacc++[vy],w5.set b6 hD (by rw[hd5];simp) (by rw[upd_same];simp),upd_same,(racc5.re re6).append (.cons (ry.re re6) .nil),g6⟩
   ·exact g6.elim
 ·rw[yi] at gc
  have assoc:∀ {α β γ:Type} (m:M α) (f:α->M β) (h:β->M γ) (S:Sto),M.bind (M.bind m f) h S=M.bind m (λa=>M.bind (f a) h) S:=by
   intro α β γ m f h S
   unfold M.bind
   cases m S with
   | none=>rfl
   | some p=>obtain⟨p,S'⟩:=p;cases p <;> rfl
  unfold GH at gc
  rw[assoc] at gc
  obtain⟨lv,g2⟩:=WP (Good.bindB gc w.ext)
  exact .inl ⟨(hJ ρc Hc Sc w.ext.re w.rel lv).1,fin r1 hD w hd racc (g2.ok w.rel)⟩⟩
abbrev Blk (ι:Type):=ι × Shared × Hp × Addr × List (Str × Addr) × List Addr
abbrev blk (c:ι->Cx) (scope:Scope):Blk ι->Cx:=λq=>(c q.1).blk q.2.1 q.2.2.1 scope (compEnvC scope q.2.2.2.2.1 q.2.2.2.1 (c q.1).env) q.2.2.2.2.2
theorem Ctx.blk {scope:Scope} (cx:Ctx c K):Ctx (blk c scope) K:=⟨λq=>cx.kK q.1,λq=>cx.calm q.1,λq=>cx.un q.1⟩
theorem fE:QTs c K G X [] dJ:=⟨_,λ_=>pts_nil,⟨λrel rl g=>g.ok rel⟩⟩
theorem WH (h:QT c K G X d ka):QTs c K G X [d] ka:=by
 obtain⟨t,p1,r1⟩:=h.ex
 exact⟨_,λq=>pts_one (p1 q),r1⟩
theorem KB {f:List W->M W} {iter elt:Expr} {ifs:List Expr} {scope:Scope} {own:List (Str × Nat)} (fin:y5 K G f) (cx:Ctx c K) (nd:∀ q,(c q).N.Nodup) (hi:QI c K G X tg iter it) (ok:∀ q,BlkOk (c q).N (c q).env.scope scope own)
  (hg:QG (blk c scope) K G X tg ws g) (ht:QTs (blk c scope) K G X ifs ka) (he:QE (blk c scope) K G X elt ma) (sub:∀ i ∈ ws,i ∈ own.map (·.2)) (hs:∀ q x,foldedSetIterable iter (c q).env x=pure x:=by exact λ_ _=>rfl) :
  QE c K G X (.ListComp elt [⟨tg,iter,ifs,0⟩] scope pos) (wK f it g ka ma (own.map (·.2))):=by
 obtain⟨wi,p1,r1⟩:=hi.ex
 obtain⟨t,p2,r2⟩:=hg.ex
 obtain⟨tt,p3,r3⟩:=ht.ex
 obtain⟨te,p4,r4⟩:=he.ex
 exact⟨_,λq=>pe_lc (cx.calm q) (nd q) (p1 q) (ok q) (λs H C cl fp=>p2 (q,s,H,C,cl,fp)) (λs H C cl fp=>p3 (q,s,H,C,cl,fp)) (λs H C cl fp=>p4 (q,s,H,C,cl,fp)) (hs q),r1.lc fin r2 r3 r4 sub⟩
theorem bG {f:List W->M W} {iter elt:Expr} {ifs:List Expr} {scope:Scope} {own:List (Str × Nat)} {py spos:Pos} (fin:y5 K G f) (cx:Ctx c K) (nd:∀ q,(c q).N.Nodup) (hy:∀ q,(c q).N[i]? = some y) (hyl:∀ q,(c q).env.scope.names.lookup y=some .local)
  (hsw:∀ q,swapsWith (.ListComp elt [⟨tg,iter,ifs,0⟩] scope pos) (some (.Name y py)) spos.line (c q).env=pure true) (hi:QI c K G X tg iter it) (ok:∀ q,BlkOk (c q).N (c q).env.scope scope own)
  (hg:QG (blk c scope) K G X tg ws g) (ht:QTs (blk c scope) K G X ifs ka) (he:QE (blk c scope) K G X elt ma) (sub:∀ i ∈ ws,i ∈ own.map (·.2)) (hs:∀ q x,foldedSetIterable iter (c q).env x=pure x:=by exact λ_ _=>rfl) :
  QS c K G X (.Assign [.Name y py] (.ListComp elt [⟨tg,iter,ifs,0⟩] scope pos) spos) (O0 (wK f it g ka ma (own.map (·.2))) (fU i)):=by
 obtain⟨wi,p1,r1⟩:=hi.ex
 obtain⟨t,p2,r2⟩:=hg.ex
 obtain⟨tt,p3,r3⟩:=ht.ex
 obtain⟨te,p4,r4⟩:=he.ex
 exact⟨_,λq=>ps_setLc (cx.calm q) (nd q) (hy q) (hyl q) (hsw q) (p1 q) (ok q) (λs H C cl fp=>p2 (q,s,H,C,cl,fp)) (λs H C cl fp=>p3 (q,s,H,C,cl,fp)) (λs H C cl fp=>p4 (q,s,H,C,cl,fp)) (hs q),(r1.lc fin r2 r3 r4 sub).asg .name⟩
theorem GAd {ρ:Rho} {H:Hp} {w:W} {v:V} {xs:List W} {P:Sto->Prop} (r:RV K G ρ H w v) (hp:∃ p vs,v = .ref p/\SqL K H p vs/\RVs K G ρ H xs vs)
  (hP:∀ S,P S->fA S w=some xs):∃ p,v = .ref p/\(∃ vs,SqL K H p vs)/\uIq K G (Itl K p) ⟨xs,P⟩ ρ H:=by
 obtain⟨p,vs,rfl,hq,_⟩:=hp
 refine⟨p,rfl,⟨vs,hq⟩,λρ1 H1 S1 e1 r1 lv=>?_⟩
 obtain⟨p',vs',e,h1,rv⟩:=pX r1 (r.re e1) (hP _ lv)
 cases e
 refine⟨⟨vs',SqL.of h1,by rw[<- rv.length];exact jg _⟩,λi x hx=>?_⟩
 obtain⟨u,hu,ru⟩:=rv.get hx
 refine⟨⟨vs',u,SqL.of h1,hu⟩,?_⟩
 rintro v H2 ⟨rfl,yl⟩
 have:=yl vs' (SqL.of h1)
 rw[hu] at this
 cases this
 exact⟨Same.refl _,ru⟩
theorem p7h {ρ:Rho} {H:Hp} {w:W} {v:V} {xs:List W} {P:Sto->Prop} (r:RV K G ρ H w v) (h:w = .tup xs \/ w = .kt xs):∃ p,v = .ref p/\(∃ vs,SqT K H p vs)/\uIq K G (Itt K p) ⟨xs,P⟩ ρ H:=by
 have fact:∀ {ρ1:Rho} {H1:Hp},RV K G ρ1 H1 w v->∃ p vs,v = .ref p/\SqT K H1 p vs/\RVs K G ρ1 H1 xs vs:=by
  clear r
  intro ρ1 H1 r
  rcases h with rfl|rfl
  ·cases r with
   | tup h1 r2=>exact⟨_,_,rfl,SqT.of h1,r2⟩
  ·cases r with
   | kt h1 r2=>exact⟨_,_,rfl,PV h1,r2⟩
 obtain⟨p,vs,rfl,hq,_⟩:=fact r
 refine⟨p,rfl,⟨vs,hq⟩,λρ1 H1 S1 e1 r1 lv=>?_⟩
 obtain⟨p',vs',e,h1,rv⟩:=fact (r.re e1)
 cases e
 refine⟨⟨vs',h1,by rw[<- rv.length];exact jg _⟩,λi x hx=>?_⟩
 obtain⟨u,hu,ru⟩:=rv.get hx
 refine⟨⟨vs',u,h1,hu⟩,?_⟩
 rintro v H2 ⟨rfl,yl⟩
 have:=yl vs' h1
 rw[hu] at this
 cases this
 exact⟨Same.refl _,ru⟩
def yYw (K:qk) (tl:TE):TI:=λσ H R=>tl σ H λx H1=>∃ a,x = .ref a/\(((∃ xs,SqL K H1 a xs)/\R (Itl K a) H1) \/ ((∃ xs,SqT K H1 a xs)/\R (Itt K a) H1))
theorem nJ {Y:Cx} {pins:List (Addr × Obj)} {σ:L2.St} {H:Hp} {s:Shared} {R:It->Hp->Prop} {a:Addr} {xs:List V} (I:Inv Y pins σ H s) (h:SqL Y.K H a xs) (q:R (Itl Y.K a) H):wpAny (model Y.prog Y.w) Y.A (pyIter (.ref a)) (PIE Y pins σ tg R) Y.xe s:=by
 obtain⟨its,rv,pl,_⟩:=I.list h
 apply wpAny_pyIter_list pl.isList
 have fresh:=I.hok.fresh (jg s.heap.objs.size)
 exact⟨_,[s.heap.objs.size],_,_,H,rfl,I.kept (t':=s.toks) (λb o e=>Heap.get?_push_of_some _ e),turn_list a _,⟨_,Heap.get?_push_size _ rfl,rfl,rfl⟩,(by rintro b hb;rw[qp.mp hb];exact I.fpOk (jg _) fresh),q⟩
theorem ZJ {Y:Cx} {pins:List (Addr × Obj)} {σ:L2.St} {H:Hp} {s:Shared} {R:It->Hp->Prop} {a:Addr} {xs:List V} (I:Inv Y pins σ H s) (h:SqT Y.K H a xs) (q:R (Itt Y.K a) H):wpAny (model Y.prog Y.w) Y.A (pyIter (.ref a)) (PIE Y pins σ tg R) Y.xe s:=by
 obtain⟨its,rv,pl,_⟩:=I.tuple h
 have isT:s.heap.IsTuple a its.toArray:=pl
 apply wpAny_pyIter_tuple isT
 have fresh:=I.hok.fresh (jg s.heap.objs.size)
 exact⟨_,[s.heap.objs.size],_,_,H,rfl,I.kept (t':=s.toks) (λb o e=>Heap.get?_push_of_some _ e),turn_tuple a _,⟨_,Heap.get?_push_size _ rfl,rfl,rfl⟩,(by rintro b hb;rw[qp.mp hb];exact I.fpOk (jg _) fresh),q⟩
theorem P57 {Y:Cx} {l:Expr} {tl:TE} (hl:PE Y l tl):PI Y tg l (yYw Y.K tl):=by
 constructor
 intro pins s σ H R I h
 refine thn (hl.run pins s σ H _ I h) ?_
 rintro v s1 ⟨x,H1,I1,rx,a,rfl,⟨⟨xs,hx⟩,q⟩|⟨⟨xs,hx⟩,q⟩⟩
 ·obtain rfl:v = .ref a:=rx
  exact nJ I1 hx q
 ·obtain rfl:v = .ref a:=rx
  exact ZJ I1 hx q
theorem n8 (cx:Ctx c K) (ha:QE c K G X a ma):QI c K G X tg a (pD ma):=by
 obtain⟨t,p1,r1⟩:=ha.ex
 refine⟨yYw K t,λq=>cx.kK q ▸ P57 (p1 q),⟨?_⟩⟩
 intro ρ S H L σ R rel rl gd
 refine r1.run rel rl ((Good.bind gd).imp λw S1 ρ1 H1 e1 q1 g1 v rv=>?_)
 split at g1
 ·rename_i xs hs
  have g2:=g1.ok q1
  have lst:fA S1 w=some xs->(∀ S,yG S w=some xs->fA S w=some xs)->∃ a,v = .ref a/\(((∃ vs,SqL K H1 a vs)/\R (Itl K a) H1) \/ ((∃ vs,SqT K H1 a vs)/\R (Itt K a) H1)):=λhl hP=>by
   obtain⟨p,vs,e,h1,r⟩:=pX q1 rv hl
   obtain⟨a,e2,h2,h3⟩:=GAd (P:=λS=>yG S w=some xs) rv ⟨p,vs,e,SqL.of h1,r⟩ hP
   exact⟨a,e2,.inl ⟨h2,g2 _ h3⟩⟩
  have tup:(w = .tup xs \/ w = .kt xs)->∃ a,v = .ref a/\(((∃ vs,SqL K H1 a vs)/\R (Itl K a) H1) \/ ((∃ vs,SqT K H1 a vs)/\R (Itt K a) H1)):=λh=>by
   obtain⟨a,e2,h2,h3⟩:=p7h (P:=λS=>yG S w=some xs) rv h
   exact⟨a,e2,.inr ⟨h2,g2 _ h3⟩⟩
  cases w with
  | tup ys=>cases hs;exact tup (.inl rfl)
  | kt ys=>cases hs;exact tup (.inr rfl)
  | lst ys=>exact lst hs λ_ h=>h
  | ref n=>exact lst hs λ_ h=>h
  | _=>cases hs
 ·exact g1.elim
theorem jMS (ha:QE c K G X a ma):QI c K G X tg a (Y7 ma):=by
 obtain⟨t,p1,r1⟩:=ha.ex
 refine⟨iStr t,λq=>pi_str (p1 q),⟨?_⟩⟩
 intro ρ S H L σ R rel rl gd
 refine oCn (r1.run rel rl ((Good.bind gd).imp λw S1 ρ1 H1 e1 q1 g1 v rv=>?_))
 cases w <;> first|exact g1.elim|skip
 cases rv
 rename_i z
 refine itS (g1.ok q1 _ λρ2 H2 S2 e2 q2 _=>⟨?_,λi x hx=>?_⟩)
 ·show z.cps.size<=(z.cps.toList.map _).length
  simp
 ·rw[jt] at hx
  obtain⟨k,hk,rfl⟩:=qm.mp hx
  refine⟨?_,?_⟩
  ·show i < z.cps.size
   have:=(jk.mp hk).1
   simpa using this
  ·rintro v H3 ⟨rfl,k2,h2,rfl⟩
   have:k2=k:=by
    have h2':z.cps.toList[i]? = some k2:=by simpa using h2
    rw[hk] at h2'
    exact(Option.some.inj h2').symm
   subst this
   exact⟨Same.refl _,.str _⟩
theorem cTu (cx:Ctx c K) (ha:QE c K G X a ma):QI c K G X tg a (MQ ma):=by
 obtain⟨t,p1,r1⟩:=ha.ex
 refine⟨iList K t,λq=>cx.kK q ▸ pi_list (p1 q),⟨?_⟩⟩
 intro ρ S H L σ R rel rl gd
 refine gEj (r1.run rel rl ((Good.bind gd).imp λw S1 ρ1 H1 e1 q1 g1 v rv=>?_))
 cases w <;> first|exact g1.elim|skip
 rename_i ns
 cases rv with
 | @scr _ p0 h=>
  refine⟨_,rfl,⟨_,h.seq⟩,g1.ok q1 _ λρ2 H2 S2 e2 q2 _=>?_⟩
  have h2:SqL K H2 p0 (ns.map V.int):=by
   cases (RV.scr (G:=G) h).re e2 with
   | scr h'=>exact h'.seq
  refine⟨⟨_,h2,by simp⟩,λi x hx=>?_⟩
  rw[jt] at hx
  obtain⟨k,hk,rfl⟩:=qm.mp hx
  have hv:(ns.map V.int)[i]? = some (.int k):=by rw[jt,hk];rfl
  refine⟨⟨_,_,h2,hv⟩,?_⟩
  rintro v H3 ⟨rfl,yl⟩
  have:=yl _ h2
  rw[hv] at this
  cases this
  exact⟨Same.refl _,.int _⟩
theorem TEx {ρ:Rho} {H:Hp} {lo hi:Int}:uIq K G (Itr lo (hi - lo).toNat) (lS lo hi) ρ H:=λρ1 H1 S1 e1 r1 _=>by
 refine⟨?_,λi x hx=>?_⟩
 ·show(hi - lo).toNat<=((List.range (hi - lo).toNat).map λ(i:Nat)=>W.int (lo+(i:Int))).length
  simp
 ·have hx':((List.range (hi - lo).toNat).map λ(i:Nat)=>W.int (lo+(i:Int)))[i]? = some x:=hx
  rw[jt] at hx'
  obtain⟨k,hk,rfl⟩:=qm.mp hx'
  have hl:=(jk.mp hk).1
  rw[List.length_range] at hl
  have ek:k=i:=by
   rw[List.getElem?_range hl] at hk
   exact(Option.some.inj hk).symm
  subst ek
  refine⟨hl,?_⟩
  rintro v H2 ⟨rfl,rfl⟩
  exact⟨Same.refl _,.int _⟩
theorem x7 (hg:∀ q,Gl (c q) "range") (hm:∀ q,(c q).mg "range" = none) (ha:QA c K G X [a] ms) (hs:∀ q,starEach [a] (c q).env=[(false,eval a (c q).env)]:=by exact λ_=>rfl):QI c K G X tg (.Call (.Name "range" p) [a] [] pos) (itR1 ms):=by
 obtain⟨t,p1,r1⟩:=ha.ex
 refine⟨iRng1 t,λq=>pi_range1 (hg q) (hm q) (p1 q) (hs q),⟨?_⟩⟩
 intro ρ S H L σ R rel rl gd
 refine d12 (r1.run rel rl ((Good.bind gd).imp λw S1 ρ1 H1 e1 q1 g1 v rv=>?_))
 split at g1
 ·split at g1
  ·rename_i j h
   obtain⟨u,rfl,ru⟩:=rv.one
   cases ru
   have g2:=g1.ok q1 (Itr 0 (j - 0).toNat) TEx
   rw[Int.sub_zero] at g2
   exact Cp.itR1 h g2
  ·exact g1.elim
 ·exact g1.elim
theorem DI2 {elts:List Expr} {kk:Nat} {tpos:Pos} (cx:Ctx c K) (hg:∀ q,Gl (c q) "enumerate") (hm:∀ q,(c q).mg "enumerate" = none) (ha:QA c K G X [a] ms) (hs:∀ q,starEach [a] (c q).env=[(false,eval a (c q).env)]:=by exact λ_=>rfl) :
  QI c K G X (.Tuple elts kk tpos) (.Call (.Name "enumerate" p) [a] [] pos) (TC ms):=by
 obtain⟨t,p1,r1⟩:=ha.ex
 refine⟨iEnum K t,λq=>cx.kK q ▸ pi_enum (hg q) (hm q) (p1 q) (hs q),⟨?_⟩⟩
 intro ρ S H L σ R rel rl gd
 refine DAH (r1.run rel rl ((Good.bind gd).imp λw S1 ρ1 H1 e1 q1 g1 v rv=>?_))
 split at g1
 ·split at g1
  ·rename_i w xs hs
   obtain⟨u,rfl,ru⟩:=rv.one
   obtain⟨p,vs,rfl,hp,r⟩:=pX q1 ru hs
   refine itE (SqL.of hp) (g1.ok q1 _ λρ2 H2 S2 e2 q2 lv=>?_)
   obtain⟨p',vs',e,h2,r2⟩:=pX q2 (ru.re e2) lv
   cases e
   refine⟨⟨vs',SqL.of h2,by rw[<- r2.length];simp⟩,λi x hx=>?_⟩
   rw[jt] at hx
   obtain⟨k,hk,rfl⟩:=qm.mp hx
   rw[List.getElem?_zipIdx] at hk
   obtain⟨y,hy,rfl⟩:=qm.mp hk
   obtain⟨u,hu,ruy⟩:=r2.get hy
   refine⟨⟨vs',u,SqL.of h2,hu⟩,?_⟩
   rintro v H3 ⟨T,z,rfl,hT,rfl,yl⟩
   have:=yl _ (SqL.of h2)
   rw[hu] at this
   cases this
   have s:=T5 (o:=.tup [.int (i:Nat),u]) hT
   refine⟨s,.tup upd_same (.cons ?_ (.cons (ruy.mono (.same s)) .nil))⟩
   have:((0+i:Nat):Int)=(i:Int):=by simp
   rw[this]
   exact .int _
  ·exact g1.elim
 ·exact g1.elim
end
end
end Mi
namespace Mi
open PySem PySem.Spec
open PyProof.Rows L2 Cp
noncomputable section
mutual
def W3 (n:Nat):W->Bool
 | .ref m=>decide (m < n)
 | .tup xs=>cH n xs
 | .lst xs=>cH n xs
 | .kt xs=>cH n xs
 | .dk _ xs=>cH n xs
 | .dt _ xs=>cH n xs
 | .obj _ _ xs=>cH n xs
 | .exc _ _ xs=>cH n xs
 | _=>true
def cH (n:Nat):List W->Bool
 | []=>true
 | x :: xs=>W3 n x && cH n xs
end
def LD {α β:Type} (f:α->Option β):List α->Option (List β)
 | []=>some []
 | x :: xs=>match f x,LD f xs with
  | some y,some ys=>some (y :: ys)
  | _,_=>none
def frz:Nat->Sto->Nat->W->Option W
 | 0,_,n,w=>if W3 n w then some w else none
 | k+1,S,n,w=>if W3 n w then some w else match w with
  | .tup xs=>(LD (frz k S n) xs).map .tup
  | .lst xs=>(LD (frz k S n) xs).map .lst
  | .dk ks xs=>(LD (frz k S n) xs).map (.dk ks)
  | .dt ks xs=>(LD (frz k S n) xs).map (.dt ks)
  | .obj c fs xs=>(LD (frz k S n) xs).map (.obj c fs)
  | .exc c fs xs=>(LD (frz k S n) xs).map (.exc c fs)
  | .ref m=>match S[m]? with
   | some (.lst xs)=>(LD (frz k S n) xs).map .lst
   | some (.dk kvs)=>(LD (frz k S n) (kvs.map (·.2))).map (.dk (kvs.map (·.1)))
   | some (.dt kvs)=>(LD (frz k S n) (kvs.map (·.2))).map (.dt (kvs.map (·.1)))
   | some (.ins c fs)=>(LD (frz k S n) (fs.map (·.2))).map (.obj c (fs.map (·.1)))
   | _=>none
  | _=>none
def oB (n:Nat):Ob->Bool
 | .lst xs=>cH n xs
 | .dk kvs=>cH n (kvs.map (·.2))
 | .dt kvs=>cH n (kvs.map (·.2))
 | .ins _ fs=>cH n (fs.map (·.2))
 | .fdk kvs=>cH n (kvs.map (·.2))
def JM (N:List Str) (ws:List W):Lo:=ws.map some++yz (N.length - ws.length) none
def oU:Oc->M W
 | .rt w=>M.ret w
 | .nx _=>M.ret .non
 | _=>GG
def IU (N:List Str) (n:Nat) (m:Lo->M Oc):List W->M W:=λws S=>if ws.length=n then M.bind (m (JM N ws)) oU S else none
def AT (n:Nat) (F:List W->M W):List W->M W:=λws S=>if ws.length=n then match F ws S with
 | some (.ok w,S')=>some (.ok w,S')
 | _=>none
 else none
def dO (F:List W->M W) (ws:List W):Option W:=match F ws [] with
 | some (.ok w,S')=>frz 60 S' 0 w
 | _=>none
def H0 (n:Nat) (F:List W->M W):List W->M W:=λws S=>if ws.length=n/\cH 0 ws=true then gL (dO F ws) S else none
def mN (n:Nat) (F:List W->M W):List W->M W:=λws S=>if ws.length=n then match F ws S with
 | some (.ok w,S')=>match frz 60 S' S.length w with
  | some w'=>if (S'.take S.length).all (oB S.length) then some (.ok w',S'.take S.length) else none
  | none=>none
 | _=>none
 else none
def zV (c:Str) (n:Nat) (F:List W->M W):List W->M W:=λws S=>if ws.length+1=n then match F (.ref S.length :: ws) (S++[.ins c []]) with
 | some (.ok .non,S')=>some (.ok (.ref S.length),S')
 | _=>none
 else none
def nV (c:Str) (n:Nat) (F:List W->M W):List W->M W:=λws S=>if ws.length+1=n/\cH 0 ws=true then match F (.ref 0 :: ws) [.ins c []] with
 | some (.ok .non,S')=>gL (frz 60 S' 0 (.ref 0)) S
 | _=>none
 else none
def LP (S:Sto) (m:Str):W->Option Str
 | .obj c fs _=>if m ∈ fs then none else some c
 | .ref n=>match S[n]? with
  | some (.ins c fs)=>if (fs.map (·.1)).contains m then none else some c
  | _=>none
 | _=>none
def BQ (c m:Str) (w:W):M Unit:=λS=>if LP S m w=some c then some (.ok (),S) else none
def PL (c m:Str) (f:List W->M W) (o:Lo->M W) (a:Lo->M (List W)):Lo->M W:=λL=>(o L).bind λx=>(BQ c m x).bind λ_=>(a L).bind λws=>f (x :: ws)
def X0:W->Rho->Hp->Prop:=λ_ _ _=>False
def spF (K:qk) (G:Str->Addr) (n:Nat) (F:List W->M W):Sp:=λvs H Q _=>∃ (ρ:Rho) (S:Sto) (ws:List W),ws.length=n/\Rel K G ρ H S/\RVs K G ρ H ws vs/\Good K G X0 ρ H (F ws S) (KL K G Q)
section
variable {P:Program} {w:World} {K:qk} {G:Str->Addr} {mg:Str->Option Value} {base:Heap} {X:W->Rho->Hp->Prop}
theorem n9 {ρ:Rho} {H:Hp} {N:List Str} {ws:List W} {vs:List V} (r:RVs K G ρ H ws vs):RL K G ρ H (JM N ws) (L2.start N vs):=by
 unfold JM L2.start
 refine⟨by simp [r.length],λi w h=>?_⟩
 by_cases hi:i < ws.length
 ·rw[jl (by simpa using hi),jt] at h
  obtain⟨w',h1,h2⟩:=qm.mp h
  cases h2
  obtain⟨v,h3,h4⟩:=r.get h1
  refine⟨v,?_,h4⟩
  rw[jl (by rw[qq,<- r.length];exact hi),jt,h3]
  rfl
 ·rw[zm (by simpa using hi),List.getElem?_replicate] at h
  split at h <;> cases h
theorem B3 {t:TS} {m:Lo->M Oc} {N:List Str} {n:Nat} (h:RS K G X0 t m) {vs:List V} {H:Hp} {Q:VK} {E:XK} (q:spF K G n (IU N n m) vs H Q E):t { nx:=λ_ H'=>Q .non H',rt:=Q } (L2.start N vs) H:=by
 obtain⟨ρ,S,ws,hl,rel,rv,gd⟩:=q
 unfold IU at gd
 rw[if_pos hl] at gd
 refine h.run rel (n9 rv) ((Good.bind gd).imp λo S1 ρ1 H1 e1 r1 g1=>?_)
 cases o with
 | nx L'=>exact λσ' _=>g1.fin r1 .non
 | rt w=>exact λv rv=>g1.fin r1 rv
 | bk L'=>exact g1.elim
 | ct L'=>exact g1.elim
theorem MG {n:Nat} {F:List W->M W} {vs:List V} {H:Hp} {Q:VK} {E:XK} (q:spF K G n F vs H Q E):vs.length=n:=by
 obtain⟨ρ,S,ws,hl,rel,rv,gd⟩:=q
 rw[<- rv.length]
 exact hl
abbrev cx1 (P:Program) (w:World) (K:qk) (mg:Str->Option Value) (base:Heap) (N:List Str) (qual:Str) (st:Stmt) (f:Addr) (cdv:Value) (A:Around) (outer:List Env) (s:Shared) (H:Hp) (E:XK):Unit->Cx:=λ_=>(cxOf CX0 P w K mg base N qual (defScope st) f cdv A outer s H E).nox
theorem y13 {x qual:Str} {st:Stmt} {f:Addr} {fd:FuncData} {N ps:List Str} {k:Nat} {m:Lo->M Oc} (F:Fun K x qual st f fd) (sc:FnScope N ps (defScope st))
  (body:∀ (cdv:Value) (A:Around) (outer:List Env) (s:Shared) (H:Hp) (E:XK),Room k (A.deeper (envOfC qual (defScope st) s.heap.objs.size f cdv))->QSs (cx1 P w K mg base N qual st f cdv A outer s H E) K G X0 (defBody st) m) :
  FnOk P w K mg base CX0 (k+1) f fd ps (spF K G ps.length (IU N ps.length m)):=by
 refine F.ok sc (λvs H Q E q=>MG q) λcdv A outer s H vs Q E hr q=>?_
 obtain⟨t,h1,h2⟩:=(body cdv A outer s H E hr).ex
 exact⟨t,h1 (),B3 h2 q⟩
theorem lA {N:List Str} {qual:Str} {st:Stmt} {f:Addr} {cdv:Value} {A:Around} {outer:List Env} {s:Shared} {H:Hp} {E:XK} {k:Nat} (hr:Room k (A.deeper (envOfC qual (defScope st) s.heap.objs.size f cdv))):Ctx (cx1 P w K mg base N qual st f cdv A outer s H E) K:=
 ⟨λ_=>rfl,λ_=>rfl,λ_=>by have h:=hr.un;show(A.deeper (envOfC qual (defScope st) s.heap.objs.size f cdv)).units+65 < cLine;omega⟩
end
section
variable {K:qk} {G:Str->Addr} {ρ ρ1 ρ2:Rho} {H:Hp} {S:Sto} {n:Nat}
structure Lows (n:Nat) (ρ:Rho) (ρ1:Rho):Prop where
 off:∀ a,ρ.Off a->ρ1.Off a
 lo:∀ (m:Nat) (a:Addr),m < n->ρ.l[m]? = some a->ρ1.l[m]? = some a
structure JAl (n:Nat) (ρ:Rho) (ρ1:Rho):Prop extends Lows n ρ ρ1 where
 hi:∀ (m:Nat) (a:Addr),n<=m->ρ.l[m]? = some a->ρ1.Off a
mutual
theorem FX (t:Lows n ρ ρ1):∀ {w:W} {v:V},RV K G ρ H w v->W3 n w=true->RV K G ρ1 H w v
 | _,_,.non,_=>.non
 | _,_,.bl b,_=>.bl b
 | _,_,.int i,_=>.int i
 | _,_,.str x,_=>.str x
 | _,_,.ty n,_=>.ty n
 | _,_,.cls c,_=>.cls c
 | _,_,.tup h r,e=>.tup h (pV t r (by simpa only[W3] using e))
 | _,_,.kt h r,e=>.kt h (pV t r (by simpa only[W3] using e))
 | _,_,.lst h o r,e=>.lst h (t.off _ o) (pV t r (by simpa only[W3] using e))
 | _,_,.dk h o l r,e=>.dk h (t.off _ o) l (pV t r (by simpa only[W3] using e))
 | _,_,.dt h o l r,e=>.dt h (t.off _ o) l (pV t r (by simpa only[W3] using e))
 | _,_,.obj h o c f l r,e=>.obj h (t.off _ o) c f l (pV t r (by simpa only[W3] using e))
 | _,_,.exc h o h2 o2 l r,e=>.exc h (t.off _ o) h2 (t.off _ o2) l (pV t r (by simpa only[W3] using e))
 | _,_,.ref h,e=>.ref (t.lo _ _ (by simpa only[W3,decide_eq_true_eq] using e) h)
 | _,_,.scr (.inl ⟨h,o⟩),_=>.scr (.inl ⟨h,t.off _ o⟩)
 | _,_,.scr (.inr h),_=>.scr (.inr h)
theorem pV (t:Lows n ρ ρ1):∀ {ws:List W} {vs:List V},RVs K G ρ H ws vs->cH n ws=true->RVs K G ρ1 H ws vs
 | _,_,.nil,_=>.nil
 | _,_,.cons h r,e=>by
  simp only[cH,js] at e
  exact .cons (FX t h e.1) (pV t r e.2)
end
theorem KC {f:W->Option W} (h:∀ w v w',RV K G ρ H w v->f w=some w'->RV K G ρ1 H w' v):∀ {ws:List W} {vs:List V} {us:List W},RVs K G ρ H ws vs->LD f ws=some us->RVs K G ρ1 H us vs
 | _,_,_,.nil,e=>by simp only[LD] at e;cases e;exact .nil
 | _,_,_,.cons h1 r,e=>by
  simp only[LD] at e
  split at e
  ·rename_i y ys e1 e2
   cases e
   exact .cons (h _ _ _ h1 e1) (KC h r e2)
  ·cases e
theorem fS {α β:Type} {f:α->Option β}:∀ {xs:List α} {ys:List β},LD f xs=some ys->ys.length=xs.length
 | [],_,h=>by simp only[LD] at h;cases h;rfl
 | x :: xs,_,h=>by
  simp only[LD] at h
  split at h
  ·rename_i y ys e1 e2
   cases h
   simp [fS e2]
  ·cases h
theorem CW (rel:Rel K G ρ H S) (t:JAl n ρ ρ1):∀ (k:Nat) (w:W) (v:V) (w':W),RV K G ρ H w v->frz k S n w=some w'->RV K G ρ1 H w' v
 | 0,w,v,w',r,h=>by
  unfold frz at h
  split at h
  ·rename_i b
   cases h
   exact FX t.toLows r b
  ·cases h
 | k+1,w,v,w',r,h=>by
  unfold frz at h
  split at h
  ·rename_i b
   cases h
   exact FX t.toLows r b
  ·have ih:=CW rel t k
   cases r with
   | tup h1 r=>
    obtain⟨us,e,rfl⟩:=qm.mp h
    exact .tup h1 (KC ih r e)
   | lst h1 o r=>
    obtain⟨us,e,rfl⟩:=qm.mp h
    exact .lst h1 (t.off _ o) (KC ih r e)
   | dk h1 o l r=>
    obtain⟨us,e,rfl⟩:=qm.mp h
    exact .dk h1 (t.off _ o) (by rw[fS e];exact l) (KC ih r e)
   | dt h1 o l r=>
    obtain⟨us,e,rfl⟩:=qm.mp h
    exact .dt h1 (t.off _ o) (by rw[fS e];exact l) (KC ih r e)
   | obj h1 o c f l r=>
    obtain⟨us,e,rfl⟩:=qm.mp h
    exact .obj h1 (t.off _ o) c f (by rw[fS e];exact l) (KC ih r e)
   | exc h1 o h2 o2 l r=>
    obtain⟨us,e,rfl⟩:=qm.mp h
    exact .exc h1 (t.off _ o) h2 (t.off _ o2) (by rw[fS e];exact l) (KC ih r e)
   | @ref m a h1=>
    have nm:n<=m:=by
     rename_i b
     simp only[W3,decide_eq_true_eq] at b
     omega
    have off:=t.hi m a nm h1
    simp only at h
    split at h
    ·rename_i xs hs
     obtain⟨us,e,rfl⟩:=qm.mp h
     obtain⟨vs,h2,r⟩:=rel.ref h1 hs
     exact .lst h2 off (KC ih r e)
    ·rename_i kvs hs
     obtain⟨us,e,rfl⟩:=qm.mp h
     obtain⟨vs,h2,r⟩:=rel.ref h1 hs
     obtain⟨xs,rfl,r2⟩:=IF r
     exact .dk h2 off (by rw[fS e];simp) (KC ih r2 e)
    ·rename_i kvs hs
     obtain⟨us,e,rfl⟩:=qm.mp h
     obtain⟨vs,h2,r⟩:=rel.ref h1 hs
     obtain⟨xs,rfl,r2⟩:=IF r
     exact .dt h2 off (by rw[fS e];simp) (KC ih r2 e)
    ·rename_i c fs hs
     obtain⟨us,e,rfl⟩:=qm.mp h
     obtain⟨dx,vs,h2,cl,nf,r⟩:=rel.ref h1 hs
     obtain⟨xs,rfl,r2⟩:=IF r
     refine .obj h2 off cl (λf hf=>?_) (by rw[fS e];simp) (KC ih r2 e)
     obtain⟨p,hp,rfl⟩:=jc.mp hf
     exact nf p hp
    ·cases h
   | _=>cases h
def Rho.shut (ρ:Rho):Rho:=⟨[],λa=>ρ.b a \/ a ∈ ρ.l⟩
theorem Rel.shut (rel:Rel K G ρ H S):Rel K G ρ.shut H []:=by
 refine⟨rfl,Qb,λn a o h=>by simp [Rho.shut] at h,λa h=>?_,rel.tb⟩
 rcases h with h|h
 ·exact rel.bl a h
 ·obtain⟨_,_,_,_,q⟩:=rel.mem h
  obtain⟨u,q,nt,_⟩:=gA q
  exact⟨u,q,nt⟩
theorem X6:Lows 0 ρ ρ.shut:=⟨λa h=>⟨by simp [Rho.shut],λz=>z.elim h.2 h.1⟩,λm a h=>by omega⟩
theorem HF {H':Hp} (rel:Rel K G ρ H S) (e:Ext ρ.shut H ρ1 H'):JAl 0 ρ1 ρ:=by
 refine⟨⟨λa h=>⟨λz=>h.2 (e.b1 a (.inr z)),λz=>h.2 (e.b1 a (.inl z))⟩,λm a h=>by omega⟩,λm a _ h=>?_⟩
 rcases e.new a (zu h) with q|q
 ·simp [Rho.shut] at q
 ·exact rel.newA q
def qE (H H':Hp):Prop:=∀ a o,H a=some o->(∀ ps,o ≠ .tbl ps)->H' a=some o
theorem Ext.sameT {H':Hp} (s:qE H H'):Ext ρ H ρ H':=⟨⟨[],by simp⟩,λ_ h=>.inl h,λa o h nt _=>s a o h nt,λ_ h=>h,λ_ h=>.inl h⟩
theorem Rel.sameT {H':Hp} (r:Rel K G ρ H S) (s:qE H H') (t:TabOk G H'):Rel K G ρ H' S:=by
 refine⟨r.len,r.nd,λn a o h1 h2=>?_,λa h=>?_,t⟩
 ·have q:=r.ob n a o h1 h2
  obtain⟨u,hu,nt,_⟩:=gA q
  exact q.mono (.sameT s) λw hw=>s a w hw (by
   rw[hu] at hw
   cases hw
   exact nt)
 ·obtain⟨o,q,nt⟩:=r.bl a h
  exact⟨o,s a o q nt,nt⟩
theorem Good.sameT {α:Type} {X:W->Rho->Hp->Prop} {k:α->Sto->Rho->Hp->Prop} {a:α} {H':Hp} (h:Good K G X ρ H (some (.ok a,S)) k) (q:Rel K G ρ H S) (s:qE H H') (t:TabOk G H'):k a S ρ H':=h ρ H' (.sameT s) (q.sameT s t)
theorem yU {H':Hp} (e:Ext ρ.shut H ρ1 H'):qE H H':=λa o h nt=>e.stp a o h nt (.inr (by simp [Rho.shut]))
theorem T1 {H':Hp} {S':Sto} (rel:Rel K G ρ H S) (e:Ext ρ H ρ1 H') (r:Rel K G ρ1 H' S'):JAl S.length ρ1 ρ:=by
 obtain⟨t,et⟩:=e.pre
 refine⟨⟨λa h=>⟨λz=>h.1 (by rw[et];exact zk _ z),λz=>h.2 (e.b1 a z)⟩,λm a hm h=>?_⟩,λm a hm h=>?_⟩
 ·rw[et,jl (by rw[rel.len];exact hm)] at h
  exact h
 ·have hn:a ∉ ρ.l:=λz=>by
   obtain⟨j,hj,ej⟩:=yg z
   have h1:ρ1.l[j]? = some a:=by rw[et,jl hj,qz hj,ej]
   obtain⟨l1,e1⟩:=jk.mp h
   obtain⟨l2,e2⟩:=jk.mp h1
   have:=(List.getElem_inj r.nd).mp (e1.trans e2.symm)
   rw[rel.len] at hj
   omega
  refine⟨hn,λz=>?_⟩
  rcases e.new a (zu h) with q|q
  ·exact hn q
  ·exact q.old (rel.bl a z)
theorem RKs.ofz {κ:Type} {kvs:List (κ × W)} {vs:List (κ × V)} (r:RKs K G ρ H kvs vs) (t:Lows n ρ ρ1) (b:cH n (kvs.map (·.2))=true):RKs K G ρ1 H kvs vs:=by
 induction r with
 | nil=>exact .nil
 | cons hd _ ih=>
  simp only[jn,cH,js] at b
  exact .cons ⟨hd.1,FX t hd.2 b.1⟩ (ih b.2)
theorem I6 {a:Addr} (t:Lows n ρ ρ1):∀ {o:Ob},ObR K G ρ H a o->oB n o=true->ObR K G ρ1 H a o
 | .lst _,⟨vs,h,r⟩,b=>⟨vs,h,pV t r b⟩
 | .dk _,⟨vs,h,r⟩,b=>⟨vs,h,r.ofz t b⟩
 | .dt _,⟨vs,h,r⟩,b=>⟨vs,h,r.ofz t b⟩
 | .ins _ _,⟨dx,vs,h,c,f,r⟩,b=>⟨dx,vs,h,c,f,r.ofz t b⟩
 | .fdk _,⟨o,vs,h,r⟩,b=>⟨o,vs,h,r.ofz t b⟩
theorem SH {H':Hp} {S':Sto} (rel:Rel K G ρ H S) (e:Ext ρ H ρ1 H') (r:Rel K G ρ1 H' S') (b:(S'.take S.length).all (oB S.length)=true):Rel K G ρ H' (S'.take S.length):=by
 have t:=T1 rel e r
 obtain⟨u,et⟩:=e.pre
 refine⟨?_,rel.nd,λm a o h1 h2=>?_,λa h=>r.bl a (e.b1 a h),r.tb⟩
 ·rw[zy,<- r.len,et,qr,rel.len]
  omega
 ·have hm:=(jk.mp h1).1
  rw[List.getElem?_take_of_lt (by rw[<- rel.len];exact hm)] at h2
  have ho:oB S.length o=true:=by
   refine zc.mp b o (zu (i:=m) ?_)
   rw[List.getElem?_take_of_lt (by rw[<- rel.len];exact hm)]
   exact h2
  have h1':ρ1.l[m]? = some a:=e.get h1
  exact I6 t.toLows (r.ob m a o h1' h2) ho
end
section
variable {K:qk} {G:Str->Addr} {n:Nat} {F:List W->M W}
def OkF (K:qk) (G:Str->Addr) (sp:Sp) (f:List W->M W):Prop:=∀ {X:W->Rho->Hp->Prop} {ρ:Rho} {S:Sto} {H:Hp} {ws:List W} {vs:List V} {Q:VK} {E:XK},Rel K G ρ H S->RVs K G ρ H ws vs->Good K G X ρ H (f ws S) (KL K G Q)->sp vs H Q E
theorem FB:OkF K G (spF K G n F) (AT n F):=by
 intro X ρ S H ws vs Q E rel rv gd
 unfold AT at gd
 split at gd
 ·rename_i hl
  refine⟨ρ,S,ws,hl,rel,rv,?_⟩
  split at gd
  ·rename_i w S' e
   rw[e]
   exact gd
  ·exact gd.elim
 ·exact gd.elim
theorem iF:OkF K G (spF K G n F) (H0 n F):=by
 intro X ρ S H ws vs Q E rel rv gd
 unfold H0 at gd
 split at gd
 ·rename_i hl
  refine⟨ρ.shut,[],ws,hl.1,rel.shut,pV X6 rv hl.2,?_⟩
  obtain⟨w',hw,g2⟩:=Good.lift (o:=dO F ws) gd
  unfold dO at hw
  split at hw
  ·rename_i w S' e
   rw[e]
   intro ρ1 H1 e1 r1 v r
   have s:=yU e1
   exact g2.sameT rel s r1.tb v (CW r1 (HF rel e1) 60 w v w' r hw)
  ·cases hw
 ·exact gd.elim
theorem JY:OkF K G (spF K G n F) (mN n F):=by
 intro X ρ S H ws vs Q E rel rv gd
 unfold mN at gd
 split at gd
 ·rename_i hl
  refine⟨ρ,S,ws,hl,rel,rv,?_⟩
  split at gd
  ·rename_i w S' e
   rw[e]
   split at gd
   ·rename_i w' hw
    split at gd
    ·rename_i b
     intro ρ1 H1 e1 r1 v r
     exact gd ρ H1 ⟨⟨[],by simp⟩,λ_ h=>.inl h,e1.stp,λ_ h=>h,λ_ h=>.inl h⟩ (SH rel e1 r1 b) v (CW r1 (T1 rel e1 r1) 60 w v w' r hw)
    ·exact gd.elim
   ·exact gd.elim
  ·exact gd.elim
 ·exact gd.elim
end
section
variable {ι:Type} {c:ι->Cx} {K:qk} {G:Str->Addr} {X:W->Rho->Hp->Prop} {e a b d tg:Expr} {es:List Expr} {pos p pos' apos:Pos} {m ma mb md:Lo->M W} {ms:Lo->M (List W)} {fM:List W->M W} {sp:Sp} {f:Addr} {fd:FuncData} {ps:List Str} {k:Nat} {x:Str}
theorem RA.fn {t:TA} (h:RA K G X t ms) (hf:OkF K G sp fM) (E:XK):RE K G X (tCall sp [] E t) (fD fM ms):=⟨by
 intro ρ S H L σ Q rel rl gd
 refine ARd (h.run rel rl ((Good.bind gd).imp λws S1 ρ1 H1 e1 r1 g1 vs rs=>hf r1 rs g1))⟩
theorem I0 (F:∀ i,FnOk (c i).prog (c i).w (c i).K (c i).mg (c i).base CX0 k f fd ps sp) (hf:OkF K G sp fM) (hr:∀ i,Room k (c i).A) (hg:∀ i,Gl (c i) x) (hm:∀ i,(c i).mg x=some (.ref f)) (hk:∀ i,zt (c i).K (.ref f)=true) (hb:∀ i,Binds (c i).K fd ps [])
  (ha:QA c K G X (e :: es) ms) (hdb:(x == ("__debug__" : Str))=false:=by decide) (he:∀ i,starEach (e :: es) (c i).env=(false,eval e (c i).env) :: starEach es (c i).env:=by exact λ_=>rfl) (hpl:∀ i,(backTo pos (starEach es (c i).env)).any (·.1)=false:=by exact λ_=>rfl) :
  QE c K G X (.Call (.Name x p) (e :: es) [] pos) (fD fM ms):=by
 obtain⟨t,p1,r1⟩:=ha.ex
 exact⟨_,λi=>pe_call (F i) (hr i) (hg i) (hm i) (hk i) (hb i) .nil pass0 (p1 i) hdb (he i) (hpl i),r1.fn hf E0⟩
theorem OK {ρ:Rho} {H:Hp} {S:Sto} {x dx:Addr} {n:Str} (rel:Rel K G ρ H S) (cl:Cls K (G n)) (hx:H x=none) (hd:H dx=none) (ne:dx ≠ x) :
  Ext ρ H (ρ.add x) (upd (upd H dx (.own x)) x (.ins (G n) dx []))/\Rel K G (ρ.add x) (upd (upd H dx (.own x)) x (.ins (G n) dx [])) (S++[.ins n []]):=by
 have s:Same H (upd (upd H dx (.own x)) x (.ins (G n) dx [])):=λa o h=>by
  rw[upd_ne (ne_of_none h hx),upd_ne (ne_of_none h hd)]
  exact h
 exact rel.push s hx λ_=>⟨dx,[],upd_same,cl,λp hp=>by simp at hp,.nil⟩
def kKK (K:qk) (G:Str->Addr) (n:Str) (sp:Sp) (f:List W->M W):Prop:=∀ {X:W->Rho->Hp->Prop} {ρ:Rho} {S:Sto} {H:Hp} {ws:List W} {vs:List V} {Q:VK} {E:XK},Rel K G ρ H S->RVs K G ρ H ws vs->Good K G X ρ H (f ws S) (KL K G Q) ->
 ∀ x dx,H x=none->H dx=none->dx ≠ x->sp (.ref x :: vs) (upd (upd H dx (.own x)) x (.ins (G n) dx [])) (λv H2=>v = .non/\Q (.ref x) H2) E
theorem VU {n:Str} {j:Nat} {F:List W->M W} (cl:Cls K (G n)):kKK K G n (spF K G j F) (zV n j F):=by
 intro X ρ S H ws vs Q E rel rv gd x dx hx hd ne
 unfold zV at gd
 split at gd
 ·rename_i hl
  obtain⟨e1,r1⟩:=OK (n:=n) rel cl hx hd ne
  have hp:(ρ.add x).l[S.length]? = some x:=by
   show(ρ.l++[x])[S.length]? = some x
   rw[<- rel.len]
   simp
  refine⟨ρ.add x,S++[.ins n []],.ref S.length :: ws,by simpa using hl,r1,.cons (.ref hp) (rv.mono e1),?_⟩
  split at gd
  ·rename_i S' e
   rw[e]
   intro ρ2 H2 e2 r2 v r
   cases r
   exact⟨rfl,gd ρ2 H2 (e1.trans e2) r2 _ (.ref (e2.get hp))⟩
  ·exact gd.elim
 ·exact gd.elim
theorem RN {n:Str} {j:Nat} {F:List W->M W} (cl:Cls K (G n)):kKK K G n (spF K G j F) (nV n j F):=by
 intro X ρ S H ws vs Q E rel rv gd x dx hx hd ne
 unfold nV at gd
 split at gd
 ·rename_i hl
  obtain⟨e1,r1⟩:=OK (n:=n) rel.shut cl hx hd ne
  have hp:(ρ.shut.add x).l[0]? = some x:=by
   show(ρ.shut.l++[x])[0]? = some x
   simp [Rho.shut]
  refine⟨ρ.shut.add x,[.ins n []],.ref 0 :: ws,by simpa using hl.1,r1,.cons (.ref hp) ((pV X6 rv hl.2).mono e1),?_⟩
  split at gd
  ·rename_i S' e
   rw[e]
   intro ρ2 H2 e2 r2 v r
   cases r
   have e3:=e1.trans e2
   obtain⟨w',hw,g2⟩:=Good.lift (o:=frz 60 S' 0 (.ref 0)) gd
   exact⟨rfl,g2.sameT rel (yU e3) r2.tb _ (CW r2 (HF rel e3) 60 _ _ _ (.ref (e2.get hp)) hw)⟩
  ·exact gd.elim
 ·exact gd.elim
theorem UI {n:Str} (cl:Cls K (G n)) (M:∀ i,Mk (c i).K (G n) f) (F:∀ i,FnOk (c i).prog (c i).w (c i).K (c i).mg (c i).base CX0 k f fd ps sp) (hf:kKK K G n sp fM) (hr:∀ i,Room (k+1) (c i).A) (hg:∀ i,Gl (c i) x) (hm:∀ i,(c i).mg x=some (.ref (G n))) (hb:∀ i,Binds (c i).K fd ps [])
  (ha:QA c K G X (e :: es) ms) (hdb:(x == ("__debug__" : Str))=false:=by decide) (he:∀ i,starEach (e :: es) (c i).env=(false,eval e (c i).env) :: starEach es (c i).env:=by exact λ_=>rfl) (hpl:∀ i,(backTo pos (starEach es (c i).env)).any (·.1)=false:=by exact λ_=>rfl) :
  QE c K G X (.Call (.Name x p) (e :: es) [] pos) (fD fM ms):=by
 obtain⟨t,p1,r1⟩:=ha.ex
 refine⟨_,λi=>pe_make (M i) (F i) (hr i) (hg i) (hm i) (hb i) .nil pass0 (p1 i) hdb (he i) (hpl i),⟨?_⟩⟩
 intro ρ S H L σ Q rel rl gd
 refine r1.run rel rl ((Good.bind gd).imp λws S1 ρ1 H1 e1 q1 g1 vs rs=>?_)
 have h:=hf (E:=E0) q1 rs g1
 dsimp only
 rw[show vs++[]=vs from jw vs]
 exact h
theorem BM {ρ:Rho} {H:Hp} {S:Sto} {w:W} {v:V} {n m:Str} (rel:Rel K G ρ H S) (r:RV K G ρ H w v) (h:LP S m w=some n):∃ a dx fs,v = .ref a/\H a=some (.ins (G n) dx fs)/\fs.lookup m=none:=by
 have none_of:∀ {fs:List (Str × V)},m ∉ fs.map (·.1)->fs.lookup m=none:=by
  intro fs
  induction fs with
  | nil=>intro _;rfl
  | cons p fs ih=>
   intro hn
   rw[jn,qo,not_or] at hn
   obtain⟨k,u⟩:=p
   rw[Qh]
   have:(m == k)=false:=by simpa using hn.1
   rw[this]
   exact ih hn.2
 unfold LP at h
 split at h
 ·split at h
  ·cases h
  ·rename_i hm
   cases h
   cases r with
   | obj h1 o c f l r=>
    refine⟨_,_,_,rfl,h1,none_of λz=>hm ?_⟩
    obtain⟨p,hp,rfl⟩:=jc.mp z
    exact(Qk (a:=p.1) (b:=p.2) hp).1
 ·split at h
  ·rename_i hs
   split at h
   ·cases h
   ·rename_i hm
    cases h
    cases r with
    | ref e=>
     obtain⟨dx,vs,h1,cl,nf,r⟩:=rel.ref e hs
     refine⟨_,_,_,rfl,h1,none_of λz=>hm ?_⟩
     obtain⟨us,rfl,r2⟩:=IF r
     obtain⟨p,hp,rfl⟩:=jc.mp z
     have:=(Qk (a:=p.1) (b:=p.2) hp).1
     simpa using this
  ·cases h
 ·cases h
theorem J2 {n m:Str} {pl:ι->Sem Bool} (cl:Cls K (G n)) (cx:Ctx c K) (hM:∀ i,Meth (c i).K (G n) m f) (F:∀ i,FnOk (c i).prog (c i).w (c i).K (c i).mg (c i).base CX0 k f fd ps sp) (hf:OkF K G sp fM) (hr:∀ i,Room k (c i).A) (hb:∀ i,Binds (c i).K fd ps []) (ho:QE c K G X a ma) (ha:QA c K G X (e :: es) ms)
  (hst:∀ i,starEach (e :: es) (c i).env=(false,eval e (c i).env) :: starEach es (c i).env:=by exact λ_=>rfl) (hpl:∀ i,(backTo pos (starEach es (c i).env)).any (·.1)=false:=by exact λ_=>rfl)
  (ht:∀ i,eval (.Call (.Attribute a m apos) (e :: es) [] pos) (c i).env=(do
   let ov <- eval a (c i).env
   standAt apos.atName
   let (f,first) <- holding [ov] (getMethod ov m (pl i))
   callWith pos f first (backTo pos (starEach (e :: es) (c i).env)) (backToKw pos (keywordEach [] (c i).env))):=by exact λ_=>rfl) :
  QE c K G X (.Call (.Attribute a m apos) (e :: es) [] pos) (PL n m fM ma ms):=by
 obtain⟨t,p1,r1⟩:=ho.ex
 obtain⟨u,p2,r2⟩:=ha.ex
 refine⟨tMeth (G n) m sp [] E0 t u,λi=>pe_meth (pl:=pl i) (p1 i) (cx.kK i ▸ cl) (hM i) (F i) (hr i) (hb i) .nil pass0 (p2 i) (hst i) (hpl i) (ht i),⟨?_⟩⟩
 intro ρ S H L σ Q rel rl gd
 refine r1.run rel rl ((Good.bind gd).imp λw S1 ρ1 H1 e1 q1 g1 v rv=>?_)
 have g2:=g1.bind
 unfold BQ at g2
 split at g2
 ·rename_i hc
  obtain⟨a',dx,fs,rfl,h1,h2⟩:=BM q1 rv hc
  refine⟨a',dx,fs,rfl,h1,h2,r2.run q1 (rl.mono e1) ((g2.ok q1).bind.imp λws S2 ρ2 H2 e2 q2 g3 vs rs=>?_)⟩
  have h:=hf (E:=E0) q2 (.cons (rv.mono e2) rs) g3
  dsimp only
  rw[show vs++[]=vs from jw vs]
  exact h
 ·exact g2.elim
theorem oZ {n m:Str} {pl:ι->Sem Bool} (cl:Cls K (G n)) (cx:Ctx c K) (hM:∀ i,Meth (c i).K (G n) m f) (F:∀ i,FnOk (c i).prog (c i).w (c i).K (c i).mg (c i).base CX0 k f fd ps sp) (hf:OkF K G sp fM) (hr:∀ i,Room k (c i).A) (hb:∀ i,Binds (c i).K fd ps []) (ho:QE c K G X a ma)
  (ht:∀ i,eval (.Call (.Attribute a m apos) [] [] pos) (c i).env=(do
   let ov <- eval a (c i).env
   standAt apos.atName
   let (f,first) <- holding [ov] (getMethod ov m (pl i))
   callWith pos f first (backTo pos (starEach [] (c i).env)) (backToKw pos (keywordEach [] (c i).env))):=by exact λ_=>rfl) :
  QE c K G X (.Call (.Attribute a m apos) [] [] pos) (PL n m fM ma JN):=by
 obtain⟨t,p1,r1⟩:=ho.ex
 refine⟨tMeth (G n) m sp [] E0 t tNil,λi=>pe_meth0 (pl:=pl i) (p1 i) (cx.kK i ▸ cl) (hM i) (F i) (hr i) (hb i) .nil pass0 (ht i),⟨?_⟩⟩
 intro ρ S H L σ Q rel rl gd
 refine r1.run rel rl ((Good.bind gd).imp λw S1 ρ1 H1 e1 q1 g1 v rv=>?_)
 have g2:=g1.bind
 unfold BQ at g2
 split at g2
 ·rename_i hc
  obtain⟨a',dx,fs,rfl,h1,h2⟩:=BM q1 rv hc
  refine⟨a',dx,fs,rfl,h1,h2,?_⟩
  exact hf (E:=E0) q1 (.cons rv .nil) ((g2.ok q1).bind.ok q1)
 ·exact g2.elim
end
end
end Mi
namespace Mi
open PySem PySem.Spec
open PyProof.Rows L2 Cp
noncomputable section
def chk (ty:Sto->W->Bool) (x:W):M Unit:=λS=>if ty S x=true then some (.ok (),S) else none
def mBM (ty:Sto->W->Bool) (f:W->List W->M W) (o:Lo->M W) (a:Lo->M (List W)):Lo->M W:=λL=>(o L).bind λx=>(chk ty x).bind λ_=>(a L).bind λws=>f x ws
def oX (S:Sto) (w:W):Bool:=(fA S w).isSome
def eF (S:Sto):W->Bool
 | .str _=>true
 | _=>false
def jY (S:Sto):W->Bool
 | .dk _ _=>true
 | .dt _ _=>true
 | .ref n=>match S[n]? with
  | some (.dk _)=>true
  | some (.dt _)=>true
  | _=>false
 | _=>false
def wL (n:Nat) (S:Sto) (f:List W->Option (W × List W)):Option (Res W × Sto):=match S[n]? with
 | some (.lst xs)=>match f xs with
  | some (w,ys)=>some (.ok w,S.set n (.lst ys))
  | none=>none
 | _=>none
def O4:W->List W->M W:=λx ws S=>match x,ws with
 | .ref n,[y]=>wL n S λxs=>if xs.length < lim then some (.non,xs++[y]) else none
 | _,_=>none
def KJ:W->List W->M W:=λx ws S=>match x,ws with
 | .ref n,[y]=>match fA S y with
  | some ys=>wL n S λxs=>if xs.length+ys.length<=lim then some (.non,xs++ys) else none
  | none=>none
 | _,_=>none
def QR:W->List W->M W:=λx ws S=>match x,ws with
 | .ref n,[.int i]=>wL n S λxs=>if -(2 ^ 63)<=i/\i < 2 ^ 63 then match seqIndex? i xs.length with
  | some k=>xs[k]?.map λy=>(y,xs.eraseIdx k)
  | none=>none
  else none
 | _,_=>none
def w8:List W->Option (List Str)
 | []=>some []
 | .str z :: r=>(w8 r).map (z :: ·)
 | _=>none
def sX (d k e:Lo->M W):Lo->M W:=λL=>(d L).bind λx=>(chk jY x).bind λ_=>(k L).bind λy=>(e L).bind λz S=>gL ((qW S x y).map λo=>o.getD z) S
structure OkM (K:qk) (G:Str->Addr) (T:String) (r:V->List V->Hp->VK->Prop) (ty:Sto->W->Bool) (f:W->List W->M W):Prop where
 ty:∀ {ρ:Rho} {S:Sto} {H:Hp} {x:W} {vx:V},Rel K G ρ H S->RV K G ρ H x vx->ty S x=true->tyV K T vx H
 run:∀ {X:W->Rho->Hp->Prop} {ρ:Rho} {S:Sto} {H:Hp} {x:W} {vx:V} {ws:List W} {vs:List V} {Q:VK},Rel K G ρ H S->RV K G ρ H x vx->RVs K G ρ H ws vs->Good K G X ρ H (f x ws S) (KL K G Q)->r vx vs H Q
section
variable {ι:Type} {c:ι->Cx} {K:qk} {G:Str->Addr} {X:W->Rho->Hp->Prop} {e a b d o tg:Expr} {es:List Expr} {pos p pos' apos cpos:Pos} {m ma mb md:Lo->M W} {ms:Lo->M (List W)} {name:Str} {T id:String} {r:V->List V->Hp->VK->Prop} {ty:Sto->W->Bool} {f:W->List W->M W}
theorem b8 {ρ:Rho} {H:Hp} {S:Sto} {x:W} {k:Unit->Sto->Rho->Hp->Prop} (gd:Good K G X ρ H (chk ty x S) k):ty S x=true/\Good K G X ρ H (some (.ok (),S)) k:=by
 unfold chk at gd
 split at gd
 ·rename_i h
  exact⟨h,gd⟩
 ·exact gd.elim
theorem XM (own:PlainAttrs T) (at_:Slot T name id) (kind:typeOf (.builtin id)=pure (.type "method_descriptor")) (does:∀ i,MtR (c i) id r) (ok:OkM K G T r ty f) (cx:Ctx c K) (ho:QE c K G X o ma) (ha:QA c K G X (e :: es) ms)
  (stands:∀ i,attributeBase o name (c i).env (eval o (c i).env)=eval o (c i).env:=by exact λ_=>rfl)
  (few:∀ i,((backTo cpos (starEach (e :: es) (c i).env)).all (λx=>!x.1) && (backToKw cpos (keywordEach [] (c i).env)).all (λx=>x.1.isSome) && decide ((e :: es).length+([]:List Keyword).length+(if ([]:List Keyword).isEmpty then 0 else 1) < 30))=true:=by exact λ_=>rfl)
  (row:(apos.endLine == cpos.line)=true:=by rfl) (each:∀ i,starEach (e :: es) (c i).env=(false,eval e (c i).env) :: starEach es (c i).env:=by exact λ_=>rfl) (single:∀ i,(backTo cpos (starEach es (c i).env)).any (·.1)=false:=by exact λ_=>rfl) :
  QE c K G X (.Call (.Attribute o name apos) (e :: es) [] cpos) (mBM ty f ma ms):=by
 obtain⟨t,p1,r1⟩:=ho.ex
 obtain⟨u,p2,r2⟩:=ha.ex
 refine⟨tBM K T r t u,λi=>tC0 own at_ kind (does i) (p1 i) (p2 i) (stands i) (few i) row (each i) (single i) (cx.kK i),⟨?_⟩⟩
 intro ρ S H L σ Q rel rl gd
 refine r1.run rel rl ((Good.bind gd).imp λx S1 ρ1 H1 e1 q1 g1 vx rx=>?_)
 obtain⟨ht,g2⟩:=b8 g1.bind
 refine⟨ok.ty q1 rx ht,r2.run q1 (rl.mono e1) ((g2.ok q1).bind.imp λws S2 ρ2 H2 e2 q2 g3 vs rs=>?_)⟩
 exact ok.run q2 (rx.mono e2) rs g3
theorem U1 {ρ:Rho} {S:Sto} {H:Hp} {x:W} {vx:V} (rel:Rel K G ρ H S) (rx:RV K G ρ H x vx) (h:oX S x=true):tyV K "list" vx H:=by
 unfold oX at h
 obtain⟨xs,hs⟩:=Option.isSome_iff_exists.mp h
 obtain⟨p,vs,rfl,hp,_⟩:=pX rel rx hs
 exact tyL hp
theorem iN {ρ:Rho} {S:Sto} {H:Hp} {n:Nat} {vx:V} {fl:List W->Option (W × List W)} {Q:VK} (rel:Rel K G ρ H S) (rx:RV K G ρ H (.ref n) vx) (gd:Good K G X ρ H (wL n S fl) (KL K G Q)) :
  ∃ l xs vs w ys,vx = .ref l/\H l=some (.lst vs)/\RVs K G ρ H xs vs/\fl xs=some (w,ys)/\∀ v us,(∀ {ρ1 H1},Ext ρ H ρ1 H1->RV K G ρ1 H1 w v)->RVs K G ρ H ys us->Q v (upd H l (.lst us)):=by
 unfold wL at gd
 split at gd
 ·rename_i xs hs
  split at gd
  ·rename_i w ys hf
   cases rx with
   | ref e=>
    obtain⟨vs,h1,r⟩:=rel.ref e hs
    refine⟨_,xs,vs,w,ys,rfl,h1,r,hf,λv us hv ru=>?_⟩
    obtain⟨ee,rr⟩:=rel.set (o:=.lst ys) e (λ_ ne=>upd_ne ne) λee=>⟨us,upd_same,ru.mono ee⟩
    exact gd _ _ ee rr v (hv ee)
  ·exact gd.elim
 ·exact gd.elim
theorem RB:OkM K G "list" rAppend oX O4:=⟨U1,by
 intro X ρ S H x vx ws vs Q rel rx rs gd
 unfold O4 at gd
 split at gd
 ·obtain⟨l,xs,us,w,ys,rfl,h1,r,hf,k⟩:=iN rel rx gd
  obtain⟨v,rfl,rv⟩:=rs.one
  split at hf
  ·rename_i hl
   cases hf
   exact⟨l,us,v,rfl,rfl,h1,jz (by rw[<- r.length];exact hl) (by decide:lim<=sizeLine),k _ _ (λ_=>.non) (r.append (.cons rv .nil))⟩
  ·cases hf
 ·exact gd.elim⟩
theorem AB:OkM K G "list" rExtend oX KJ:=⟨U1,by
 intro X ρ S H x vx ws vs Q rel rx rs gd
 unfold KJ at gd
 split at gd
 ·split at gd
  ·rename_i ys hy
   obtain⟨l,xs,us,w,zs,rfl,h1,r,hf,k⟩:=iN rel rx gd
   obtain⟨v,rfl,rv⟩:=rs.one
   obtain⟨p,vy,rfl,hp,ry⟩:=pX rel rv hy
   split at hf
   ·rename_i hl
    cases hf
    exact⟨l,p,us,vy,rfl,rfl,h1,hp,tS (by rw[<- r.length,<- ry.length];exact hl),k _ _ (λ_=>.non) (r.append ry)⟩
   ·cases hf
  ·exact gd.elim
 ·exact gd.elim⟩
theorem RVs.dropLast {ρ:Rho} {H:Hp} {ws:List W} {vs:List V} (r:RVs K G ρ H ws vs):RVs K G ρ H ws.dropLast vs.dropLast:=by
 rw[List.dropLast_eq_take,List.dropLast_eq_take,r.length]
 exact r.take _
theorem RVs.eraseIdx {ρ:Rho} {H:Hp} {ws:List W} {vs:List V} (r:RVs K G ρ H ws vs) (k:Nat):RVs K G ρ H (ws.eraseIdx k) (vs.eraseIdx k):=by
 rw[List.eraseIdx_eq_take_drop_succ,List.eraseIdx_eq_take_drop_succ]
 exact(r.take _).append (r.drop _)
theorem zZ:OkM K G "list" rPopAt oX QR:=⟨U1,by
 intro X ρ S H x vx ws vs Q rel rx rs gd
 unfold QR at gd
 split at gd
 ·obtain⟨l,xs,us,w,ys,rfl,h1,r,hf,k⟩:=iN rel rx gd
  obtain⟨vi,rfl,ri⟩:=rs.one
  cases ri
  split at hf
  ·rename_i hi
   split at hf
   ·rename_i j hj
    obtain⟨y,hy,e⟩:=qm.mp hf
    cases e
    obtain⟨v,h2,rv⟩:=r.get hy
    rw[r.length] at hj
    exact⟨l,us,_,j,v,rfl,rfl,h1,hi.1,hi.2,hj,h2,k _ _ (λe=>rv.mono e) (r.eraseIdx j)⟩
   ·cases hf
  ·cases hf
 ·exact gd.elim⟩
theorem R4C {ρ:Rho} {S:Sto} {H:Hp} {x:W} {vx:V} (rel:Rel K G ρ H S) (rx:RV K G ρ H x vx) (h:eF S x=true):tyV K "str" vx H:=by
 cases rx <;> first|rfl|(simp [eF] at h)
theorem ZL {ρ:Rho} {H:Hp}:∀ {ws:List W} {zs:List Str} {vs:List V},w8 ws=some zs->RVs K G ρ H ws vs->vs=zs.map V.str
 | [],_,_,h,r=>by cases r;simp only[w8] at h;cases h;rfl
 | w :: ws,zs,vs,h,r=>by
  cases w with
  | str z=>
   simp only[w8] at h
   obtain⟨Us,h2,rfl⟩:=qm.mp h
   cases r with
   | cons h1 r=>
    cases h1
    rw[ZL h2 r]
    rfl
  | _=>simp [w8] at h
theorem e8 {ρ:Rho} {S:Sto} {H:Hp} {x:W} {vx:V} (rel:Rel K G ρ H S) (rx:RV K G ρ H x vx) (h:jY S x=true):∃ a,vx = .ref a/\IsD H a:=by
 unfold jY at h
 split at h
 ·cases rx with
  | dk h1 n l r=>exact⟨_,rfl,.inl ⟨_,.inl h1⟩⟩
 ·cases rx with
  | dt h1 n l r=>exact⟨_,rfl,.inr ⟨_,.inl h1⟩⟩
 ·cases rx with
  | ref e=>
   split at h
   ·rename_i hs
    obtain⟨vs,h1,r⟩:=rel.ref e hs
    exact⟨_,rfl,.inl ⟨_,.inl h1⟩⟩
   ·rename_i hs
    obtain⟨vs,h1,r⟩:=rel.ref e hs
    exact⟨_,rfl,.inr ⟨_,.inl h1⟩⟩
   ·cases h
 ·cases h
theorem J0O (cx:Ctx c K) (ho:QE c K G X o ma) (he:QE c K G X e mb) (hd:QE c K G X d md) (mm:∀ i,M2 (c i) o "get" apos e d cpos):QE c K G X (.Call (.Attribute o "get" apos) [e,d] [] cpos) (sX ma mb md):=by
 obtain⟨t,p1,r1⟩:=ho.ex
 obtain⟨u,p2,r2⟩:=he.ex
 obtain⟨u3,p3,r3⟩:=hd.ex
 refine⟨tDGet2 t u u3,λi=>pe_dget2 (by have:=cx.un i;omega) (p1 i) (p2 i) (p3 i) (mm i),⟨?_⟩⟩
 intro ρ S H L σ Q rel rl gd
 refine r1.run rel rl ((Good.bind gd).imp λx S1 ρ1 H1 e1 q1 g1 vx rx=>?_)
 obtain⟨ht,g2⟩:=b8 g1.bind
 obtain⟨a,rfl,hd⟩:=e8 q1 rx ht
 refine⟨a,rfl,hd,r2.run q1 (rl.mono e1) ((g2.ok q1).bind.imp λy S2 ρ2 H2 e2 q2 g3 vy ry=>?_)⟩
 refine r3.run q2 ((rl.mono e1).mono e2) (g3.bind.imp λz S3 ρ3 H3 e3 q3 g4 vz rz=>?_)
 obtain⟨w,hw,g5⟩:=Good.lift (o:=(qW S3 x y).map λo=>o.getD z) g4
 obtain⟨ow,ho,rfl⟩:=qm.mp hw
 obtain⟨a',o',e4,h1,h2,_⟩:=i7 q3 ((rx.mono e2).mono e3) (ry.mono e3) ho
 cases e4
 refine⟨o',h1,?_⟩
 rcases h2 with⟨rfl,rfl⟩|⟨w',v,rfl,rfl,r⟩
 ·exact g5.fin q3 rz
 ·exact g5.fin q3 r
end
end
end Mi
namespace Mi
open PySem PySem.Spec
open PyProof.Rows L2 Cp
section
variable {ι:Type} {c:ι->Cx} {K:qk} {G:Str->Addr}
theorem Ctx.add (cx:Ctx c K) (i:ι):OpR (c i) (binaryOp .Add) (G2 K):=rO1 (cx.kK i)
theorem Ctx.eq (cx:Ctx c K) (i:ι):OpR (c i) (compareOp .Eq) (gM K):=kEq (by have:=cx.un i;omega) (cx.kK i)
theorem Ctx.ne (cx:Ctx c K) (i:ι):OpR (c i) (compareOp .NotEq) (lE K):=kNe (by have:=cx.un i;omega) (cx.kK i)
theorem Ctx.in_ (cx:Ctx c K) (i:ι):OpR (c i) (compareOp .In) (NXp K):=kIn (cx.un i) (cx.kK i)
theorem Ctx.notIn (cx:Ctx c K) (i:ι):OpR (c i) (compareOp .NotIn) (E4 K):=v9Z (cx.un i) (cx.kK i)
theorem Ctx.len (cx:Ctx c K) (i:ι):CallR (c i) (.builtin "len") (Cp.rLen K):=nN9 (cx.kK i)
theorem Ctx.isi (cx:Ctx c K) (i:ι):CallR (c i) (.builtin "isinstance") (eY K):=mI7 (cx.kK i)
theorem Ctx.all (cx:Ctx c K) (i:ι):CallR (c i) (.builtin "all") (rAll K):=MZI (cx.calm i) (cx.kK i)
theorem Ctx.any (cx:Ctx c K) (i:ι):CallR (c i) (.builtin "any") (rAny K):=GML (cx.calm i) (cx.kK i)
theorem Ctx.list (cx:Ctx c K) (i:ι):CallR (c i) (.type "list") (SU K):=e3y (cx.kK i)
theorem Ctx.tuple (cx:Ctx c K) (i:ι):CallR (c i) (.type "tuple") (P9 K):=zHC (cx.kK i)
theorem Ctx.min2 (cx:Ctx c K) (i:ι):CallR (c i) (.builtin "min") FLs:=k4g (cx.calm i)
theorem Ctx.join (cx:Ctx c K) (i:ι):MtR (c i) "str.join" (dRv K):=b1Y (cx.kK i)
end
end Mi
namespace Mi
open PySem PySem.Spec
open PyProof.Rows L2 Cp
noncomputable section
def N1 (p:Sto->Prop) (g:W->Lo->M Lo) (t:Lo->M Bool) (it1:Lo->M Itm) (g1:W->Lo->M Lo) (t1:Lo->M Bool) (e:Lo->M W) (vs vs1:List Nat) (L:Lo):List W->List W->M (List W)
 | [],acc=>(JL p).bind λ_=>M.ret acc
 | x :: xs,acc=>(JL p).bind λ_=>(g x (YW L vs)).bind λL'=>(t L').bind λk=>if k then(it1 L').bind λI=>(GH I.live g1 t1 e vs1 L' I.items acc).bind λacc'=>N1 p g t it1 g1 t1 e vs vs1 L xs acc' else N1 p g t it1 g1 t1 e vs vs1 L xs acc
def YZ (f:List W->M W) (it:Lo->M Itm) (g:W->Lo->M Lo) (t:Lo->M Bool) (it1:Lo->M Itm) (g1:W->Lo->M Lo) (t1:Lo->M Bool) (e:Lo->M W) (vs vs1:List Nat):Lo->M W:=λL=>(it L).bind λI=>(N1 I.live g t it1 g1 t1 e vs vs1 L I.items []).bind f
section
variable {ι:Type} {c:ι->Cx} {K:qk} {G:Str->Addr} {X:W->Rho->Hp->Prop} {tg tg1:Expr} {pos:Pos} {ma:Lo->M W} {ka kb:Lo->M Bool} {i:Nat} {y:Str} {ws us:List Nat} {g g1:W->Lo->M Lo} {it it1:Lo->M Itm} {α β γ:Type}
theorem cC (m:M α) (f:α->M β) (h:β->M γ) (S:Sto):M.bind (M.bind m f) h S=M.bind m (λa=>M.bind (f a) h) S:=by
 unfold M.bind
 cases m S with
 | none=>rfl
 | some p=>obtain⟨p,S'⟩:=p;cases p <;> rfl
theorem UXo {f:List W->M W} {t:TG} {tt:TT} {te:TE} {vs:List Nat} {J:It} {I:Itm} {ρ ρ1:Rho} {H H1:Hp} {S1:Sto} {D:Addr} {acc:List W} {vacc:List V} {L:Lo} {σ:L2.St} {Q:VK} {Out:Hp->Prop} (hg:RGt K G X t ws g) (ht:RT K G X tt ka) (he:RE K G X te ma) (sub:∀ i ∈ ws,i ∈ vs) (hD:H D=none)
  (w:Way K G ρ H D ρ1 H1 S1) (hd:H1 D=some (.lst vacc)) (racc:RVs K G ρ1 H1 acc vacc) (rl:RL K G ρ1 H1 L σ) (hJ:uIq K G J I ρ1 H1) (gd:Good K G X ρ H (M.bind (GH I.live g ka ma vs L I.items acc) f S1) (KL K G Q))
  (out:∀ ρc Hc Sc acc' vacc',Re ρ1 H1 ρc Hc->Way K G ρ H D ρc Hc Sc->Hc D=some (.lst vacc')->RVs K G ρc Hc acc' vacc'->Good K G X ρ H (f acc' Sc) (KL K G Q)->Out Hc):f7L J t tt te vs σ D H1 Out:=by
 refine⟨λi m Hc=>m=I.items.length - i/\i<=I.items.length/\∃ ρc Sc acc vacc,Re ρ1 H1 ρc Hc/\Way K G ρ H D ρc Hc Sc/\Hc D=some (.lst vacc)/\RVs K G ρc Hc acc vacc/\Good K G X ρ H (M.bind (GH I.live g ka ma vs L (I.items.drop i) acc) f Sc) (KL K G Q),⟨I.items.length,by simp,jf _,ρ1,S1,acc,vacc,.refl,w,hd,racc,gd⟩,?_⟩
 clear w hd racc gd
 rintro i m Hc ⟨rfl,hi',ρc,Sc,acc,vacc,ec,w,hd,racc,gc⟩
 rcases yb hi' with lt|rfl
 ·obtain⟨x,hx⟩:∃ x,I.items[i]? = some x:=⟨I.items[i],qz lt⟩
  have ex:I.items[i]=x:=by
   rw[qz lt] at hx
   exact Option.some.inj hx
  rw[zi lt,ex] at gc
  unfold GH at gc
  rw[cC] at gc
  obtain⟨lv,g2⟩:=WP (Good.bindB gc w.ext)
  obtain⟨_,hit⟩:=hJ ρc Hc Sc ec w.rel lv
  obtain⟨go,yl⟩:=hit i x hx
  have g3:=g2.ok w.rel
  rw[cC] at g3
  refine .inr ⟨go,λH2=>∃ ρc Sc acc vacc,Re ρ1 H1 ρc H2/\Way K G ρ H D ρc H2 Sc/\H2 D=some (.lst vacc)/\RVs K G ρc H2 acc vacc/\Good K G X ρ H (M.bind (GH I.live g ka ma vs L (I.items.drop (i+1)) acc) f Sc) (KL K G Q),λH2 q=>⟨I.items.length - (i+1),by omega,rfl,lt,q⟩,λv H2 yv=>?_⟩
  obtain⟨sm,rv⟩:=yl v H2 yv
  have w2:=w.go (.same sm) (w.rel.same sm) (by rw[hd];simp)
  have hd2:=sm _ _ hd
  have racc2:=racc.mono (.same sm)
  have ec2:=ec.trans (Ext.same (ρ:=ρc) sm).re
  have rl2:RL K G ρc H2 (YW L vs) (wipe σ vs):=RL.wipe ⟨rl.1,λi w h=>by
   obtain⟨v,h1,h2⟩:=rl.2 i w h
   exact⟨v,h1,h2.re ec2⟩⟩ vs
  refine hg.run w2.rel rl2 rv ((Good.bindB g3 w2.ext).imp λL' S3 ρ3 H3 e3 r3 g4 σ3 rl3 on3=>?_)
  have w3:=w2.go e3 r3 (by rw[hd2];simp)
  have hd3:=w2.keep e3 hd2
  have racc3:=racc2.mono e3
  have ec3:=ec2.trans e3.re
  refine⟨(T9 on3 sub).trans xT,ht.run w3.rel rl3 ?_⟩
  rw[cC] at g4
  refine(Good.bindB g4 w3.ext).imp λk S4 ρ4 H4 e4 r4 g5=>?_
  have w4:=w3.go e4 r4 (by rw[hd3];simp)
  have hd4:=w3.keep e4 hd3
  have racc4:=racc3.mono e4
  have ec4:=ec3.trans e4.re
  cases k with
  | false=>exact⟨ρ4,S4,acc,vacc,ec4,w4,hd4,racc4,g5⟩
  | true=>
   simp only[if_true] at g5 ⊢
   rw[cC] at g5
   refine he.run w4.rel (rl3.mono e4) ((Good.bindB g5 w4.ext).imp λy S5 ρ5 H5 e5 r5 g6 vy ry=>?_)
   have w5:=w4.go e5 r5 (by rw[hd4];simp)
   have hd5:=w4.keep e5 hd4
   have racc5:=racc4.mono e5
   split at g6
   ·rename_i hl
    have b6:But D H5 (upd H5 D (.lst (vacc++[vy]))):=λ_ ne=>upd_ne ne
    have re6:Re ρ5 H5 ρ5 (upd H5 D (.lst (vacc++[vy]))):=.but b6 w5.b (by rw[hd5];simp) (by rw[hd5];simp)
    exact⟨vacc,hd5,jz (by rw[<- racc5.length];exact hl) (by decide:lim<=sizeLine),ρ5,S5,acc++[y],vacc++[vy],(ec4.trans e5.re).trans re6,w5.set b6 hD (by rw[hd5];simp) (by rw[upd_same];simp),upd_same,(racc5.re re6).append (.cons (ry.re re6) .nil),g6⟩
   ·exact g6.elim
 ·rw[yi] at gc
  unfold GH at gc
  rw[cC] at gc
  obtain⟨lv,g2⟩:=WP (Good.bindB gc w.ext)
  exact .inl ⟨(hJ ρc Hc Sc ec w.rel lv).1,out ρc Hc Sc acc vacc ec w hd racc (g2.ok w.rel)⟩
theorem RL.re {ρ ρ1:Rho} {H H1:Hp} {L:Lo} {σ:L2.St} (r:RL K G ρ H L σ) (k:Re ρ H ρ1 H1):RL K G ρ1 H1 L σ:=⟨r.1,λi w h=>by
 obtain⟨v,h1,h2⟩:=r.2 i w h
 exact⟨v,h1,h2.re k⟩⟩
theorem RI.lc2 {f:List W->M W} {wi wi1:TI} {t u:TG} {tt tu:TT} {te:TE} {vs vs1:List Nat} (fin:y5 K G f) (hi:RI K G X wi it) (hg:RGt K G X t ws g) (ht:RT K G X tt ka) (hi1:RI K G X wi1 it1) (hg1:RGt K G X u us g1) (ht1:RT K G X tu kb) (he:RE K G X te ma) (sub:∀ i ∈ ws,i ∈ vs) (sub1:∀ i ∈ us,i ∈ vs1) :
  RE K G X (tLc2 wi t tt wi1 u tu te vs vs1) (YZ f it g ka it1 g1 kb ma vs vs1):=⟨by
 intro ρ S H L σ Q rel rl gd
 refine hi.run rel rl ((Good.bind gd).imp λI S1 ρ1 H1 e1 r1 gI J hJ=>?_)
 intro D hD
 have sD:=T5 (o:=.lst []) hD
 refine⟨λi m Hc=>m=I.items.length - i/\i<=I.items.length/\∃ ρc Sc acc vacc,Re ρ1 H1 ρc Hc/\Way K G ρ1 H1 D ρc Hc Sc/\Hc D=some (.lst vacc)/\RVs K G ρc Hc acc vacc/\Good K G X ρ1 H1 (M.bind (N1 I.live g ka it1 g1 kb ma vs vs1 L (I.items.drop i) acc) f Sc) (KL K G Q),⟨I.items.length,by simp,jf _,_,S1,[],[],(Ext.block sD hD).re,.start r1 sD hD (by rw[upd_same];simp),upd_same,.nil,gI⟩,?_⟩
 rintro i m Hc ⟨rfl,hi',ρc,Sc,acc,vacc,ec,w,hd,racc,gc⟩
 rcases yb hi' with lt|rfl
 ·obtain⟨x,hx⟩:∃ x,I.items[i]? = some x:=⟨I.items[i],qz lt⟩
  have ex:I.items[i]=x:=by
   rw[qz lt] at hx
   exact Option.some.inj hx
  rw[zi lt,ex] at gc
  unfold N1 at gc
  rw[cC] at gc
  obtain⟨lv,g2⟩:=WP (Good.bindB gc w.ext)
  obtain⟨_,hit⟩:=hJ ρc Hc Sc ec w.rel lv
  obtain⟨go,yl⟩:=hit i x hx
  have g3:=g2.ok w.rel
  rw[cC] at g3
  refine .inr ⟨go,λH2=>∃ ρc Sc acc vacc,Re ρ1 H1 ρc H2/\Way K G ρ1 H1 D ρc H2 Sc/\H2 D=some (.lst vacc)/\RVs K G ρc H2 acc vacc/\Good K G X ρ1 H1 (M.bind (N1 I.live g ka it1 g1 kb ma vs vs1 L (I.items.drop (i+1)) acc) f Sc) (KL K G Q),λH2 q=>⟨I.items.length - (i+1),by omega,rfl,lt,q⟩,λv H2 yv=>?_⟩
  obtain⟨sm,rv⟩:=yl v H2 yv
  have w2:=w.go (.same sm) (w.rel.same sm) (by rw[hd];simp)
  have hd2:=sm _ _ hd
  have racc2:=racc.mono (.same sm)
  have ec2:=ec.trans (Ext.same (ρ:=ρc) sm).re
  have rl2:RL K G ρc H2 (YW L vs) (wipe σ vs):=RL.wipe ((rl.mono e1).re ec2) vs
  refine hg.run w2.rel rl2 rv ((Good.bindB g3 w2.ext).imp λL' S3 ρ3 H3 e3 r3 g4 σ3 rl3 on3=>?_)
  have w3:=w2.go e3 r3 (by rw[hd2];simp)
  have hd3:=w2.keep e3 hd2
  have racc3:=racc2.mono e3
  have ec3:=ec2.trans e3.re
  refine⟨(T9 on3 sub).trans xT,ht.run w3.rel rl3 ?_⟩
  rw[cC] at g4
  refine(Good.bindB g4 w3.ext).imp λk S4 ρ4 H4 e4 r4 g5=>?_
  have w4:=w3.go e4 r4 (by rw[hd3];simp)
  have hd4:=w3.keep e4 hd3
  have racc4:=racc3.mono e4
  have ec4:=ec3.trans e4.re
  cases k with
  | false=>exact⟨ρ4,S4,acc,vacc,ec4,w4,hd4,racc4,g5⟩
  | true=>
   simp only[if_true] at g5 ⊢
   rw[cC] at g5
   refine hi1.run w4.rel (rl3.mono e4) ((Good.bindB g5 w4.ext).imp λI1 S5 ρ5 H5 e5 r5 g6 J1 hJ1=>?_)
   have w5:=w4.go e5 r5 (by rw[hd4];simp)
   have hd5:=w4.keep e5 hd4
   have racc5:=racc4.mono e5
   rw[cC] at g6
   exact UXo hg1 ht1 he sub1 hD w5 hd5 racc5 ((rl3.mono e4).mono e5) hJ1 g6 λρ6 H6 S6 acc' vacc' ec6 w6 hd6 racc6 g7=>⟨ρ6,S6,acc',vacc',(ec4.trans e5.re).trans ec6,w6,hd6,racc6,g7⟩
 ·rw[yi] at gc
  unfold N1 at gc
  rw[cC] at gc
  obtain⟨lv,g2⟩:=WP (Good.bindB gc w.ext)
  exact .inl ⟨(hJ ρc Hc Sc ec w.rel lv).1,fin r1 hD w hd racc (g2.ok w.rel)⟩⟩
theorem MTB {f:List W->M W} {iter iter1 elt:Expr} {ifs ifs1:List Expr} {scope:Scope} {own:List (Str × Nat)} {vs1:List Nat} (fin:y5 K G f) (cx:Ctx c K) (nd:∀ q,(c q).N.Nodup) (hi:QI c K G X tg iter it) (ok:∀ q,BlkOk (c q).N (c q).env.scope scope own) (hv:∀ i ∈ vs1,i ∈ own.map (·.2))
  (hg:QG (blk c scope) K G X tg ws g) (ht:QTs (blk c scope) K G X ifs ka) (hi1:QI (blk c scope) K G X tg1 iter1 it1) (hg1:QG (blk c scope) K G X tg1 us g1) (ht1:QTs (blk c scope) K G X ifs1 kb) (he:QE (blk c scope) K G X elt ma) (sub:∀ i ∈ ws,i ∈ own.map (·.2)) (sub1:∀ i ∈ us,i ∈ vs1)
  (h:∀ (q:ι) wi t tt wi1 u tu te,PI (c q) tg iter wi->(∀ s H C cl fp,PG (blk c scope (q,s,H,C,cl,fp)) tg t)->(∀ s H C cl fp,PTs (blk c scope (q,s,H,C,cl,fp)) ifs tt)->(∀ s H C cl fp,PI (blk c scope (q,s,H,C,cl,fp)) tg1 iter1 wi1)->(∀ s H C cl fp,PG (blk c scope (q,s,H,C,cl,fp)) tg1 u)->(∀ s H C cl fp,PTs (blk c scope (q,s,H,C,cl,fp)) ifs1 tu)->(∀ s H C cl fp,PE (blk c scope (q,s,H,C,cl,fp)) elt te) ->
   PE (c q) (.ListComp elt [⟨tg,iter,ifs,0⟩,⟨tg1,iter1,ifs1,0⟩] scope pos) (tLc2 wi t tt wi1 u tu te (own.map (·.2)) vs1)) :
  QE c K G X (.ListComp elt [⟨tg,iter,ifs,0⟩,⟨tg1,iter1,ifs1,0⟩] scope pos) (YZ f it g ka it1 g1 kb ma (own.map (·.2)) vs1):=by
 obtain⟨wi,p1,r1⟩:=hi.ex
 obtain⟨t,p2,r2⟩:=hg.ex
 obtain⟨tt,p3,r3⟩:=ht.ex
 obtain⟨wi1,p4,r4⟩:=hi1.ex
 obtain⟨u,p5,r5⟩:=hg1.ex
 obtain⟨tu,p6,r6⟩:=ht1.ex
 obtain⟨te,p7,r7⟩:=he.ex
 exact⟨_,λq=>h q _ _ _ _ _ _ _ (p1 q) (λs H C cl fp=>p2 _) (λs H C cl fp=>p3 _) (λs H C cl fp=>p4 _) (λs H C cl fp=>p5 _) (λs H C cl fp=>p6 _) (λs H C cl fp=>p7 _),r1.lc2 fin r2 r3 r4 r5 r6 r7 sub sub1⟩
end
end
end Mi
namespace Mi
open PySem PySem.Spec
open PyProof.Rows L2 Cp
def MV (acc:List Str) (z:Str):List Str:=if z ∈ acc then acc else acc++[z]
def WA (zs:List Str):List Str:=zs.foldl MV []
theorem W7 (zs:List Str) (z:Str):WA (zs++[z])=MV (WA zs) z:=by simp [WA,List.foldl_append]
theorem aE {acc:List Str} {z k:Str}:k ∈ MV acc z ↔ k ∈ acc \/ k=z:=by
 unfold MV
 split
 ·rename_i h
  constructor
  ·exact .inl
  ·rintro(q|rfl)
   ·exact q
   ·exact h
 ·simp
theorem VS (zs:List Str):(WA zs).length<=zs.length:=by
 have aux:∀ (zs acc:List Str),(zs.foldl MV acc).length<=acc.length+zs.length:=by
  intro zs
  induction zs with
  | nil=>intro acc;simp
  | cons z zs ih=>
   intro acc
   have h1:=ih (MV acc z)
   have h2:(MV acc z).length<=acc.length+1:=by
    unfold MV
    split <;> simp
   simp only[List.foldl_cons,qs]
   omega
 have:=aux zs []
 simp only[jh,yj] at this
 exact this
theorem GW {zs:List Str} (h:zs.Nodup):WA zs=zs:=by
 have aux:∀ (zs acc:List Str),(acc++zs).Nodup->zs.foldl MV acc=acc++zs:=by
  intro zs
  induction zs with
  | nil=>intro acc _;simp
  | cons z zs ih=>
   intro acc hn
   have hz:z ∉ acc:=λm=>by
    have:=zv.mp hn
    exact this.2.2 z m z qw rfl
   rw[List.foldl_cons]
   have e:MV acc z=acc++[z]:=by unfold MV;rw[if_neg hz]
   rw[e,ih (acc++[z]) (by rw[ye];exact hn),ye]
   rfl
 have:=aux zs [] (by simpa using h)
 simp only[jv] at this
 exact this
def Holds (P:Program) (w:World) (S:Addr) (zs:List Str) (i:Nat) (h:Heap):Prop:=h.SetOf (PySem.strKind P w) S (λk=>decide (k ∈ WA (zs.take i))) (WA (zs.take i)).length
section
variable {prog:Program} {w:World} {A:Around} {R:Result->Shared->Prop} {it S:Addr} {fp wr:List Addr} {Gs:Array GenState->Array GenState->Prop} {zs:List Str} {Yl:Nat->Value->Prop} {St:Nat->Shared->Prop}
theorem Holds.moved {s s':Shared} {i:Nat} (h:Holds prog w S zs i s.heap) (m:Moved wr Gs s s') (off:S ∉ wr):Holds prog w S zs i s'.heap:=by
 obtain⟨o,es,ep,tb,there,more⟩:=h
 exact⟨o,es,ep,tb,m.heap S _ off there,more⟩
theorem xY (walk:WalksS prog w A.in1 it fp wr Gs zs.length Yl St) (off:S ∉ fp) (text:∀ i v,Yl i v->∃ t,v = .str (zs.getD i Str.empty) t) (few:zs.length+1 < scanBound) :
  ∀ (left i:Nat) (s:Shared),i+left=zs.length->St i s->Holds prog w S zs i s.heap->(∀ s',Moved (S :: wr) Gs s s'->Holds prog w S zs zs.length s'.heap->R (.ok (.ret .none)) s') ->
   codeAny (model prog w) A (.builtin "set.update.loop" ⟨[.ref S,.ref it],[]⟩) R s
 | 0,i,s,count,st,holds,end_=>by
  obtain rfl:i=zs.length:=by omega
  apply codeAny_builtin PyProof.Rows.F.entry_set_update_loop
  rw[Around.under_plainId PyProof.Rows.F.plain_set_update_loop _]
  apply wpAny_bind
  apply walk.done s _ _ st
  intro s1 moved
  have offw:S ∉ wr:=λz=>off (walk.sub S z)
  have big:Moved (S :: wr) Gs s s1:=moved.mono λb hb=>qy S hb
  exact wpAny_pure (end_ s1 big (holds.moved moved offw))
 | left+1,i,s,count,st,holds,end_=>by
  have lt:i < zs.length:=by omega
  apply codeAny_builtin PyProof.Rows.F.entry_set_update_loop
  rw[Around.under_plainId PyProof.Rows.F.plain_set_update_loop _]
  apply wpAny_bind
  apply walk.item i s _ _ lt st
  intro v s1 hv st1 moved
  have offw:S ∉ wr:=λz=>off (walk.sub S z)
  have holds1:=holds.moved moved offw
  obtain⟨t,rfl⟩:=text i v hv
  have ez:zs.take (i+1)=zs.take i++[zs.getD i Str.empty]:=by
   rw[List.take_add_one,qz lt,List.getD_eq_getElem?_getD,qz lt]
   rfl
  generalize hz:zs.getD i Str.empty=z at ez ⊢
  have room:(WA (zs.take i)).length+1 < scanBound:=by
   have h1:=VS (zs.take i)
   rw[zy] at h1
   omega
  apply wpAny_bind
  apply wpAny_holding
  unfold setAdd
  apply wpAny_holding
  apply wpAny_bind
  apply (PySem.strKind prog w).pyHash (k:=z) (strKind_is _ _ _ _)
  apply wpAny_setAddHashed_of (knd:=PySem.strKind prog w) (s:={ s1 with toks:=s1.toks+1 }) (strKind_is _ _ _ _) rfl holds1 room
  intro h2 but holds2
  have holds3:Holds prog w S zs (i+1) h2:=by
   unfold Holds
   rw[ez,W7]
   refine PyProof.Rows.SetOf_congr holds2 (λk=>?_) ?_
   ·rw[Bool.eq_iff_iff]
    simp [aE]
   ·unfold MV
    by_cases m:z ∈ WA (zs.take i)
    ·rw[if_pos m,if_pos (by simpa using m)]
    ·rw[if_neg m,if_neg (by simpa using m),qr]
     rfl
  have st2:St (i+1) { s1 with heap:=h2,toks:=s1.toks+1 }:=walk.frame _ s1 _ _ st1 (Nat.le_succ _) λb hb o e=>(but.2 b λz=>off (z ▸ hb)).trans e
  refine wpAny_pure ⟨plainId_quiet PyProof.Rows.F.plain_set_update_loop _,xY walk off text few left (i+1) _ qh st2 holds3 λs3 moved3 holds4=>?_⟩
  have first:Moved (S :: wr) Gs s { s1 with heap:=h2,toks:=s1.toks+1 }:=(moved.mono λb hb=>qy S hb).then_heap (Nat.le_succ _) λb o hb e=>(but.2 b λz=>hb (z ▸ qw)).trans e
  exact end_ s3 (Moved.trans walk.gtrans first moved3) holds4
end
section
variable {prog:Program} {w:World} {A:Around} {E:Value->Shared->Prop} {s:Shared}
abbrev bare (led:Bool):Obj:={ cls:=.type "set",dict:=none,data:=.set #[] 0 (.fresh 0 0 led) }
theorem YF {us:List Value} {zs:List Str} (h:StrsAre us zs):∀ (i:Nat) (v:Value),us[i]? = some v->∃ t,v = .str (zs.getD i Str.empty) t:=SS.strs_at h
theorem Z9 {l:Addr} {items:Array Value} {zs:List Str} {led:Bool} (OS:A.in1.in1.in1.handled=none) (lst:s.heap.IsList l items) (texts:StrsAre items.toList zs) (few:zs.length+1 < scanBound) {R:Result->Shared->Prop}
  (done:∀ h' tk,Holds prog w s.heap.objs.size zs zs.length h'->(∀ b o,s.heap.get? b=some o->h'.get? b=some o)->R (.ok (.ret .none)) { s with heap:=h',toks:=tk }) :
  codeAny (model prog w) A.in1.in1 (.builtin "set.update.loop" ⟨[.ref s.heap.objs.size,.ref (s.heap.push (bare led)).objs.size],[]⟩) R { s with heap:=(s.heap.push (bare led)).push { cls:=.type "list_iterator",data:=.fields #[.ref l,.int 0 0] } }:=by
 have lt:l < s.heap.objs.size:=by
  obtain⟨o,there,_⟩:=id lst
  exact Heap.lt_size there
 have sz:(s.heap.push (bare led)).objs.size=s.heap.objs.size+1:=Heap.size_push ..
 have ne:l ≠ (s.heap.push (bare led)).objs.size:=by rw[sz];exact zj (Nat.lt_succ_of_lt lt)
 have count:items.size=zs.length:=by rw[<- Array.length_toList];exact StrsAre.len_eq texts
 have walk:=(Walks.list (prog:=prog) (w:=w) OS (s.heap.push (bare led)).objs.size l ne items).toS
 rw[count] at walk
 refine xY walk ?_ (λi v hv=>YF texts i v (by rw[Array.getElem?_toList];exact hv)) few zs.length 0 _ qh ⟨⟨_,Heap.get?_push_size _ rfl,rfl,rfl⟩,(lst.push _).push _⟩ ?_ ?_
 ·rw[sz]
  simp only[qo,qu,or_false,not_or]
  exact⟨zj (Nat.lt_succ_self _),Nat.ne_of_gt lt⟩
 ·have there:((s.heap.push (bare led)).push { cls:=.type "list_iterator",data:=.fields #[.ref l,.int 0 0] }).get? s.heap.objs.size=some (bare led):=Heap.get?_push_of_some _ (Heap.get?_push_size _ rfl)
  exact PyProof.Rows.SetOf_congr ((PyProof.Rows.setObjOf_fresh (knd:=PySem.strKind prog w) led).setOf there (by unfold scanBound;omega)) (λk=>by simp [WA]) rfl
 ·rintro⟨h',g',d',tk,os'⟩ moved holds
  obtain rfl:g'=s.gens:=moved.gens
  obtain rfl:d'=s.drawn:=moved.drawn
  obtain rfl:os'=s.os:=moved.os
  refine done h' tk holds λb o e=>?_
  have hb:=Heap.lt_size e
  refine moved.heap b o ?_ (Heap.get?_push_of_some _ (Heap.get?_push_of_some _ e))
  rw[sz]
  simp only[qo,qu,or_false,not_or]
  exact⟨zj hb,zj (Nat.lt_succ_of_lt hb)⟩
set_option maxHeartbeats 3200000 in
theorem PP {l:Addr} {items:Array Value} {zs:List Str} {Q:Value->Shared->Prop} (OS:A.handled=none) (lst:s.heap.IsList l items) (texts:StrsAre items.toList zs) (few:zs.length+1 < scanBound)
  (done:∀ h' tk,Holds prog w s.heap.objs.size zs zs.length h'->(∀ b o,s.heap.get? b=some o->h'.get? b=some o)->Q (.ref s.heap.objs.size) { s with heap:=h',toks:=tk }):wpAny (model prog w) A (call (.type "set") [.ref l]) Q E s:=by
 obtain⟨c,tl,hmro⟩:=zr.mro
 have made:=zr.made
 have sub:=zr.sub
 apply wpAny_call
 apply codeAny_of_tree
 show wpAny _ _ (callAny (.type "set") _) _ _ _
 refine wpAny_pure ⟨Code.quiet_builtin _ qf,codeAny_builtin PySem.F.entry_type_call ?_⟩
 rw[Around.under_plain (weight_type_call_type "set" [.ref l] []) rfl]
 have no1:=zr.notType
 have can:=zr.canCreate
 have checked:=PySem.F.typeCall_set_1 (.ref l)
 repeat (any_goals (first|assumption|wp_step))
 apply codeAny_mono (code_set_new_1 (.ref l) (E:=E) (Q₁:=λobj s1=>∃ led:Bool,obj = .ref s.heap.objs.size/\s1 = { s with heap:=s.heap.push (bare led) }) λled=>⟨led,rfl,rfl⟩)
 rintro(raised|fl) s1 got
 ·exact got
 rcases fl with _ | _ | _|obj
 all_goals first|exact got.elim|skip
 obtain⟨led,rfl,rfl⟩:=got
 have there:(s.heap.push (bare led)).get? s.heap.objs.size=some (bare led):=Heap.get?_push_size _ rfl
 have kind:Shared.TypeIs { s with heap:=s.heap.push (bare led) } (.ref s.heap.objs.size) "set" := ⟨_,there,rfl⟩
 have look:=zr.init.lookup
 have bind:=zr.init.bind (.ref s.heap.objs.size)
 repeat (any_goals (first|assumption|wp_step))
 apply codeAny_mono (codeAny_call_builtin (R:=wants (λr s2=>r = .none/\∃ h' tk,s2 = { s with heap:=h',toks:=tk }/\Holds prog w s.heap.objs.size zs zs.length h'/\∀ b o,s.heap.get? b=some o->h'.get? b=some o) E) zr.init.plain PySem.F.entry_set_init (check_set_init_1 kind ?_))
 ·rintro(raised|fl) s2 got
  ·exact got
  rcases fl with _ | _ | _|obj
  all_goals first|exact got.elim|skip
  obtain⟨rfl,h',tk,rfl,holds,keep⟩:=got
  repeat (any_goals (first|assumption|wp_step))
  exact done h' tk holds keep
 ·have lst0:=lst
  obtain⟨⟨ocls,odict,odata,oslots⟩,hol,hcl,nl,hdl⟩:=lst
  simp only at hcl hdl
  subst hcl hdl
  have hol1:(s.heap.push (bare led)).get? l=some { cls:=.type "list",dict:=odict,data:=.seq items nl,slots:=oslots }:=Heap.get?_push_of_some _ hol
  have sub1:=PySem.F.sub_list_set
  have sub2:=PySem.F.sub_list_frozenset
  have nod:(Value.type "list" == Value.type "dict")=false:=by decide
  have lst1:(s.heap.push (bare led)).IsList l items:=lst0.push _
  unfold Builtin.«set.__init__» noKeywords Builtin.Frozenset.updateFrom
  generalize hPI:pyIter=PI
  wp_walk
  subst hPI
  apply wpAny_pyIter_list lst1
  apply wpAny_bind
  apply wpAny_runValue
  refine Z9 (led:=led) (by simp [OS]) lst0 texts few λh' tk holds keep=>?_
  show wpAny _ _ _ _ _ _
  apply wpAny_pure
  show wpAny _ _ (ret Value.none) _ _ _
  exact wpAny_pure ⟨rfl,h',tk,rfl,holds,keep⟩
end
end Mi
namespace Mi
open PySem PySem.Spec
open PyProof.Rows L2 Cp
def OB (K:qk) (ta:TE):TE:=λσ H Q=>ta σ H λx H1=>∃ l,∃ zs:List Str,x = .ref l/\SqL K H1 l (zs.map V.str)/\zs.length<=1000/\Q (.int (WA zs).length) H1
theorem IA {X:Cx} {a:Expr} {ta:TE} {p p2 q pos:Pos} (calm:X.calm=true) (gl:Gl X "len") (hm:X.mg "len" = none) (gl2:Gl X "set") (hm2:X.mg "set" = none) (ha:PE X a ta) (one:starEach [a] X.env=(false,eval a X.env) :: starEach [] X.env:=by rfl) :
  PE X (.Call (.Name "len" p) [.Call (.Name "set" p2) [a] [] q] [] pos) (OB X.K ta):=by
 constructor
 intro pins s σ H Q I h
 refine Call_ (ld_blt I gl hm boot_len ?_)
 refine PyProof.Rows.callWith_builtin1 (PyProof.Rows.args_cons ?_ rfl) rfl rfl
 refine Call_ (ld_blt I gl2 hm2 boot_set ?_)
 refine PyProof.Rows.callWith_type1 (PyProof.Rows.args_cons (thn (ha.run pins s σ H _ I h) ?_) one) one rfl
 rintro v s1 ⟨x,H1,I1,r1,l,zs,rfl,seq,few,goal⟩
 obtain rfl:v = .ref l:=r1
 apply PyProof.Rows.args_nil
 obtain⟨its,rv,pl,_⟩:=I1.list seq
 refine PP (I1.ok.hd calm) pl.isList (by simpa using strsAre_of rv) (jy (Nat.succ_le_succ few) (by unfold scanBound;decide)) λh' tk holds keep=>?_
 apply PyProof.Rows.args_nil
 obtain⟨o,es,ep,t,there,exact_,dat,_,_,_,fits,num⟩:=holds
 rw[List.take_length] at num
 have small:=VS zs
 have I2:Inv X pins σ H1 { s1 with heap:=h',toks:=tk }:=I1.kept keep
 exact call_len_set there exact_ dat fits (by rw[num];omega) ⟨.int (WA zs).length,H1,I2.tok _,⟨_,by rw[num]⟩,goal⟩
def sZ (a:Lo->M W):Lo->M W:=λL=>(a L).bind λw S=>match (fA S w).bind w8 with
 | some zs=>if zs.length<=1000 then some (.ok (.int (WA zs).length),S) else none
 | none=>none
theorem BF {ι:Type} {c:ι->Cx} {K:qk} {G:Str->Addr} {X:W->Rho->Hp->Prop} {a:Expr} {ma:Lo->M W} {p p2 q pos:Pos} (cx:Ctx c K) (gl:∀ i,Gl (c i) "len") (hm:∀ i,(c i).mg "len" = none) (gl2:∀ i,Gl (c i) "set") (hm2:∀ i,(c i).mg "set" = none) (ha:QE c K G X a ma)
  (one:∀ i,starEach [a] (c i).env=(false,eval a (c i).env) :: starEach [] (c i).env:=by exact λ_=>rfl):QE c K G X (.Call (.Name "len" p) [.Call (.Name "set" p2) [a] [] q] [] pos) (sZ ma):=by
 obtain⟨t,p1,r1⟩:=ha.ex
 refine⟨OB K t,λi=>cx.kK i ▸ IA (cx.calm i) (gl i) (hm i) (gl2 i) (hm2 i) (p1 i) (one i),⟨?_⟩⟩
 intro ρ S H L σ Q rel rl gd
 refine r1.run rel rl ((Good.bind gd).imp λw S1 ρ1 H1 e1 q1 g1 v rv=>?_)
 split at g1
 ·rename_i zs hz
  split at g1
  ·rename_i few
   obtain⟨xs,h1,h2⟩:=jF.mp hz
   obtain⟨l,vs,rfl,hp,r⟩:=pX q1 rv h1
   rw[ZL h2 r] at hp
   exact⟨l,zs,rfl,SqL.of hp,few,g1.fin q1 (.int _)⟩
  ·exact g1.elim
 ·exact g1.elim
end Mi
namespace Mi
open PySem PySem.Spec
open PyProof.Rows L2
def gE (place:Pos) (src:Value) (goal:Expr) (asks:List Expr) (here:Env) (work:Sem Fin) (then_:Code):Sem Fin:=do
 standAt place
 match <- pyNext src with
 | none=>pure (.done .next)
 | some got=>
  letOwnedTupleGo goal src got
  assign goal here got
  let mut yes:=true
  for q in asks do
   if yes then yes <- isTrue q here (eval q here)
  if yes then work else again then_
structure Knows (σ τ:L2.St):Prop where
 len:σ.length=τ.length
 at_:∀ (j:Nat) (v:V),σ[j]? = some (some v)->τ[j]? = some (some v)
theorem Knows.wiped {σ τ:L2.St} {vs:List Nat} (e:wipe τ vs=wipe σ vs):Knows (wipe σ vs) τ:=⟨by rw[<- e,wipe_length],λj v h=>by
 rw[<- e] at h
 exact(wipe_some h).1⟩
theorem Knows.trans {σ τ υ:L2.St} (h:Knows σ τ) (k:Knows τ υ):Knows σ υ:=⟨h.len.trans k.len,λj v e=>k.at_ j v (h.at_ j v e)⟩
section
variable {Y:Cx} {pins:List (Addr × Obj)} {σ0:L2.St} {kx vx tg:Expr} {gens:List Comprehension} {scope:Scope} {npos:Pos} {k:Nat} {src:Addr} {acc:Value} {ifs:List Expr} {place:Pos} {work:Sem Fin} {fp:List Addr} {tn:Nat->Heap->Prop} {J:It} {g:TG} {tt:TT} {R:Result->Shared->Prop}
 {Wd:Nat->Nat->Hp->Prop} {Out:Hp->Prop} {Bt:L2.St->Hp->(Hp->Prop)->Prop}
theorem nY (form:compTurn (.DictComp kx vx gens scope npos) k (.ref src) acc Y.env=gE place (.ref src) tg ifs Y.env work (.compLoop (.DictComp kx vx gens scope npos) k (.ref src) acc Y.env)) (calm:Y.calm=true) (nox:Y.xe=λ_ _=>False) (T:Turn Y.prog Y.w Y.K tg J fp src tn) (pg:PG Y tg g) (pt:PTs Y ifs tt)
  (free:∀ H:Hp,(∀ b ∈ fp,H b=none)->∀ b ∈ fp,FpOk Y pins H b)
  (turn:∀ i m H,Wd i m H->(J.stop i H/\Out H) \/ (J.go i H/\∃ Nx:Hp->Prop,(∀ H',Nx H'->∃ m',m' < m/\Wd (i+1) m' H')/\∀ x H',J.yld i H x H'->g x σ0 H' λσ2 H2=>Knows σ0 σ2/\tt σ2 H2 λb H3=>if b=true then Bt σ2 H3 Nx else Nx H3))
  (body:∀ pins2 σ2 H3 s3 Nx,Inv Y (pins++pins2) σ2 H3 s3->Knows σ0 σ2->Bt σ2 H3 Nx->wpAny (model Y.prog Y.w) Y.A work (λfin s4=>fin = .again (.compLoop (.DictComp kx vx gens scope npos) k (.ref src) acc Y.env)/\∃ σ4 H4,Inv Y (pins++pins2) σ4 H4 s4/\Knows σ0 σ4/\Nx H4) (λ_ _=>False) s3)
  (stops:∀ H s,Inv Y pins σ0 H s->Out H->R (.ok .next) s) {m i:Nat} {H:Hp} {s:Shared} (inv:Inv Y pins σ0 H s) (st:tn i s.heap) (none_:∀ b ∈ fp,H b=none) (w0:Wd i m H) :
  codeAny (model Y.prog Y.w) Y.A (.compLoop (.DictComp kx vx gens scope npos) k (.ref src) acc Y.env) R s:=by
 apply codeAny_loop rfl (λn s'=>∃ i H',Inv Y pins σ0 H' s'/\tn i s'.heap/\(∀ b ∈ fp,H' b=none)/\Wd i n H') ?_ m ⟨i,H,inv,st,none_,w0⟩
 clear inv st none_ w0 H s i m
 rintro n s ⟨i,H,inv,st,none_,w⟩
 show wpAny _ Y.A ((compTurn (.DictComp kx vx gens scope npos) k (.ref src) acc Y.env).onRaise (λx=>do noteFrame x Y.env;theTreesLotGoes x)) _ _ s
 apply wpAny_noted
 rw[form]
 unfold gE
 apply wpAny_bind
 apply wpAny_standAt
 apply wpAny_bind
 rcases turn i n H w with⟨stop,out⟩|⟨go,Nx,less,step⟩
 ·refine thnF (T.done Y rfl rfl rfl calm i pins s σ0 H (λ_ _=>False) inv (free H none_) st stop) ?_
  rintro r s1 ⟨rfl,inv1⟩
  exact wpAny_pure (stops H s1 inv1 out)
 ·refine thnF (T.item Y rfl rfl rfl calm i pins s σ0 H (λ_ _=>False) inv (free H none_) st go) ?_
  rintro r s1 ⟨u,rfl,had⟩
  apply wpAny_bind
  refine thnF had ?_
  rintro _ s2 ⟨x,H2,inv2,rx,y2,st2,none2⟩
  have pinned:=inv2.pinned (free H2 none2) (T.obj _ _ st2)
  apply wpAny_bind
  have bound:=pg.run _ s2 _ H2 x u _ pinned rx (step x H2 y2)
  rw[nox] at bound
  refine thnF bound ?_
  rintro _ s3 ⟨σ3,H3,inv3,kn,xZ8⟩
  apply wpAny_bind
  have tests:=pt.run _ s3 σ3 H3 _ inv3 xZ8
  rw[nox] at tests
  refine thnF tests ?_
  rintro b s4 ⟨H4,inv4,q4⟩
  have close:∀ {σ5:L2.St} {H5:Hp} {s5:Shared},Inv Y (pins++pinsAt fp s2.heap) σ5 H5 s5->Knows σ0 σ5->Nx H5->∃ m,m < n/\∃ i H',Inv Y pins σ0 H' s5/\tn i s5.heap/\(∀ b ∈ fp,H' b=none)/\Wd i m H':=by
   intro σ5 H5 s5 inv5 kn5 nx
   obtain⟨m',lt,w'⟩:=less H5 nx
   have there:∀ b ∈ fp,∀ o,s2.heap.get? b=some o->s5.heap.get? b=some o/\H5 b=none:=by
    intro b hb o e
    obtain⟨z1,z2,_⟩:=inv5.pin (b,o) (ym _ (ym _ (mem_pinsAt hb e)))
    exact⟨z1,z2⟩
   refine⟨m',lt,i+1,H5,inv5.unpinned.weak kn5.len kn5.at_,T.keep _ _ _ st2 (λb hb o e=>(there b hb o e).1),?_,w'⟩
   intro b hb
   obtain⟨o,e,_⟩:=T.obj _ _ st2 b hb
   exact(there b hb o e).2
  cases b with
  | false=>
   rw[if_neg qg] at q4
   exact wpAny_pure ⟨rfl,close inv4 kn q4⟩
  | true=>
   rw[if_pos rfl] at q4
   refine thnF (body _ σ3 H4 s4 Nx inv4 kn q4) ?_
   rintro _ s5 ⟨rfl,σ5,H5,inv5,kn5,nx⟩
   exact⟨rfl,close inv5 kn5 nx⟩
end
def InD (J1:It) (g1:TG) (tt1:TT) (tk tv:TE) (vs1:List Nat) (σ2:L2.St) (D:Addr) (H4:Hp) (Out:Hp->Prop):Prop:=∃ W1:Nat->Nat->Hp->Prop,(∃ m,W1 0 m H4)/\∀ j k H,W1 j k H ->
 (J1.stop j H/\Out H) \/ (J1.go j H/\∃ Nx1:Hp->Prop,(∀ H',Nx1 H'->∃ k',k' < k/\W1 (j+1) k' H')/\∀ x H',J1.yld j H x H'->g1 x (wipe σ2 vs1) H' λσ3 H5=>Knows (wipe σ2 vs1) σ3/\tt1 σ3 H5 λb H6=>
  if b=true then tk σ3 H6 λy H7=>tv σ3 H7 λz H8=>∃ kvs key,y=kV key/\H8 D=some (.dK kvs)/\kvs.length < sizeLine/\Nx1 (upd H8 D (.dK (putK kvs key z))) else Nx1 H6)
def d5j (wi:TI) (g:TG) (tt:TT) (wi1:TI) (g1:TG) (tt1:TT) (tk tv:TE) (vs vs1:List Nat):TE:=λσ H Q=>wi σ H λJ H1=>∀ D,H1 D=none->∃ Wd:Nat->Nat->Hp->Prop,(∃ m,Wd 0 m (upd H1 D (.dK [])))/\∀ i m H,Wd i m H ->
 (J.stop i H/\Q (.ref D) H) \/ (J.go i H/\∃ Nx:Hp->Prop,(∀ H',Nx H'->∃ m',m' < m/\Wd (i+1) m' H')/\∀ x H',J.yld i H x H'->g x (wipe σ vs) H' λσ2 H2=>Knows (wipe σ vs) σ2/\tt σ2 H2 λb H3=>
  if b=true then wi1 σ2 H3 λJ1 H4=>InD J1 g1 tt1 tk tv vs1 σ2 D H4 Nx else Nx H3)
section
variable {kx vx t0 t1 i0 i1:Expr} {q0 q1:List Expr} {scope:Scope} {npos:Pos}
def UX (kx vx t0 t1 i0 i1:Expr) (q0 q1:List Expr) (scope:Scope) (npos:Pos) (src:Value) (D:Addr) (here:Env):Sem Fin:=do
 let xs <- eval i1 here
 standAt i1.pos
 let xs <- foldedSetIterable i1 here xs
 let _ <- runOwn (.compStart (.DictComp kx vx [⟨t0,i0,q0,0⟩,⟨t1,i1,q1,0⟩] scope npos) 1 (<- holding [xs] (pyIter xs)) (.ref D) here) here
 again (.compLoop (.DictComp kx vx [⟨t0,i0,q0,0⟩,⟨t1,i1,q1,0⟩] scope npos) 0 src (.ref D) here)
def oE (kx vx t0 t1 i0 i1:Expr) (q0 q1:List Expr) (scope:Scope) (npos:Pos) (src:Value) (D:Addr) (here:Env):Sem Fin:=do
 (do
  let key <- eval kx here
  let val <- holding [key] (eval vx here)
  standAt { kx.pos with endLine:=vx.pos.endLine,endCol:=vx.pos.endCol }
  holding [key,val] (dictSet D key val))
 again (.compLoop (.DictComp kx vx [⟨t0,i0,q0,0⟩,⟨t1,i1,q1,0⟩] scope npos) 1 src (.ref D) here)
theorem pZ (D:Addr) (src:Value) (here:Env):compTurn (.DictComp kx vx [⟨t0,i0,q0,0⟩,⟨t1,i1,q1,0⟩] scope npos) 0 src (.ref D) here =
  gE i0.pos src t0 q0 here (UX kx vx t0 t1 i0 i1 q0 q1 scope npos src D here) (.compLoop (.DictComp kx vx [⟨t0,i0,q0,0⟩,⟨t1,i1,q1,0⟩] scope npos) 0 src (.ref D) here):=by rfl
theorem kX (D:Addr) (src:Value) (here:Env):compTurn (.DictComp kx vx [⟨t0,i0,q0,0⟩,⟨t1,i1,q1,0⟩] scope npos) 1 src (.ref D) here =
  gE i1.pos src t1 q1 here (oE kx vx t0 t1 i0 i1 q0 q1 scope npos src D here) (.compLoop (.DictComp kx vx [⟨t0,i0,q0,0⟩,⟨t1,i1,q1,0⟩] scope npos) 1 src (.ref D) here):=by rfl
variable {prog:Program} {w:World} {A:Around} {R:Result->Shared->Prop} {s:Shared} {src acc:Value} {here:Env}
theorem LV (once:codeAny (model prog w) A (.compLoop (.DictComp kx vx [⟨t0,i0,q0,0⟩,⟨t1,i1,q1,0⟩] scope npos) 1 src acc here) R s)
  (twice:wpAny (model prog w) A (pyIter src) (λu s'=>codeAny (model prog w) A (.compLoop (.DictComp kx vx [⟨t0,i0,q0,0⟩,⟨t1,i1,q1,0⟩] scope npos) 1 u acc here) R s') (notedBy (model prog w) A here λx s'=>R (.error x) s') s) :
  codeAny (model prog w) A (.compStart (.DictComp kx vx [⟨t0,i0,q0,0⟩,⟨t1,i1,q1,0⟩] scope npos) 1 src acc here) R s:=by
 apply codeAny_of_tree
 show wpAny _ _ ((compStart (.DictComp kx vx [⟨t0,i0,q0,0⟩,⟨t1,i1,q1,0⟩] scope npos) 1 src acc here).onRaise (λx=>do noteFrame x here;standAt theWindowsPlace)) _ _ s
 apply wpAny_notedAt
 unfold compStart
 show wpAny _ _ (ask >>= _) _ _ s
 apply wpAny_bind
 apply wpAny_askSetting
 apply wpAny_ite
 split
 ·first
   | exact wpAny_pure ⟨rfl,once⟩
   | exact wpAny_bind (wpAny_pure (wpAny_pure ⟨rfl,once⟩))
 ·apply wpAny_bind
  apply wpAny_rule
  first
   | (apply wpAny_bind;apply wpAny_standAt;apply wpAny_bind;refine wpAny_mono twice (λu s1 got=>?_) (λ_ _ z=>z);exact wpAny_pure ⟨rfl,got⟩)
   | (show wpAny _ _ (standAt i1.pos >>= _) _ _ s;apply wpAny_bind;apply wpAny_standAt;apply wpAny_bind;refine wpAny_mono twice (λu s1 got=>?_) (λ_ _ z=>z);exact wpAny_pure ⟨rfl,got⟩)
end
theorem Knows.less {σ τ:L2.St} {vs us:List Nat} (k:Knows (wipe σ vs) τ) (sub:∀ i ∈ us,i ∈ vs):Knows (wipe σ vs) (wipe τ us):=⟨k.len.trans (wipe_length _ _).symm,λj v e=>by
 rw[wipe_out λm=>(wipe_some e).2 (sub j m)]
 exact k.at_ j v e⟩
structure nK (Z:Cx) (kx vx t0 t1 i1:Expr) (q0 q1:List Expr) (g:TG) (tt:TT) (wi1:TI) (g1:TG) (tt1:TT) (tk tv:TE):Prop where
 g0:PG Z t0 g
 q0:PTs Z q0 tt
 i1:PI Z t1 i1 wi1
 g1:PG Z t1 g1
 q1:PTs Z q1 tt1
 k:PE Z kx tk
 v:PE Z vx tv
section
variable {Z:Cx} {kx vx t0 t1 i0 i1:Expr} {q0 q1:List Expr} {scope:Scope} {npos:Pos} {g g1:TG} {tt tt1:TT} {wi wi1:TI} {tk tv:TE} {pins:List (Addr × Obj)} {σ σ0 σ2:L2.St} {H H3:Hp} {s s3:Shared} {D:Addr} {src:Value} {vs vs1:List Nat} {Nx:Hp->Prop}
theorem mF (nox:Z.xe=λ_ _=>False) (parts:nK Z kx vx t0 t1 i1 q0 q1 g tt wi1 g1 tt1 tk tv) (inv:Inv Z pins σ2 H3 s3) (kn:Knows σ0 σ2)
  (go:tk σ2 H3 λy H7=>tv σ2 H7 λz H8=>∃ kvs key,y=kV key/\H8 D=some (.dK kvs)/\kvs.length < sizeLine/\Nx (upd H8 D (.dK (putK kvs key z)))) :
  wpAny (model Z.prog Z.w) Z.A (oE kx vx t0 t1 i0 i1 q0 q1 scope npos src D Z.env) (λfin s4=>fin = .again (.compLoop (.DictComp kx vx [⟨t0,i0,q0,0⟩,⟨t1,i1,q1,0⟩] scope npos) 1 src (.ref D) Z.env)/\∃ σ4 H4,Inv Z pins σ4 H4 s4/\Knows σ0 σ4/\Nx H4) (λ_ _=>False) s3:=by
 unfold oE
 apply wpAny_bind
 apply wpAny_bind
 have first:=parts.k.run pins s3 σ2 H3 _ inv go
 rw[nox] at first
 refine thnF first ?_
 rintro ku s4 ⟨y,H4,inv4,ry,more⟩
 apply wpAny_bind
 apply wpAny_holding
 have second:=parts.v.run pins s4 σ2 H4 _ inv4 more
 rw[nox] at second
 refine thnF second ?_
 rintro vu s5 ⟨z,H5,inv5,rz,kvs,key,rfl,there,room,nx⟩
 apply wpAny_bind
 apply wpAny_standAt
 apply wpAny_holding
 refine d_dictSet inv5 there room ry rz ?_
 intro s6 inv6
 exact wpAny_pure ⟨rfl,σ2,_,inv6,kn,nx⟩
theorem uI (calm:Z.calm=true) (nox:Z.xe=λ_ _=>False) (parts:nK Z kx vx t0 t1 i1 q0 q1 g tt wi1 g1 tt1 tk tv) (plain:∀ env x,foldedSetIterable i1 env x=pure x) (inv:Inv Z pins σ2 H3 s3) (kn:Knows σ0 (wipe σ2 vs1))
  (go:wi1 σ2 H3 λJ1 H4=>InD J1 g1 tt1 tk tv vs1 σ2 D H4 Nx) :
  wpAny (model Z.prog Z.w) Z.A (UX kx vx t0 t1 i0 i1 q0 q1 scope npos src D Z.env) (λfin s4=>fin = .again (.compLoop (.DictComp kx vx [⟨t0,i0,q0,0⟩,⟨t1,i1,q1,0⟩] scope npos) 0 src (.ref D) Z.env)/\∃ σ4 H4,Inv Z pins σ4 H4 s4/\Knows σ0 σ4/\Nx H4) (λ_ _=>False) s3:=by
 unfold UX
 apply wpAny_bind
 have ev:=parts.i1.run pins s3 σ2 H3 _ inv go
 rw[nox] at ev
 refine thnF ev ?_
 intro xv s4 had
 apply wpAny_bind
 apply wpAny_standAt
 apply wpAny_bind
 rw[plain]
 apply wpAny_pure
 apply wpAny_bind
 apply wpAny_holding
 refine thnF had ?_
 rintro iv s5 ⟨it,fp,tn,J,H5,rfl,inv5,T,st,free,W1,⟨m,w0⟩,turn⟩
 apply wpAny_bind
 refine wpAny_runOwn ?_
 rw[Around.mark_none]
 have walk:codeAny (model Z.prog Z.w) Z.A (.compLoop (.DictComp kx vx [⟨t0,i0,q0,0⟩,⟨t1,i1,q1,0⟩] scope npos) 1 (.ref it) (.ref D) Z.env) (λr s'=>match r with | .ok _=>∃ σ4 H4,Inv Z pins σ4 H4 s'/\Knows σ0 σ4/\Nx H4 | .error _=>False) s5:=by
  refine nY (Bt:=λσ H N=>tk σ H λy H7=>tv σ H7 λz H8=>∃ kvs key,y=kV key/\H8 D=some (.dK kvs)/\kvs.length < sizeLine/\N (upd H8 D (.dK (putK kvs key z)))) (σ0:=wipe σ2 vs1) (Out:=Nx) (Wd:=W1) (kX D (.ref it) Z.env) calm nox T parts.g1 parts.q1 (λH none_ b hb=>⟨none_ b hb,(free b hb).2⟩) turn
   (λpins2 σ3 H6 s6 N inv6 k3 e=>mF nox parts inv6 k3 e) (λH s inv7 out=>⟨_,H,inv7,kn,out⟩) (inv5.weak (wipe_length _ _) λj v e=>(wipe_some e).1) st (λb hb=>(free b hb).1) w0
 refine codeAny_mono (LV walk (T.self Z.A 0 _ _ _ st walk)) ?_
 intro r s' got
 cases r with
 | error x=>exact got.elim
 | ok f=>
  first
   | exact wpAny_pure ⟨rfl,got⟩
   | exact wpAny_bind (wpAny_pure (wpAny_pure ⟨rfl,got⟩))
end
section
variable {X:Cx} {kx vx t0 t1 i0 i1:Expr} {q0 q1:List Expr} {scope:Scope} {npos at_:Pos} {g g1:TG} {tt tt1:TT} {wi wi1:TI} {tk tv:TE} {pins:List (Addr × Obj)} {σ:L2.St} {H:Hp} {s:Shared} {vs1:List Nat} {own:List (Str × Nat)} {use:Option (Value->Sem Unit)} {Last:Value->Shared->Prop} {Q:VK}
theorem zI (calm:X.calm=true) (nd:X.N.Nodup) (inv:Inv X pins σ H s) (source:PI X t0 i0 wi) (names:BlkOk X.N X.env.scope scope own) (sub:∀ i ∈ vs1,i ∈ own.map (·.2))
  (parts:∀ s H C cl fp,nK (X.blk s H scope (compEnvC scope cl C X.env) fp) kx vx t0 t1 i1 q0 q1 g tt wi1 g1 tt1 tk tv) (plain0:∀ x,foldedSetIterable i0 X.env x=pure x) (plain1:∀ env x,foldedSetIterable i1 env x=pure x)
  (want:d5j wi g tt wi1 g1 tt1 tk tv (own.map (·.2)) vs1 σ H Q)
  (rest:∀ D C s' m H',Inv X pins σ H' s'->Q (.ref D) H'->s'.heap.Ns C m->FpOk X pins H' C->compPost (model X.prog X.w) X.A X.xe use Last (.ref D) C (.ok .next) s') :
  wpAny (model X.prog X.w) X.A (comprehension (.DictComp kx vx [⟨t0,i0,q0,0⟩,⟨t1,i1,q1,0⟩] scope npos) scope X.env at_ newDict false (eval i0 X.env) use) Last X.xe s:=by
 have caught:∀ y ∈ scope.names,y.2 = .free->∃ c,X.env.cells.lookup y.1=some c:=by
  intro y mem free
  exact(names.free y mem free).elim (λk=>inv.ok.has _ (.inl k)) (λk=>inv.ok.has _ (.inr k))
 refine wpAny_comprehension_free (use:=use) rfl plain0 (closure_ok caught) names.kind (by intro y mem e;rw[names.uniq y mem,e]) ?_
 refine thn (source.run pins s σ H _ inv want) ?_
 intro xv s1 had
 refine thn had ?_
 rintro iv s2 ⟨it,fp,tn,J,H2,rfl,inv2,T,st2,free2,q⟩
 refine wpAny_newObj_type (newEnv_comp ?_)
 generalize eD:s2.heap.objs.size=D
 have new:H2 D=none:=inv2.hok.fresh (Qn eD)
 obtain⟨Wd,⟨m,w0⟩,turn⟩:=q D new
 have push:∀ b o,s2.heap.get? b=some o->(s2.heap.push { cls:=.type "dict",data:=.dict #[] }).get? b=some o:=λb o e=>Heap.get?_push_of_some _ e
 have laid:=inv2.laid (t':=s2.toks) (o:=.dK []) push (Qn eD) (by rw[<- eD];exact dk_empty s2.heap inv2.big)
 have small:∀ b ∈ fp,b < s2.heap.objs.size:=by
  intro b mem
  obtain⟨o,e,_⟩:=T.obj _ _ st2 b mem
  exact Heap.lt_size e
 have calm3:∀ b ∈ fp,FpOk X pins (upd H2 D (.dK [])) b/\b < (s2.heap.push { cls:=.type "dict",data:=.dict #[] }).objs.size:=by
  intro b mem
  have lt:=small b mem
  have ne:b ≠ D:=by
   rw[<- eD]
   exact zj lt
  rw[Heap.size_push]
  exact⟨⟨(upd_ne ne).trans (free2 b mem).1,(free2 b mem).2⟩,Nat.lt_succ_of_lt lt⟩
 have st3:=T.keep _ _ _ st2 (λb _ o e=>push b o e)
 generalize s2.heap.push { cls:=.type "dict",data:=.dict #[] }=h3 at laid calm3 st3 ⊢
 have begun:=block_start laid names nd calm3
 have inner:=parts { s2 with heap:=h3 } (upd H2 D (.dK [])) h3.objs.size (cellsFrom (h3.objs.size+1) scope.names (cloFrom X.env.cells scope.names [])) fp
 show codeAny _ _ (.compStart (.DictComp kx vx [⟨t0,i0,q0,0⟩,⟨t1,i1,q1,0⟩] scope npos) 0 (.ref it) (.ref D) (compEnvC scope (cellsFrom (h3.objs.size+1) scope.names (cloFrom X.env.cells scope.names [])) h3.objs.size X.env)) (compPost (model X.prog X.w) X.A X.xe use Last (.ref D) h3.objs.size) { s2 with heap:=pushCells (h3.push { cls:=.type "dict",data:=.dict #[] }) scope.names }
 have place:(compEnvC scope (cellsFrom (h3.objs.size+1) scope.names (cloFrom X.env.cells scope.names [])) h3.objs.size X.env).locals=h3.objs.size:=rfl
 generalize compEnvC scope (cellsFrom (h3.objs.size+1) scope.names (cloFrom X.env.cells scope.names [])) h3.objs.size X.env=ce at begun inner place ⊢
 have none3:∀ b ∈ fp,upd H2 D (.dK []) b=none:=λb mem=>(calm3 b mem).1.1
 generalize upd H2 D (.dK [])=H3 at laid begun inner w0 none3 calm3
 have st4:=T.keep _ _ _ st3 λb _ o e=>pushCells_keeps scope.names _ _ _ (Heap.get?_push_of_some { cls:=.type "dict",data:=.dict #[] } e)
 generalize pushCells (h3.push { cls:=.type "dict",data:=.dict #[] }) scope.names=h4 at begun st4 ⊢
 have runs:codeAny (model X.prog X.w) X.A (.compLoop (.DictComp kx vx [⟨t0,i0,q0,0⟩,⟨t1,i1,q1,0⟩] scope npos) 0 (.ref it) (.ref D) ce) (compPost (model X.prog X.w) X.A X.xe use Last (.ref D) h3.objs.size) { s2 with heap:=h4 }:=by
  refine nY (Y:=X.blk { s2 with heap:=h3 } H3 scope ce fp) (pins:=[]) (σ0:=wipe σ (own.map (·.2))) (Bt:=λσ2 H N=>wi1 σ2 H λJ1 H4=>InD J1 g1 tt1 tk tv vs1 σ2 D H4 N) (Out:=λH=>Q (.ref D) H) (Wd:=Wd) (pZ D (.ref it) ce) calm rfl T inner.g0 inner.q0 ?_ turn ?_ ?_ begun st4 none3 w0
  ·intro H none_ b mem
   refine⟨none_ b mem,(begun.ok.exf b mem).1,begun.ok.exfs b mem,.inl mem,λx c e=>(begun.ok.exf b mem).2 x c e,?_⟩
   intro p hp
   exact absurd (show p ∈ ([]:List (Addr × Obj))++[] from hp) (by simp)
  ·intro pins2 σ2 H5 s5 N inv5 kn e
   exact uI calm rfl inner plain1 inv5 (kn.less sub) e
  ·intro H5 s5 inv5 got
   have back:Inv X pins σ H5 s5:=laid.call' (ch:=fp) inv5.os inv5.base inv5.hok inv5.bare λb mem=>⟨(calm3 b mem).1.2.2.2.1,(calm3 b mem).1.2.1,(calm3 b mem).1.2.2.2.2.1,(calm3 b mem).1.2.2.2.2.2⟩
   have gone:H5 h3.objs.size=none:=by
    rw[<- place]
    exact inv5.free
   obtain⟨m,ns,_⟩:=inv5.loc
   refine rest D h3.objs.size s5 m H5 back got ?_ (laid.fpOk (jg _) gone)
   rw[<- place]
   exact ns
 exact codeAny_compStart_dict runs (T.self X.A 0 _ _ _ st4 runs)
theorem ZW {i:Nat} {y:Str} {py spos:Pos} (calm:X.calm=true) (nd:X.N.Nodup) (own_:X.N[i]? = some y) (loc:X.env.scope.names.lookup y=some .local)
  (swaps:swapsWith (.DictComp kx vx [⟨t0,i0,q0,0⟩,⟨t1,i1,q1,0⟩] scope npos) (some (.Name y py)) spos.line X.env=pure true) (source:PI X t0 i0 wi) (names:BlkOk X.N X.env.scope scope own) (sub:∀ i ∈ vs1,i ∈ own.map (·.2))
  (parts:∀ s H C cl fp,nK (X.blk s H scope (compEnvC scope cl C X.env) fp) kx vx t0 t1 i1 q0 q1 g tt wi1 g1 tt1 tk tv) (plain0:∀ x,foldedSetIterable i0 X.env x=pure x:=by intro _;rfl) (plain1:∀ env x,foldedSetIterable i1 env x=pure x:=by intro _ _;rfl) :
  PS X (.Assign [.Name y py] (.DictComp kx vx [⟨t0,i0,q0,0⟩,⟨t1,i1,q1,0⟩] scope npos) spos) (tAsg (d5j wi g tt wi1 g1 tt1 tk tv (own.map (·.2)) vs1) (gName i)):=by
 constructor
 intro pins s σ H Done inv want
 rw[exec_Assign_Name_used _ _ _ _ swaps]
 apply wpAny_bind
 apply wpAny_standAt
 apply wpAny_bind
 show wpAny _ X.A (do let _ <- comprehension (.DictComp kx vx [⟨t0,i0,q0,0⟩,⟨t1,i1,q1,0⟩] scope npos) scope X.env (firstIterPos [⟨t0,i0,q0,0⟩,⟨t1,i1,q1,0⟩] npos) newDict false (eval i0 X.env) (some (assign (.Name y py) X.env))) _ _ s
 apply wpAny_bind
 have want:d5j wi g tt wi1 g1 tt1 tk tv (own.map (·.2)) vs1 σ H (λx H1=>gName i x σ H1 Done.nx):=want
 refine thn (zI (Last:=λ_ s'=>SP X pins Done .next s') calm nd inv source names sub parts plain0 plain1 want ?_) λ_ _ z=>wpAny_pure (wpAny_pure z)
 intro D C s' m H' inv' q ns fr
 show wpAny _ _ (assign (.Name y py) X.env (.ref D)) _ _ _
 apply wpAny_assign_Name
 refine store_ok2 (v:=V.ref D) inv' nd own_ (.inl loc) rfl ?_ (.inr loc)
 rintro s2 inv2 ⟨a,same,which⟩
 have other:C ≠ a:=by
  rcases which with e|e
  ·exact e ▸ fr.2.1
  ·exact λz=>fr.2.2.2.2.1 y a e z.symm
 refine⟨m,ns.sameBut same other,?_⟩
 intro h3 same3
 exact⟨_,H',inv2.turned (t':=s2.toks) (λb o ne e=>(same3.2 b ne).trans e) fr.1 fr.2.1 fr.2.2.2.1 fr.2.2.2.2.1 fr.2.2.2.2.2,q⟩
end
end Mi
namespace Mi
open PySem PySem.Spec
open PyProof.Rows L2 Cp
noncomputable section
def WW (p:Sto->Prop) (g:W->Lo->M Lo) (t:Lo->M Bool) (k e:Lo->M W) (vs:List Nat) (L:Lo):List W->List (Key × W)->M (List (Key × W))
 | [],acc=>(JL p).bind λ_=>M.ret acc
 | x :: xs,acc=>(JL p).bind λ_=>(g x (YW L vs)).bind λL'=>(t L').bind λb=>if b then(k L').bind λy=>(e L').bind λz=>match mS y with
   | some key=>if acc.length < lim then WW p g t k e vs L xs (pK acc key z) else GG
   | none=>GG
  else WW p g t k e vs L xs acc
def EZ (p:Sto->Prop) (g:W->Lo->M Lo) (t:Lo->M Bool) (it1:Lo->M Itm) (g1:W->Lo->M Lo) (t1:Lo->M Bool) (k e:Lo->M W) (vs vs1:List Nat) (L:Lo):List W->List (Key × W)->M (List (Key × W))
 | [],acc=>(JL p).bind λ_=>M.ret acc
 | x :: xs,acc=>(JL p).bind λ_=>(g x (YW L vs)).bind λL'=>(t L').bind λb=>if b then(it1 L').bind λI=>(WW I.live g1 t1 k e vs1 L' I.items acc).bind λacc'=>EZ p g t it1 g1 t1 k e vs vs1 L xs acc' else EZ p g t it1 g1 t1 k e vs vs1 L xs acc
def r2u (kvs:List (Key × W)):M W:=M.ret (.dk (kvs.map (·.1)) (kvs.map (·.2)))
def ZUV (it:Lo->M Itm) (g:W->Lo->M Lo) (t:Lo->M Bool) (it1:Lo->M Itm) (g1:W->Lo->M Lo) (t1:Lo->M Bool) (k e:Lo->M W) (vs vs1:List Nat):Lo->M W:=λL=>(it L).bind λI=>(EZ I.live g t it1 g1 t1 k e vs vs1 L I.items []).bind r2u
section
variable {ι:Type} {c:ι->Cx} {K:qk} {G:Str->Addr} {X:W->Rho->Hp->Prop} {tg tg1:Expr} {pos:Pos} {mk_ mv:Lo->M W} {ka kb:Lo->M Bool} {i:Nat} {y:Str} {ws us:List Nat} {g g1:W->Lo->M Lo} {it it1:Lo->M Itm}
theorem lZ {ρ ρ1:Rho} {H H1:Hp} {S S1:Sto} {D:Addr} {kvs:List (Key × W)} {vs:List (Key × V)} {Q:VK} (rel:Rel K G ρ H S) (hD:H D=none) (w:Way K G ρ H D ρ1 H1 S1) (h:H1 D=some (.dK vs)) (r:RKs K G ρ1 H1 kvs vs) (gd:Good K G X ρ H (r2u kvs S1) (KL K G Q)):Q (.ref D) H1:=by
 obtain⟨e4,r4,o4,re4⟩:=w.value rel hD
 obtain⟨ls,eq,ru⟩:=IF r
 rw[eq] at h
 exact gd _ _ e4 r4 _ (.dk h o4 (by simp) (ru.re re4))
theorem Knows.only {σ τ:L2.St} {vs:List Nat} (on:Only ws (wipe σ vs) τ) (sub:∀ i ∈ ws,i ∈ vs):Knows (wipe σ vs) τ:=.wiped ((T9 on sub).trans xT)
theorem C8M {f:List (Key × W)->M W} {t:TG} {tt:TT} {tk tv:TE} {vs:List Nat} {J:It} {I:Itm} {ρ ρ1:Rho} {H H1:Hp} {S1:Sto} {D:Addr} {acc:List (Key × W)} {vacc:List (Key × V)} {L:Lo} {σ:L2.St} {Q:VK} {Out:Hp->Prop} (hg:RGt K G X t ws g) (ht:RT K G X tt ka) (hk:RE K G X tk mk_) (he:RE K G X tv mv) (sub:∀ i ∈ ws,i ∈ vs) (hD:H D=none)
  (w:Way K G ρ H D ρ1 H1 S1) (hd:H1 D=some (.dK vacc)) (racc:RKs K G ρ1 H1 acc vacc) (rl:RL K G ρ1 H1 L σ) (hJ:uIq K G J I ρ1 H1) (gd:Good K G X ρ H (M.bind (WW I.live g ka mk_ mv vs L I.items acc) f S1) (KL K G Q))
  (out:∀ ρc Hc Sc acc' vacc',Re ρ1 H1 ρc Hc->Way K G ρ H D ρc Hc Sc->Hc D=some (.dK vacc')->RKs K G ρc Hc acc' vacc'->Good K G X ρ H (f acc' Sc) (KL K G Q)->Out Hc):InD J t tt tk tv vs σ D H1 Out:=by
 refine⟨λi m Hc=>m=I.items.length - i/\i<=I.items.length/\∃ ρc Sc acc vacc,Re ρ1 H1 ρc Hc/\Way K G ρ H D ρc Hc Sc/\Hc D=some (.dK vacc)/\RKs K G ρc Hc acc vacc/\Good K G X ρ H (M.bind (WW I.live g ka mk_ mv vs L (I.items.drop i) acc) f Sc) (KL K G Q),⟨I.items.length,by simp,jf _,ρ1,S1,acc,vacc,.refl,w,hd,racc,gd⟩,?_⟩
 clear w hd racc gd
 rintro i m Hc ⟨rfl,hi',ρc,Sc,acc,vacc,ec,w,hd,racc,gc⟩
 rcases yb hi' with lt|rfl
 ·obtain⟨x,hx⟩:∃ x,I.items[i]? = some x:=⟨I.items[i],qz lt⟩
  have ex:I.items[i]=x:=by
   rw[qz lt] at hx
   exact Option.some.inj hx
  rw[zi lt,ex] at gc
  unfold WW at gc
  rw[cC] at gc
  obtain⟨lv,g2⟩:=WP (Good.bindB gc w.ext)
  obtain⟨_,hit⟩:=hJ ρc Hc Sc ec w.rel lv
  obtain⟨go,yl⟩:=hit i x hx
  have g3:=g2.ok w.rel
  rw[cC] at g3
  refine .inr ⟨go,λH2=>∃ ρc Sc acc vacc,Re ρ1 H1 ρc H2/\Way K G ρ H D ρc H2 Sc/\H2 D=some (.dK vacc)/\RKs K G ρc H2 acc vacc/\Good K G X ρ H (M.bind (WW I.live g ka mk_ mv vs L (I.items.drop (i+1)) acc) f Sc) (KL K G Q),λH2 q=>⟨I.items.length - (i+1),by omega,rfl,lt,q⟩,λv H2 yv=>?_⟩
  obtain⟨sm,rv⟩:=yl v H2 yv
  have w2:=w.go (.same sm) (w.rel.same sm) (by rw[hd];simp)
  have hd2:=sm _ _ hd
  have racc2:=racc.mono (.same sm)
  have ec2:=ec.trans (Ext.same (ρ:=ρc) sm).re
  have rl2:RL K G ρc H2 (YW L vs) (wipe σ vs):=RL.wipe (rl.re ec2) vs
  refine hg.run w2.rel rl2 rv ((Good.bindB g3 w2.ext).imp λL' S3 ρ3 H3 e3 r3 g4 σ3 rl3 on3=>?_)
  have w3:=w2.go e3 r3 (by rw[hd2];simp)
  have hd3:=w2.keep e3 hd2
  have racc3:=racc2.mono e3
  have ec3:=ec2.trans e3.re
  refine⟨.only on3 sub,ht.run w3.rel rl3 ?_⟩
  rw[cC] at g4
  refine(Good.bindB g4 w3.ext).imp λb S4 ρ4 H4 e4 r4 g5=>?_
  have w4:=w3.go e4 r4 (by rw[hd3];simp)
  have hd4:=w3.keep e4 hd3
  have racc4:=racc3.mono e4
  have ec4:=ec3.trans e4.re
  cases b with
  | false=>exact⟨ρ4,S4,acc,vacc,ec4,w4,hd4,racc4,g5⟩
  | true=>
   simp only[if_true] at g5 ⊢
   rw[cC] at g5
   refine hk.run w4.rel (rl3.mono e4) ((Good.bindB g5 w4.ext).imp λy S5 ρ5 H5 e5 r5 g6 vy ry=>?_)
   have w5:=w4.go e5 r5 (by rw[hd4];simp)
   have hd5:=w4.keep e5 hd4
   have racc5:=racc4.mono e5
   rw[cC] at g6
   refine he.run w5.rel ((rl3.mono e4).mono e5) ((Good.bindB g6 w5.ext).imp λz S6 ρ6 H6 e6 r6 g7 vz rz=>?_)
   have w6:=w5.go e6 r6 (by rw[hd5];simp)
   have hd6:=w5.keep e6 hd5
   have racc6:=racc5.mono e6
   split at g7
   ·rename_i key hkey
    split at g7
    ·rename_i hl
     have b7:But D H6 (upd H6 D (.dK (putK vacc key vz))):=λ_ ne=>upd_ne ne
     have re7:Re ρ6 H6 ρ6 (upd H6 D (.dK (putK vacc key vz))):=.but b7 w6.b (by rw[hd6];simp) (by rw[hd6];simp)
     exact⟨vacc,key,HV ry hkey,hd6,jz (by rw[<- RKs.length racc6];exact hl) (by decide:lim<=sizeLine),ρ6,S6,pK acc key z,putK vacc key vz,((ec4.trans e5.re).trans e6.re).trans re7,w6.set b7 hD (by rw[hd6];simp) (by rw[upd_same];simp),upd_same,RKs.re re7 (oM racc6 rz),g7⟩
    ·exact g7.elim
   ·exact g7.elim
 ·rw[yi] at gc
  unfold WW at gc
  rw[cC] at gc
  obtain⟨lv,g2⟩:=WP (Good.bindB gc w.ext)
  exact .inl ⟨(hJ ρc Hc Sc ec w.rel lv).1,out ρc Hc Sc acc vacc ec w hd racc (g2.ok w.rel)⟩
theorem RI.dc2 {wi wi1:TI} {t u:TG} {tt tu:TT} {tk tv:TE} {vs vs1:List Nat} (hi:RI K G X wi it) (hg:RGt K G X t ws g) (ht:RT K G X tt ka) (hi1:RI K G X wi1 it1) (hg1:RGt K G X u us g1) (ht1:RT K G X tu kb) (hk:RE K G X tk mk_) (he:RE K G X tv mv) (sub:∀ i ∈ ws,i ∈ vs) (sub1:∀ i ∈ us,i ∈ vs1) :
  RE K G X (d5j wi t tt wi1 u tu tk tv vs vs1) (ZUV it g ka it1 g1 kb mk_ mv vs vs1):=⟨by
 intro ρ S H L σ Q rel rl gd
 refine hi.run rel rl ((Good.bind gd).imp λI S1 ρ1 H1 e1 r1 gI J hJ=>?_)
 intro D hD
 have sD:=T5 (o:=.dK []) hD
 refine⟨λi m Hc=>m=I.items.length - i/\i<=I.items.length/\∃ ρc Sc acc vacc,Re ρ1 H1 ρc Hc/\Way K G ρ1 H1 D ρc Hc Sc/\Hc D=some (.dK vacc)/\RKs K G ρc Hc acc vacc/\Good K G X ρ1 H1 (M.bind (EZ I.live g ka it1 g1 kb mk_ mv vs vs1 L (I.items.drop i) acc) r2u Sc) (KL K G Q),⟨I.items.length,by simp,jf _,_,S1,[],[],(Ext.block sD hD).re,.start r1 sD hD (by rw[upd_same];simp),upd_same,.nil,gI⟩,?_⟩
 rintro i m Hc ⟨rfl,hi',ρc,Sc,acc,vacc,ec,w,hd,racc,gc⟩
 rcases yb hi' with lt|rfl
 ·obtain⟨x,hx⟩:∃ x,I.items[i]? = some x:=⟨I.items[i],qz lt⟩
  have ex:I.items[i]=x:=by
   rw[qz lt] at hx
   exact Option.some.inj hx
  rw[zi lt,ex] at gc
  unfold EZ at gc
  rw[cC] at gc
  obtain⟨lv,g2⟩:=WP (Good.bindB gc w.ext)
  obtain⟨_,hit⟩:=hJ ρc Hc Sc ec w.rel lv
  obtain⟨go,yl⟩:=hit i x hx
  have g3:=g2.ok w.rel
  rw[cC] at g3
  refine .inr ⟨go,λH2=>∃ ρc Sc acc vacc,Re ρ1 H1 ρc H2/\Way K G ρ1 H1 D ρc H2 Sc/\H2 D=some (.dK vacc)/\RKs K G ρc H2 acc vacc/\Good K G X ρ1 H1 (M.bind (EZ I.live g ka it1 g1 kb mk_ mv vs vs1 L (I.items.drop (i+1)) acc) r2u Sc) (KL K G Q),λH2 q=>⟨I.items.length - (i+1),by omega,rfl,lt,q⟩,λv H2 yv=>?_⟩
  obtain⟨sm,rv⟩:=yl v H2 yv
  have w2:=w.go (.same sm) (w.rel.same sm) (by rw[hd];simp)
  have hd2:=sm _ _ hd
  have racc2:=racc.mono (.same sm)
  have ec2:=ec.trans (Ext.same (ρ:=ρc) sm).re
  have rl2:RL K G ρc H2 (YW L vs) (wipe σ vs):=RL.wipe ((rl.mono e1).re ec2) vs
  refine hg.run w2.rel rl2 rv ((Good.bindB g3 w2.ext).imp λL' S3 ρ3 H3 e3 r3 g4 σ3 rl3 on3=>?_)
  have w3:=w2.go e3 r3 (by rw[hd2];simp)
  have hd3:=w2.keep e3 hd2
  have racc3:=racc2.mono e3
  have ec3:=ec2.trans e3.re
  refine⟨.only on3 sub,ht.run w3.rel rl3 ?_⟩
  rw[cC] at g4
  refine(Good.bindB g4 w3.ext).imp λb S4 ρ4 H4 e4 r4 g5=>?_
  have w4:=w3.go e4 r4 (by rw[hd3];simp)
  have hd4:=w3.keep e4 hd3
  have racc4:=racc3.mono e4
  have ec4:=ec3.trans e4.re
  cases b with
  | false=>exact⟨ρ4,S4,acc,vacc,ec4,w4,hd4,racc4,g5⟩
  | true=>
   simp only[if_true] at g5 ⊢
   rw[cC] at g5
   refine hi1.run w4.rel (rl3.mono e4) ((Good.bindB g5 w4.ext).imp λI1 S5 ρ5 H5 e5 r5 g6 J1 hJ1=>?_)
   have w5:=w4.go e5 r5 (by rw[hd4];simp)
   have hd5:=w4.keep e5 hd4
   have racc5:=racc4.mono e5
   rw[cC] at g6
   exact C8M hg1 ht1 hk he sub1 hD w5 hd5 racc5 ((rl3.mono e4).mono e5) hJ1 g6 λρ6 H6 S6 acc' vacc' ec6 w6 hd6 racc6 g7=>⟨ρ6,S6,acc',vacc',(ec4.trans e5.re).trans ec6,w6,hd6,racc6,g7⟩
 ·rw[yi] at gc
  unfold EZ at gc
  rw[cC] at gc
  obtain⟨lv,g2⟩:=WP (Good.bindB gc w.ext)
  exact .inl ⟨(hJ ρc Hc Sc ec w.rel lv).1,lZ r1 hD w hd racc (g2.ok w.rel)⟩⟩
theorem oJ {kx vx:Expr} {gens:List Comprehension} {scope:Scope} {at_ py:Pos} {n:Nat} {here:Env} (fn:here.scope.kind = .function) (loc:here.scope.names.lookup y=some .local) (line:(py.line == at_.line)=true)
  (others:(scope.names.any λ(x,k)=>x == y && (k == .local || k == .cell))=false):swapsWith (.DictComp kx vx gens scope at_) (some (.Name y py)) n here=pure true:=by
 have own_:here.kindOf y=some .local:=loc
 have block:here.blockKind = .function:=by
  unfold Env.blockKind
  rw[fn]
  rfl
 unfold swapsWith
 simp only[own_,block,Expr.pos,line,others]
 rfl
theorem oD {iter iter1 kx vx:Expr} {ifs ifs1:List Expr} {scope:Scope} {own:List (Str × Nat)} {vs1:List Nat} {py spos:Pos} (cx:Ctx c K) (nd:∀ q,(c q).N.Nodup) (hy:∀ q,(c q).N[i]? = some y) (hyl:∀ q,(c q).env.scope.names.lookup y=some .local)
  (hsw:∀ q,swapsWith (.DictComp kx vx [⟨tg,iter,ifs,0⟩,⟨tg1,iter1,ifs1,0⟩] scope pos) (some (.Name y py)) spos.line (c q).env=pure true) (hi:QI c K G X tg iter it) (ok:∀ q,BlkOk (c q).N (c q).env.scope scope own) (hv:∀ i ∈ vs1,i ∈ own.map (·.2))
  (hg:QG (blk c scope) K G X tg ws g) (ht:QTs (blk c scope) K G X ifs ka) (hi1:QI (blk c scope) K G X tg1 iter1 it1) (hg1:QG (blk c scope) K G X tg1 us g1) (ht1:QTs (blk c scope) K G X ifs1 kb) (hk:QE (blk c scope) K G X kx mk_) (he:QE (blk c scope) K G X vx mv) (sub:∀ i ∈ ws,i ∈ own.map (·.2)) (sub1:∀ i ∈ us,i ∈ vs1)
  (hs:∀ q x,foldedSetIterable iter (c q).env x=pure x:=by exact λ_ _=>rfl) (hs1:∀ env x,foldedSetIterable iter1 env x=pure x:=by exact λ_ _=>rfl) :
  QS c K G X (.Assign [.Name y py] (.DictComp kx vx [⟨tg,iter,ifs,0⟩,⟨tg1,iter1,ifs1,0⟩] scope pos) spos) (O0 (ZUV it g ka it1 g1 kb mk_ mv (own.map (·.2)) vs1) (fU i)):=by
 obtain⟨wi,p1,r1⟩:=hi.ex
 obtain⟨t,p2,r2⟩:=hg.ex
 obtain⟨tt,p3,r3⟩:=ht.ex
 obtain⟨wi1,p4,r4⟩:=hi1.ex
 obtain⟨u,p5,r5⟩:=hg1.ex
 obtain⟨tu,p6,r6⟩:=ht1.ex
 obtain⟨tk,p7,r7⟩:=hk.ex
 obtain⟨tv,p8,r8⟩:=he.ex
 exact⟨_,λq=>ZW (cx.calm q) (nd q) (hy q) (hyl q) (hsw q) (p1 q) (ok q) hv (λs H C cl fp=>let z:=(q,s,H,C,cl,fp);⟨p2 z,p3 z,p4 z,p5 z,p6 z,p7 z,p8 z⟩) (hs q) hs1,(r1.dc2 r2 r3 r4 r5 r6 r7 r8 sub sub1).asg .name⟩
end
end
end Mi
namespace Mi
open PySem PySem.Spec
open PyProof.Rows L2 Cp
noncomputable section
def Ev {α:Type} (r:Option (Res α × Sto)) (Q:α->Sto->Prop):Prop:=match r with
 | some (.ok a,S)=>Q a S
 | _=>False
section
variable {α β:Type} {m:M α} {f:α->M β} {S:Sto} {Q Q':α->Sto->Prop} {R:β->Sto->Prop} {a:α} {r:Option (Res α × Sto)}
theorem ZM:Ev (M.bind m f S) R=Ev (m S) (λa S'=>Ev (f a S') R):=by
 unfold M.bind Ev
 cases m S with
 | none=>rfl
 | some p=>
  obtain⟨p,S'⟩:=p
  cases p <;> rfl
theorem evB (h:Ev (m S) (λa S'=>Ev (f a S') R)):Ev (M.bind m f S) R:=ZM.mpr h
theorem II:Ev (some (.ok a,S)) Q=Q a S:=rfl
theorem kW:Ev (M.ret a S) Q=Q a S:=rfl
theorem CQ {p:Sto->Prop} {Q:Unit->Sto->Prop} (h:p S) (q:Q () S):Ev (JL p S) Q:=by
 unfold JL
 rw[if_pos h]
 exact q
theorem Ev.imp (h:Ev r Q) (k:∀ a S,Q a S->Q' a S):Ev r Q':=by
 unfold Ev at h ⊢
 split at h
 ·exact k _ _ h
 ·exact h.elim
theorem Ev.ex (h:Ev r Q):∃ a S,r=some (.ok a,S)/\Q a S:=by
 unfold Ev at h
 split at h
 ·exact⟨_,_,rfl,h⟩
 ·exact h.elim
theorem Ev.of (h:r=some (.ok a,S)) (q:Q a S):Ev r Q:=by rw[h];exact q
end
section
variable {n:Nat} {F:List W->M W} {ws:List W} {S:Sto} {Q:W->Sto->Prop} {c:Str}
theorem M9 (hl:ws.length=n) (h:Ev (F ws S) Q):Ev (AT n F ws S) Q:=by
 obtain⟨a,S',e,q⟩:=h.ex
 unfold AT
 rw[if_pos hl,e]
 exact q
theorem D8 (hl:ws.length=n) (hb:cH 0 ws=true) (h:Ev (F ws []) λw S'=>∃ w',frz 60 S' 0 w=some w'/\Q w' S):Ev (H0 n F ws S) Q:=by
 obtain⟨a,S',e,w',e2,q⟩:=h.ex
 unfold H0 dO
 rw[if_pos ⟨hl,hb⟩,e]
 show Ev (gL (frz 60 S' 0 a) S) Q
 rw[e2]
 exact q
theorem FL (hl:ws.length=n) (h:Ev (F ws S) λw S'=>∃ w',frz 60 S' S.length w=some w'/\(S'.take S.length).all (oB S.length)=true/\Q w' (S'.take S.length)):Ev (mN n F ws S) Q:=by
 obtain⟨a,S',e,w',e2,e3,q⟩:=h.ex
 unfold mN
 rw[if_pos hl,e]
 show Ev (match frz 60 S' S.length a with
  | some w'=>if (S'.take S.length).all (oB S.length) then some (.ok w',S'.take S.length) else none
  | none=>none) Q
 rw[e2]
 show Ev (if (S'.take S.length).all (oB S.length) then some (.ok w',S'.take S.length) else none) Q
 rw[if_pos e3]
 exact q
theorem AO (hl:ws.length+1=n) (h:Ev (F (.ref S.length :: ws) (S++[.ins c []])) λw S'=>w = .non/\Q (.ref S.length) S'):Ev (zV c n F ws S) Q:=by
 obtain⟨a,S',e,rfl,q⟩:=h.ex
 unfold zV
 rw[if_pos hl,e]
 exact q
theorem W5 (hl:ws.length+1=n) (hb:cH 0 ws=true) (h:Ev (F (.ref 0 :: ws) [.ins c []]) λw S'=>w = .non/\∃ w',frz 60 S' 0 (.ref 0)=some w'/\Q w' S):Ev (nV c n F ws S) Q:=by
 obtain⟨a,S',e,rfl,w',e2,q⟩:=h.ex
 unfold nV
 rw[if_pos ⟨hl,hb⟩,e]
 show Ev (gL (frz 60 S' 0 (.ref 0)) S) Q
 rw[e2]
 exact q
theorem qK {k:Nat} {w:W} (h:W3 n w=true):frz k S n w=some w:=by cases k <;> (unfold frz;rw[if_pos h])
end
mutual
theorem F7 {n m:Nat} (le:n<=m):∀ {w:W},W3 n w=true->W3 m w=true
 | .ref k,h=>by
  simp only[W3,decide_eq_true_eq] at h ⊢
  exact jz h le
 | .tup xs,h=>by simpa only[W3] using C5 le (by simpa only[W3] using h)
 | .lst xs,h=>by simpa only[W3] using C5 le (by simpa only[W3] using h)
 | .kt xs,h=>by simpa only[W3] using C5 le (by simpa only[W3] using h)
 | .dk _ xs,h=>by simpa only[W3] using C5 le (by simpa only[W3] using h)
 | .dt _ xs,h=>by simpa only[W3] using C5 le (by simpa only[W3] using h)
 | .obj _ _ xs,h=>by simpa only[W3] using C5 le (by simpa only[W3] using h)
 | .exc _ _ xs,h=>by simpa only[W3] using C5 le (by simpa only[W3] using h)
 | .non,_=>rfl
 | .bl _,_=>rfl
 | .int _,_=>rfl
 | .str _,_=>rfl
 | .scr _,_=>rfl
 | .ty _,_=>rfl
 | .cls _,_=>rfl
theorem C5 {n m:Nat} (le:n<=m):∀ {ws:List W},cH n ws=true->cH m ws=true
 | [],_=>rfl
 | x :: xs,h=>by
  simp only[cH,js] at h ⊢
  exact⟨F7 le h.1,C5 le h.2⟩
end
section
variable {S:Sto} {L:Lo} {i j l n:Nat} {w x y v:W} {ws:List W}
theorem pI {N:List Str} {m:Lo->M Oc} {Q:W->Sto->Prop} (hl:ws.length=n) (h:Ev (m (JM N ws) S) λo S'=>Ev (oU o S') Q):Ev (IU N n m ws S) Q:=by
 unfold IU
 rw[if_pos hl]
 refine evB ?_
 exact h
section
variable {Q:Oc->Sto->Prop} {a b t u:Lo->M Oc} {e e1 e2:Lo->M W} {es:Lo->M (List W)} {k:Lo->M Bool} {g:W->Lo->M Lo}
theorem E9 (h:Ev (a L S) λo S'=>Ev (FS b o S') Q):Ev (kO a b L S) Q:=by
 unfold kO
 refine evB ?_
 exact h
theorem GM (h:Ev (b L S) Q):Ev (FS b (.nx L) S) Q:=h
theorem OBH (h:Q (.rt w) S):Ev (FS b (.rt w) S) Q:=h
theorem bNc (h:Q (.bk L) S):Ev (FS b (.bk L) S) Q:=h
theorem sRm (h:Q (.ct L) S):Ev (FS b (.ct L) S) Q:=h
theorem UA1 (h:Ev (k L S) λc S'=>if c=true then Ev (t L S') Q else Ev (u L S') Q):Ev (mIf k t u L S) Q:=by
 unfold mIf
 refine evB ?_
 refine h.imp λc S' z=>?_
 cases c <;> exact z
theorem aR (h:Ev (e L S) λw S'=>Ev (g w L S') λL' S''=>Q (.nx L') S''):Ev (O0 e g L S) Q:=by
 unfold O0
 simp only[ZM,kW]
 exact h
theorem XEB (h:Ev (e L S) λw S'=>Q (.rt w) S'):Ev (iE e L S) Q:=by
 unfold iE
 simp only[ZM,kW]
 exact h
theorem P6r (h:Q (.rt .non) S):Ev (GDV L S) Q:=h
theorem cZ8 (h:Q (.nx L) S):Ev (dF L S) Q:=h
theorem RFf (h:Q (.bk L) S):Ev (x8d L S) Q:=h
theorem jOD (h:Q (.ct L) S):Ev (M5w L S) Q:=h
theorem CBT (h:Ev (e L S) λ_ S'=>Q (.nx L) S'):Ev (fX e L S) Q:=by
 unfold fX
 simp only[ZM,kW]
 exact h
theorem gVC (h:Ev (es L S) λws S'=>∃ x y,ws=[x,y]/\Q (.nx ((L.set i (some x)).set j (some y))) S'):Ev (IT i j es L S) Q:=by
 unfold IT
 refine evB ?_
 refine h.imp ?_
 rintro _ S' ⟨x,y,rfl,q⟩
 exact q
theorem YED (h:Ev (es L S) λws S'=>∃ x y z,ws=[x,y,z]/\Q (.nx (((L.set i (some x)).set j (some y)).set l (some z))) S'):Ev (PUy i j l es L S) Q:=by
 unfold PUy
 refine evB ?_
 refine h.imp ?_
 rintro _ S' ⟨x,y,z,rfl,q⟩
 exact q
theorem cVW {cs:List Str} {f:Str} (h:Ev (e2 L S) λy S'=>Ev (e1 L S') λx S''=>Ev (LG cs f x y S'') λ_ S3=>Q (.nx L) S3):Ev (mB cs f e1 e2 L S) Q:=by
 unfold mB
 simp only[ZM,kW]
 exact h
theorem hRd {d k v:Lo->M W} (h:Ev (v L S) λz S'=>Ev (d L S') λx S''=>Ev (k L S'') λy S3=>Ev (yI x y z S3) λ_ S4=>Q (.nx L) S4):Ev (cA d k v L S) Q:=by
 unfold cA
 simp only[ZM,kW]
 exact h
theorem G1 {it:Lo->M Itm} (h:Ev (it L S) λI S'=>Ev (Y2 I.live g b I.items L S') Q):Ev (GN it g b L S) Q:=by
 unfold GN
 refine evB ?_
 exact h
theorem E2 {p:Sto->Prop} (hp:p S) (h:Q (.nx L) S):Ev (Y2 p g b [] L S) Q:=by
 unfold Y2
 refine evB ?_
 exact CQ hp h
theorem iK {p:Sto->Prop} {xs:List W} (hp:p S) (h:Ev (g x L S) λL' S'=>Ev (b L' S') λo S''=>Ev (AU (Y2 p g b xs) o S'') Q):Ev (Y2 p g b (x :: xs) L S) Q:=by
 rw[Y2]
 refine evB ?_
 refine CQ hp ?_
 simp only[ZM]
 exact h
theorem YXH {go:Lo->M Oc} (h:Ev (go L S) Q):Ev (AU go (.nx L) S) Q:=h
theorem QIc {go:Lo->M Oc} (h:Ev (go L S) Q):Ev (AU go (.ct L) S) Q:=h
theorem tML {go:Lo->M Oc} (h:Q (.nx L) S):Ev (AU go (.bk L) S) Q:=h
theorem tZB {go:Lo->M Oc} (h:Q (.rt w) S):Ev (AU go (.rt w) S) Q:=h
theorem fI {p:Sto->Prop} (I:List W->Lo->Sto->Prop) (X:W->Sto->Prop) (step:∀ x xs L S,I (x :: xs) L S->p S/\Ev (g x L S) λL' S'=>Ev (b L' S') λo S''=>match o with
   | .nx L2=>I xs L2 S''
   | .ct L2=>I xs L2 S''
   | .bk L2=>Q (.nx L2) S''
   | .rt w=>X w S'')
  (last:∀ L S,I [] L S->p S/\Q (.nx L) S) (out:∀ w S,X w S->Q (.rt w) S):∀ xs L S,I xs L S->Ev (Y2 p g b xs L S) Q
 | [],L,S,h=>E2 (last L S h).1 (last L S h).2
 | x :: xs,L,S,h=>by
  obtain⟨hp,h2⟩:=step x xs L S h
  refine iK hp (h2.imp λL' S' h3=>h3.imp λo S'' h4=>?_)
  cases o with
  | nx L2=>exact fI I X step last out xs L2 S'' h4
  | ct L2=>exact fI I X step last out xs L2 S'' h4
  | bk L2=>exact h4
  | rt w=>exact out w S'' h4
end
section
variable {Q:W->Sto->Prop} {a b c d e:Lo->M W} {as:Lo->M (List W)} {k:Lo->M Bool}
theorem jLK (h:Q w S):Ev (oU (.rt w) S) Q:=h
theorem X3V (h:Q .non S):Ev (oU (.nx L) S) Q:=h
theorem C6 (h:L[i]?.join=some w) (q:Q w S):Ev (uV i L S) Q:=by
 unfold uV
 rw[h]
 exact q
theorem GL8 (q:Q w S):Ev (mC w L S) Q:=q
theorem kG {f:W->W->M W} (h:Ev (a L S) λx S'=>Ev (b L S') λy S''=>Ev (f x y S'') Q):Ev (mOp f a b L S) Q:=by
 unfold mOp
 simp only[ZM]
 exact h
theorem G6 {f:Sto->W->W->Option W} (h:f S x y=some w) (q:Q w S):Ev (opS f x y S) Q:=by
 unfold opS
 rw[h]
 exact q
theorem jK {f:Sto->List W->Option W} (h:f S ws=some w) (q:Q w S):Ev (MI f ws S) Q:=by
 unfold MI
 rw[h]
 exact q
theorem N0 {f:List W->M W} (h:Ev (as L S) λws S'=>Ev (f ws S') Q):Ev (fD f as L S) Q:=by
 unfold fD
 refine evB ?_
 exact h
theorem DI (h:ws.length<=lim) (q:Q (.tup ws) S):Ev (TZ ws S) Q:=by
 unfold TZ
 rw[if_pos h]
 exact q
theorem UU (h:ws.length<=lim) (q:Q (.lst ws) S):Ev (aW ws S) Q:=by
 unfold aW
 rw[if_pos h]
 exact q
theorem iY (h:ws.length<=lim) (q:Q (.ref S.length) (S++[.lst ws])):Ev (LU ws S) Q:=by
 unfold LU
 rw[if_pos h]
 exact q
theorem zB (h:ixW S x y=some w) (q:Q w S):Ev (ixM x y S) Q:=by
 unfold ixM
 rw[h]
 exact q
theorem yQ (h:(qW S x y).join=some w) (q:Q w S):Ev (sT x y S) Q:=by
 unfold sT
 rw[h]
 exact q
theorem K3r {f:Str} (h:Ev (a L S) λx S'=>∃ w,P8 S' f x=some w/\Q w S'):Ev (xI f a L S) Q:=by
 unfold xI mUn
 refine evB ?_
 refine h.imp ?_
 rintro x S' ⟨w,e,q⟩
 rw[e]
 exact q
theorem F8N (h:Ev (k L S) λc S'=>if c=true then Ev (a L S') Q else Ev (b L S') Q):Ev (oF k a b L S) Q:=by
 unfold oF
 refine evB ?_
 refine h.imp λc S' z=>?_
 cases c <;> exact z
theorem fSN (h:Ev (a L S) λx S'=>∃ c,x = .bl c/\if c=true then Ev (b L S') Q else Q (.bl false) S'):Ev (HS a b L S) Q:=by
 unfold HS
 refine evB ?_
 refine h.imp ?_
 rintro x S' ⟨c,rfl,z⟩
 cases c <;> exact z
theorem G0n (h:Ev (a L S) λx S'=>∃ c,x = .bl c/\if c=true then Q (.bl true) S' else Ev (b L S') Q):Ev (q5G a b L S) Q:=by
 unfold q5G
 refine evB ?_
 refine h.imp ?_
 rintro x S' ⟨c,rfl,z⟩
 cases c <;> exact z
theorem fIp (h:Ev (a L S) λx S'=>∃ c,x = .bl c/\Q (.bl (!c)) S'):Ev (SJ a L S) Q:=by
 unfold SJ
 refine evB ?_
 refine h.imp ?_
 rintro x S' ⟨c,rfl,z⟩
 exact z
theorem iI {f g:W->W->M W} (h:Ev (a L S) λx S1=>Ev (b L S1) λy S2=>Ev (f x y S2) λz S3=>∃ c_,z = .bl c_/\if c_=true then Ev (c L S3) λu S4=>Ev (g y u S4) Q else Q (.bl false) S3):Ev (cG f g a b c L S) Q:=by
 unfold cG
 simp only[ZM]
 refine h.imp λx S1 h1=>h1.imp λy S2 h2=>h2.imp ?_
 rintro z S3 ⟨c,rfl,z⟩
 cases c
 ·exact z
 ·show Ev (R4 (.bl true) S3) _
  show Ev (M.ret true S3) _
  simp only[kW,if_true,ZM] at z ⊢
  exact z
theorem oYV {lo hi:Lo->M (Option Int)} (h:Ev (a L S) λx S1=>Ev (lo L S1) λp S2=>Ev (hi L S2) λq S3=>∃ w,slW S3 x p q=some w/\Q w S3):Ev (mSl a lo hi L S) Q:=by
 refine evB (h.imp λx S1 h1=>evB (h1.imp λy S2 h2=>evB (h2.imp ?_)))
 rintro z S3 ⟨w,e,q⟩
 show Ev (gL (slW S3 x y z) S3) Q
 rw[e]
 exact q
theorem yR {ms:List ((Lo->M W) × (Lo->M W))} (h:Ev (NM ms L S) λps S'=>∃ kvs,XS ps=some kvs/\kvs.length<=15/\Q (.ref S'.length) (S'++[.dk (qR [] kvs)])):Ev (xG ms L S) Q:=by
 unfold xG
 refine evB ?_
 refine h.imp ?_
 rintro ps S' ⟨kvs,e,le,q⟩
 rw[e]
 show Ev (if kvs.length<=15 then some (.ok (.ref S'.length),S'++[.dk (qR [] kvs)]) else none) Q
 rw[if_pos le]
 exact q
theorem TU {ms:List ((Lo->M W) × (Lo->M W))} (h:Ev (NM ms L S) λps S'=>∃ w,WG ps=some w/\Q w S'):Ev (KZ ms L S) Q:=by
 unfold KZ
 refine evB ?_
 refine h.imp ?_
 rintro ps S' ⟨w,e,q⟩
 rw[e]
 exact q
theorem CV {c_ m:Str} {f:List W->M W} (h:Ev (a L S) λx S'=>LP S' m x=some c_/\Ev (as L S') λws S''=>Ev (f (x :: ws) S'') Q):Ev (PL c_ m f a as L S) Q:=by
 unfold PL
 refine evB ?_
 refine h.imp ?_
 rintro x S' ⟨e,q⟩
 refine evB ?_
 unfold BQ
 rw[if_pos e,II]
 refine evB ?_
 exact q
theorem nD3 {ty:Sto->W->Bool} {f:W->List W->M W} (h:Ev (a L S) λx S'=>ty S' x=true/\Ev (as L S') λws S''=>Ev (f x ws S'') Q):Ev (mBM ty f a as L S) Q:=by
 unfold mBM
 refine evB ?_
 refine h.imp ?_
 rintro x S' ⟨e,q⟩
 refine evB ?_
 unfold chk
 rw[if_pos e,II]
 refine evB ?_
 exact q
theorem WPy (h:Ev (a L S) λx S1=>jY S1 x=true/\Ev (b L S1) λy S2=>Ev (c L S2) λz S3=>∃ o,qW S3 x y=some o/\Q (o.getD z) S3):Ev (sX a b c L S) Q:=by
 unfold sX
 refine evB ?_
 refine h.imp ?_
 rintro x S1 ⟨e,q⟩
 refine evB ?_
 unfold chk
 rw[if_pos e,II]
 refine evB ?_
 refine q.imp λy S2 h2=>?_
 refine evB ?_
 refine h2.imp ?_
 rintro z S3 ⟨o,e,q⟩
 rw[e]
 exact q
end
section
variable {Q:Bool->Sto->Prop} {a b:Lo->M W} {k u:Lo->M Bool}
theorem iP (h:Ev (a L S) λx S'=>∃ c,x = .bl c/\Q c S'):Ev (tW a L S) Q:=by
 unfold tW
 refine evB ?_
 refine h.imp ?_
 rintro x S' ⟨c,rfl,z⟩
 exact z
theorem eZE (h:Ev (a L S) λx S'=>∃ c,CZ S' x=some c/\Q c S'):Ev (YG a L S) Q:=by
 unfold YG
 refine evB ?_
 refine h.imp ?_
 rintro x S' ⟨c,e,z⟩
 unfold CGj
 rw[e]
 exact z
theorem tAo (h:Ev (k L S) λc S'=>if c=true then Ev (u L S') Q else Q false S'):Ev (KP k u L S) Q:=by
 unfold KP
 refine evB ?_
 refine h.imp λc S' z=>?_
 cases c <;> exact z
theorem yB (h:Ev (k L S) λc S'=>if c=true then Q true S' else Ev (u L S') Q):Ev (MU k u L S) Q:=by
 unfold MU
 refine evB ?_
 refine h.imp λc S' z=>?_
 cases c <;> exact z
theorem JUQ (h:Ev (k L S) λc S'=>Q (!c) S'):Ev (o0 k L S) Q:=by
 unfold o0
 simp only[ZM,kW]
 exact h
theorem X9 (q:Q true S):Ev (dJ L S) Q:=q
end
section
variable {Q:List W->Sto->Prop} {a:Lo->M W} {as:Lo->M (List W)}
theorem k8 (q:Q [] S):Ev (JN L S) Q:=q
theorem mO (h:Ev (a L S) λx S'=>Ev (as L S') λxs S''=>Q (x :: xs) S''):Ev (O9 a as L S) Q:=by
 unfold O9
 simp only[ZM,kW]
 exact h
theorem b9 {Q:List (W × W)->Sto->Prop} (q:Q [] S):Ev (NM [] L S) Q:=q
theorem kJ {Q:List (W × W)->Sto->Prop} {a b:Lo->M W} {ms:List ((Lo->M W) × (Lo->M W))} (h:Ev (a L S) λx S1=>Ev (b L S1) λy S2=>Ev (NM ms L S2) λps S3=>Q ((x,y) :: ps) S3):Ev (NM ((a,b) :: ms) L S) Q:=by
 rw[NM]
 simp only[ZM,kW]
 exact h
theorem aPP {Q:Option Int->Sto->Prop} (q:Q none S):Ev (JA L S) Q:=q
theorem hLu {Q:Option Int->Sto->Prop} (h:Ev (a L S) λx S'=>∃ i,x = .int i/\Q (some i) S'):Ev (dZ a L S) Q:=by
 unfold dZ
 refine evB ?_
 refine h.imp ?_
 rintro x S' ⟨c,rfl,z⟩
 exact z
end
section
variable {Q:Lo->Sto->Prop} {g:W->Lo->M Lo} {gs:List W->Lo->M Lo} {a b:Lo->M W}
theorem fR (q:Q (L.set i (some w)) S):Ev (fU i w L S) Q:=q
theorem DZ7 (q:Q L S):Ev (gNo [] L S) Q:=q
theorem RJI (h:Ev (g x L S) λL' S'=>Ev (gs ws L' S') Q):Ev (gCo g gs (x :: ws) L S) Q:=by
 show Ev (M.bind (g x L) (λL'=>gs ws L') S) Q
 refine evB ?_
 exact h
theorem LQ (hl:ws.length=n) (h:Ev (gs ws L S) Q):Ev (gTu n gs (.tup ws) L S) Q:=by
 show Ev ((if ws.length=n then gs ws L else GG) S) Q
 rw[if_pos hl]
 exact h
theorem sN {xs:List W} (hx:fA S w=some xs) (hl:xs.length=n) (h:Ev (gs xs L S) Q):Ev (gLs n gs w L S) Q:=by
 unfold gLs
 rw[hx]
 show Ev (if xs.length=n then gs xs L S else none) Q
 rw[if_pos hl]
 exact h
theorem LE {xs:List W} (hx:yG S w=some xs) (hl:n<=xs.length+1/\xs.length<=16384) (h:Ev (gs (xs.take i++[.lst ((xs.drop i).take (xs.length+1 - n))]++(xs.drop i).drop (xs.length+1 - n)) L S) Q):Ev (gSt n i gs w L S) Q:=by
 unfold gSt
 rw[hx]
 show Ev (if n<=xs.length+1/\xs.length<=16384 then gs _ L S else none) Q
 rw[if_pos hl]
 exact h
theorem YN {x:W} {xs:List W} (hx:yG S w=some (x :: xs)) (hl:xs.length<=16000) (h:Ev (gs [x,.lst xs] L S) Q):Ev (gSt 2 1 gs w L S) Q:=by
 refine LE hx ⟨Nat.le_add_left _ _,jb (Nat.succ_le_succ hl) qg⟩ ?_
 have e:((x :: xs).drop 1).take ((x :: xs).length+1 - 2)=xs:=by simp
 have e2:((x :: xs).drop 1).drop ((x :: xs).length+1 - 2)=[]:=by simp
 rw[e,e2]
 exact h
theorem p9 {x y:W} {xs:List W} (hx:yG S w=some (x :: y :: xs)) (hl:xs.length<=16000) (h:Ev (gs [x,y,.lst xs] L S) Q):Ev (gSt 3 2 gs w L S) Q:=by
 refine LE hx ⟨by simp,jb (Nat.add_le_add_right hl 2) qg⟩ ?_
 have e:((x :: y :: xs).drop 2).take ((x :: y :: xs).length+1 - 3)=xs:=by simp
 have e2:((x :: y :: xs).drop 2).drop ((x :: y :: xs).length+1 - 3)=[]:=by simp
 rw[e,e2]
 exact h
theorem J8 {x y z:W} {xs:List W} (hx:yG S w=some (x :: y :: z :: xs)) (hl:xs.length<=16000) (h:Ev (gs [x,y,z,.lst xs] L S) Q):Ev (gSt 4 3 gs w L S) Q:=by
 refine LE hx ⟨by simp,jb (Nat.add_le_add_right hl 3) qg⟩ ?_
 have e:((x :: y :: z :: xs).drop 3).take ((x :: y :: z :: xs).length+1 - 4)=xs:=by simp
 have e2:((x :: y :: z :: xs).drop 3).drop ((x :: y :: z :: xs).length+1 - 4)=[]:=by simp
 rw[e,e2]
 exact h
theorem dG (h:Ev (a L S) λx S1=>Ev (b L S1) λy S2=>Ev (IE x y w S2) λ_ S3=>Q L S3):Ev (gIt a b w L S) Q:=by
 unfold gIt
 simp only[ZM,kW]
 exact h
end
section
variable {S S':Sto} {x v w:W} {ws:List W} {p:Unit} {cs:List Str} {f:Str} {P:Unit->Sto->Prop} {Q:W->Sto->Prop}
theorem AJ (h:LG cs f x v S=some (.ok p,S')) (q:P p S'):Ev (LG cs f x v S) P:=.of h q
theorem QJ {i:W} (h:IE x i v S=some (.ok p,S')) (q:P p S'):Ev (IE x i v S) P:=.of h q
theorem aO {i:W} (h:yI x i v S=some (.ok p,S')) (q:P p S'):Ev (yI x i v S) P:=.of h q
theorem uQ (h:O4 x ws S=some (.ok w,S')) (q:Q w S'):Ev (O4 x ws S) Q:=.of h q
theorem XX (h:KJ x ws S=some (.ok w,S')) (q:Q w S'):Ev (KJ x ws S) Q:=.of h q
end
theorem oT9 {c0:Bool} {P:Bool->Prop} (q:P c0):∃ c,W.bl c0=W.bl c/\P c:=⟨c0,rfl,q⟩
theorem yPF {c0:Int} {P:Int->Prop} (q:P c0):∃ c,W.int c0=W.int c/\P c:=⟨c0,rfl,q⟩
theorem jXU {c0:Str} {P:Str->Prop} (q:P c0):∃ c,W.str c0=W.str c/\P c:=⟨c0,rfl,q⟩
theorem XYH {c0:List Int} {P:List Int->Prop} (q:P c0):∃ c,W.scr c0=W.scr c/\P c:=⟨c0,rfl,q⟩
theorem eHW {α:Type} {o:Option α} {a:α} {P:α->Prop} (h:o=some a) (q:P a):∃ c,o=some c/\P c:=⟨a,h,q⟩
theorem OVK {S:Sto} {c0:Bool} {P:Bool->Prop} (q:P c0):∃ c,CZ S (.bl c0)=some c/\P c:=⟨c0,rfl,q⟩
theorem rM4 {a b:W} {P:W->W->Prop} (q:P a b):∃ x y,[a,b]=[x,y]/\P x y:=⟨a,b,rfl,q⟩
theorem S3X {a b c:W} {P:W->W->W->Prop} (q:P a b c):∃ x y z,[a,b,c]=[x,y,z]/\P x y z:=⟨a,b,c,rfl,q⟩
theorem ECE {j:Int} {P:Int->Prop} (h0:0<=j) (h1:j < 2 ^ 62) (q:P j):∃ i,[W.int j]=[W.int i]/\0<=i/\i < 2 ^ 62/\P i:=⟨j,rfl,h0,h1,q⟩
theorem TWv {w:W} {S:Sto} {xs:List W} {P:W->List W->Prop} (h:fA S w=some xs) (q:P w xs):∃ v ys,[w]=[v]/\fA S v=some ys/\P v ys:=⟨w,xs,rfl,h,q⟩
theorem JZ1 {c:Bool} {P:Prop} (h:c=true) (q:P):c=true/\P:=⟨h,q⟩
theorem NAF {α:Type} {o:Option α} {a:α} {P:Prop} (h:o=some a) (q:P):o=some a/\P:=⟨h,q⟩
theorem RGB {n m:Nat} {P:Prop} (h:decide (n < m)=true) (q:P):n < m/\P:=⟨of_decide_eq_true h,q⟩
theorem jIt {n m:Nat} {P:Prop} (h:decide (n<=m)=true) (q:P):n<=m/\P:=⟨of_decide_eq_true h,q⟩
section
variable {Q:W->Sto->Prop} {S:Sto} {i j:Int}
theorem CO1 (q:Q (.int (i+j)) S):Ev (opS MY (.int i) (.int j) S) Q:=q
theorem MT {a b:List W} (h:a.length+b.length<=lim) (q:Q (.lst (a++b)) S):Ev (opS MY (.lst a) (.lst b) S) Q:=G6 (show(if a.length+b.length<=lim then some (W.lst (a++b)) else none)=_ from if_pos h) q
theorem fKq {a b:List W} (h:a.length+b.length<=lim) (q:Q (.tup (a++b)) S):Ev (opS MY (.tup a) (.tup b) S) Q:=by
 refine G6 (w:=.tup (a++b)) ?_ q
 show(match (if a.length+b.length<=lim then some (W.tup (a++b)) else none) with|some w=>some w|none=>_)=_
 rw[if_pos h]
theorem M8R {a b:Str} (q:Q (.bl (decide (a=b))) S):Ev (opS (λS x y=>(eqW S x y).map W.bl) (.str a) (.str b) S) Q:=q
theorem qMd {a b:Str} (q:Q (.bl (!decide (a=b))) S):Ev (opS (λS x y=>(eqW S x y).map λb=>W.bl (!b)) (.str a) (.str b) S) Q:=q
theorem U0z (q:Q (.bl (decide (i=j))) S):Ev (opS (λS x y=>(eqW S x y).map W.bl) (.int i) (.int j) S) Q:=q
theorem d2h (q:Q (.bl (!decide (i=j))) S):Ev (opS (λS x y=>(eqW S x y).map λb=>W.bl (!b)) (.int i) (.int j) S) Q:=q
theorem zIY (q:Q (.int (i - j)) S):Ev (opS (λ_=>k6) (.int i) (.int j) S) Q:=q
theorem W9m (q:Q (.bl (decide (i < j))) S):Ev (opS (λ_=>ltW) (.int i) (.int j) S) Q:=q
theorem rMY (q:Q (.bl (decide (i<=j))) S):Ev (opS (λ_=>leW) (.int i) (.int j) S) Q:=q
theorem n5j (q:Q (.bl (decide (j < i))) S):Ev (opS (λ_=>gtW) (.int i) (.int j) S) Q:=q
theorem K5v (q:Q (.bl (decide (j<=i))) S):Ev (opS (λ_=>geW) (.int i) (.int j) S) Q:=q
theorem y4 (h:0 < j) (q:Q (.int (i % j)) S):Ev (opS (λ_=>YE) (.int i) (.int j) S) Q:=G6 (show(if 0 < j then some (W.int (i % j)) else none)=_ from if_pos h) q
theorem zH (h:0 < j) (h2:j < 1073741824) (q:Q (.int (i / j)) S):Ev (opS (λ_=>NL) (.int i) (.int j) S) Q:=G6 (show(if 0 < j/\j < 1073741824 then some (W.int (i / j)) else none)=_ from if_pos ⟨h,h2⟩) q
theorem fF (h : -(2 ^ 64) < i) (h2:i < 2 ^ 64) (q:Q (.int (i * j)) S):Ev (opS (λ_=>N9) (.int i) (.int j) S) Q:=G6 (show(if xO i j then some (W.int (i * j)) else none)=_ from if_pos (by unfold xO;rw[decide_eq_true h,decide_eq_true h2];rfl)) q
theorem DA (h : -(2 ^ 64) < j) (h2:j < 2 ^ 64) (q:Q (.int (i * j)) S):Ev (opS (λ_=>N9) (.int i) (.int j) S) Q:=G6 (show(if xO i j then some (W.int (i * j)) else none)=_ from if_pos (by unfold xO;rw[decide_eq_true h,decide_eq_true h2];simp)) q
theorem gD (h:0<=j) (h1:j<=1000000) (h2:i.natAbs < 2 ^ 64) (q:Q (.int (i ^ j.toNat)) S):Ev (opS (λ_=>sE) (.int i) (.int j) S) Q:=G6 (show(if 0<=j/\j<=1000000/\i.natAbs < 2 ^ 64 then some (W.int (i ^ j.toNat)) else none)=_ from if_pos ⟨h,h1,h2⟩) q
end
theorem nN {c:Bool} {p q:Prop} (hc:c=true) (h:p):if c=true then p else q:=by rw[if_pos hc];exact h
theorem RD {c:Bool} {p q:Prop} (hc:c=false) (h:q):if c=true then p else q:=by rw[if_neg (by rw[hc];decide)];exact h
theorem UL {c:Bool} {p q:Prop} (h:c=true->p) (k:c=false->q):if c=true then p else q:=by
 cases c
 ·exact RD rfl (k rfl)
 ·exact nN rfl (h rfl)
theorem eE2 {α:Type} {c:Bool} {r r':Option (Res α × Sto)} {Q Q':α->Sto->Prop} (h:if c=true then Ev r Q' else Ev r' Q') (k:∀ a S,Q' a S->Q a S):if c=true then Ev r Q else Ev r' Q:=by
 cases c
 ·exact Ev.imp (by simpa using h) k
 ·exact Ev.imp (by simpa using h) k
theorem bNj {α:Type} {r:Option (Res α × Sto)} {p:α} {S':Sto} {Q:α->Sto->Prop} (h:r=some (.ok p,S')) (q:Q p S'):Ev r Q:=Ev.of h q
end
theorem EA {α:Type} {xs:List α} {i:Int} (h0:0<=i) (h1:i < xs.length):atI xs i=xs[i.toNat]?:=by
 unfold atI ixN
 rw[if_pos h0,if_pos h1]
 rfl
theorem IM {S:Sto} {x:W} {xs:List W} {i:Int} (hx:yG S x=some xs) (ns:∀ z,x ≠ .str z) (h0:0<=i) (h1:i < xs.length):∃ w,w ∈ xs/\xs[i.toNat]? = some w/\ixW S x (.int i)=some w:=by
 have h2:i.toNat < xs.length:=by omega
 have e:ixW S x (.int i)=(yG S x).bind λxs=>atI xs i:=by
  cases x with
  | str z=>exact absurd rfl (ns z)
  | _=>rfl
 refine⟨xs[i.toNat],zg h2,qz h2,?_⟩
 rw[e,hx]
 show atI xs i=_
 rw[EA h0 h1,qz h2]
section
variable {S:Sto} {L:Lo} {w x y:W} {xs:List W} {a:Lo->M W} {as:Lo->M (List W)} {Q:Itm->Sto->Prop}
theorem kT (h:Ev (a L S) λw S'=>∃ xs,yG S' w=some xs/\Q ⟨xs,λS=>yG S w=some xs⟩ S'):Ev (pD a L S) Q:=by
 unfold pD
 refine evB ?_
 refine h.imp ?_
 rintro w S' ⟨xs,e,q⟩
 rw[e]
 exact q
theorem rS (h:Ev (a L S) λw S'=>∃ z:Str,w = .str z/\Q ⟨z.cps.toList.map λc=>.str ⟨#[c]⟩,λ_=>True⟩ S'):Ev (Y7 a L S) Q:=by
 unfold Y7
 refine evB ?_
 refine h.imp ?_
 rintro w S' ⟨xs,rfl,q⟩
 exact q
theorem cM (h:Ev (a L S) λw S'=>∃ ns,w = .scr ns/\Q ⟨ns.map .int,λ_=>True⟩ S'):Ev (MQ a L S) Q:=by
 unfold MQ
 refine evB ?_
 refine h.imp ?_
 rintro w S' ⟨xs,rfl,q⟩
 exact q
theorem dQ (h:Ev (as L S) λws S'=>∃ j:Int,ws=[.int j]/\0<=j/\j < 2 ^ 62/\Q (lS 0 j) S'):Ev (itR1 as L S) Q:=by
 unfold itR1
 refine evB ?_
 refine h.imp ?_
 rintro w S' ⟨j,rfl,h0,h1,q⟩
 show Ev ((if -(2 ^ 62)<=j/\j < 2 ^ 62 then M.ret (lS 0 j) else GG) S') Q
 rw[if_pos ⟨by omega,h1⟩]
 exact q
theorem JT (h:Ev (as L S) λws S'=>∃ w xs,ws=[w]/\fA S' w=some xs/\Q ⟨xs.zipIdx.map λp=>.tup [.int (p.2:Nat),p.1],λS=>fA S w=some xs⟩ S'):Ev (TC as L S) Q:=by
 unfold TC
 refine evB ?_
 refine h.imp ?_
 rintro ws S' ⟨w,xs,rfl,e,q⟩
 show Ev (match fA S' w with
  | some xs=>some (.ok ⟨xs.zipIdx.map λp=>.tup [.int (p.2:Nat),p.1],λS=>fA S w=some xs⟩,S')
  | none=>none) Q
 rw[e]
 exact q
end
section
variable {p:Sto->Prop} {g:W->Lo->M Lo} {t:Lo->M Bool} {e:Lo->M W} {vs:List Nat} {L:Lo} {Q:List W->Sto->Prop}
theorem fY4 {f:List W->M W} {it:Lo->M Itm} {S:Sto} {Q:W->Sto->Prop} (h:Ev (it L S) λI S'=>Ev (GH I.live g t e vs L I.items [] S') λws S''=>Ev (f ws S'') Q):Ev (wK f it g t e vs L S) Q:=by
 unfold wK
 simp only[ZM]
 exact h
theorem vZ {S:Sto} {ws:List W} {Q:W->Sto->Prop} (q:Q (.lst ws) S):Ev (VR ws S) Q:=q
theorem n2o {S:Sto} {ws:List W} {Q:W->Sto->Prop} (q:Q (.ref S.length) (S++[.lst ws])):Ev (jYA ws S) Q:=q
theorem rG {S:Sto} {acc:List W} (hp:p S) (q:Q acc S):Ev (GH p g t e vs L [] acc S) Q:=by
 unfold GH
 refine evB ?_
 exact CQ hp q
theorem EL {S:Sto} {acc acc':List W} (hp:p S) (he:acc=acc') (q:Q acc' S):Ev (GH p g t e vs L [] acc S) Q:=rG hp (he ▸ q)
theorem tK {S:Sto} {x:W} {xs acc:List W} (hp:p S) (h:Ev (g x (YW L vs) S) λL' S1=>Ev (t L' S1) λk S2=>if k=true then Ev (e L' S2) λw S3=>acc.length < lim/\Ev (GH p g t e vs L xs (acc++[w]) S3) Q else Ev (GH p g t e vs L xs acc S2) Q):Ev (GH p g t e vs L (x :: xs) acc S) Q:=by
 rw[GH]
 refine evB (CQ hp ?_)
 refine evB (h.imp λL' S1 h2=>evB (h2.imp λk S2 h3=>?_))
 cases k with
 | false=>exact h3
 | true=>
  refine evB (Ev.imp (show Ev (e L' S2) _ from h3) λw S3 h4=>?_)
  rw[if_pos h4.1]
  exact h4.2
theorem lT (I:List W->List W->Sto->Prop) (step:∀ x xs acc S,I (x :: xs) acc S->p S/\Ev (g x (YW L vs) S) λL' S1=>Ev (t L' S1) λk S2=>if k=true then Ev (e L' S2) λw S3=>acc.length < lim/\I xs (acc++[w]) S3 else I xs acc S2)
  (last:∀ acc S,I [] acc S->p S/\Q acc S):∀ xs acc S,I xs acc S->Ev (GH p g t e vs L xs acc S) Q
 | [],acc,S,h=>by
  unfold GH
  refine evB ?_
  exact CQ (last acc S h).1 (last acc S h).2
 | x :: xs,acc,S,h=>by
  obtain⟨hp,h1⟩:=step x xs acc S h
  unfold GH
  refine evB ?_
  refine CQ hp ?_
  refine evB ?_
  refine h1.imp λL' S1 h2=>?_
  refine evB ?_
  refine h2.imp λk S2 h3=>?_
  cases k with
  | false=>exact lT I step last xs acc S2 h3
  | true=>
   show Ev (M.bind (e L') (λw=>if acc.length < lim then GH p g t e vs L xs (acc++[w]) else GG) S2) Q
   refine evB ?_
   refine Ev.imp (show Ev (e L' S2) _ from h3) λw S3 h4=>?_
   rw[if_pos h4.1]
   exact lT I step last xs (acc++[w]) S3 h4.2
theorem rL {S:Sto} {xs:List W} (f:W->W) (hp:p S) (hl:xs.length<=lim) (step:∀ x ∈ xs,∀ R:W->Sto->Prop,R (f x) S->Ev (g x (YW L vs) S) λL' S1=>Ev (t L' S1) λk S2=>if k=true then Ev (e L' S2) R else False) (last:Q (xs.map f) S):Ev (GH p g t e vs L xs [] S) Q:=by
 refine lT (λys acc S'=>S'=S/\(∀ y ∈ ys,y ∈ xs)/\acc++ys.map f=xs.map f) ?_ ?_ xs [] S ⟨rfl,λ_ h=>h,rfl⟩
 ·rintro x ys acc S' ⟨rfl,sub,eq⟩
  refine⟨hp,(step x (sub x qw) (λw S3=>acc.length < lim/\(S3=S'/\(∀ y ∈ ys,y ∈ xs)/\(acc++[w])++ys.map f=xs.map f)) ⟨?_,rfl,λy h=>sub y (qy _ h),by simpa using eq⟩).imp λL' S1 h=>h.imp λk S2 h=>?_⟩
  ·have:=congrArg yx eq
   simp at this
   omega
  ·cases k
   ·exact False.elim (by simpa using h)
   ·simpa using h
 ·rintro acc S' ⟨rfl,_,eq⟩
  refine⟨hp,?_⟩
  rw[zx,jw] at eq
  rw[eq]
  exact last
theorem nZ {S:Sto} {xs acc:List W} (f:W->W) (hp:p S) (hl:acc.length+xs.length<=lim) (step:∀ x ∈ xs,∀ R:W->Sto->Prop,R (f x) S->Ev (g x (YW L vs) S) λL' S1=>Ev (t L' S1) λk S2=>if k=true then Ev (e L' S2) R else False) (last:Q (acc++xs.map f) S):Ev (GH p g t e vs L xs acc S) Q:=by
 refine lT (λys acc' S'=>S'=S/\(∀ y ∈ ys,y ∈ xs)/\acc'++ys.map f=acc++xs.map f) ?_ ?_ xs acc S ⟨rfl,λ_ h=>h,rfl⟩
 ·rintro x ys acc' S' ⟨rfl,sub,eq⟩
  refine⟨hp,(step x (sub x qw) (λw S3=>acc'.length < lim/\(S3=S'/\(∀ y ∈ ys,y ∈ xs)/\(acc'++[w])++ys.map f=acc++xs.map f)) ⟨?_,rfl,λy h=>sub y (qy _ h),by simpa using eq⟩).imp λL' S1 h=>h.imp λk S2 h=>?_⟩
  ·have:=congrArg yx eq
   simp at this
   omega
  ·cases k
   ·exact False.elim (by simpa using h)
   ·simpa using h
 ·rintro acc' S' ⟨rfl,_,eq⟩
  refine⟨hp,?_⟩
  rw[zx,jw] at eq
  rw[eq]
  exact last
end
section
variable {p:Sto->Prop} {g g1:W->Lo->M Lo} {t t1:Lo->M Bool} {it1:Lo->M Itm} {e:Lo->M W} {vs vs1:List Nat} {L:Lo} {Q:List W->Sto->Prop} {S:Sto}
theorem R4F {f:List W->M W} {it:Lo->M Itm} {Q:W->Sto->Prop} (h:Ev (it L S) λI S'=>Ev (N1 I.live g t it1 g1 t1 e vs vs1 L I.items [] S') λws S''=>Ev (f ws S'') Q):Ev (YZ f it g t it1 g1 t1 e vs vs1 L S) Q:=by
 unfold YZ
 simp only[ZM]
 exact h
theorem V3 {acc acc':List W} (hp:p S) (he:acc=acc') (q:Q acc' S):Ev (N1 p g t it1 g1 t1 e vs vs1 L [] acc S) Q:=by
 unfold N1
 refine evB (CQ hp ?_)
 subst he
 exact q
theorem L9 {x:W} {xs acc:List W} (hp:p S) (h:Ev (g x (YW L vs) S) λL' S1=>Ev (t L' S1) λk S2=>if k=true then Ev (it1 L' S2) λI S3=>Ev (GH I.live g1 t1 e vs1 L' I.items acc S3) λacc' S4=>Ev (N1 p g t it1 g1 t1 e vs vs1 L xs acc' S4) Q else Ev (N1 p g t it1 g1 t1 e vs vs1 L xs acc S2) Q):Ev (N1 p g t it1 g1 t1 e vs vs1 L (x :: xs) acc S) Q:=by
 rw[N1]
 refine evB (CQ hp (evB (h.imp λL' S1 h2=>evB (h2.imp λk S2 h3=>?_))))
 cases k with
 | false=>exact h3
 | true=>exact evB (Ev.imp (show Ev (it1 L' S2) _ from h3) λI S3 h4=>evB h4)
end
section
variable {p:Sto->Prop} {g g1:W->Lo->M Lo} {t t1:Lo->M Bool} {it it1:Lo->M Itm} {k e:Lo->M W} {vs vs1:List Nat} {L:Lo} {S:Sto} {Q:List (Key × W)->Sto->Prop} {x:W} {xs:List W} {acc:List (Key × W)}
theorem I1V {Q:W->Sto->Prop} (h:Ev (it L S) λI S'=>Ev (EZ I.live g t it1 g1 t1 k e vs vs1 L I.items [] S') λkvs S''=>Q (.dk (kvs.map (·.1)) (kvs.map (·.2))) S''):Ev (ZUV it g t it1 g1 t1 k e vs vs1 L S) Q:=by
 unfold ZUV
 simp only[ZM]
 exact h
theorem XH (hp:p S) (q:Q acc S):Ev (EZ p g t it1 g1 t1 k e vs vs1 L [] acc S) Q:=by
 unfold EZ
 exact evB (CQ hp q)
theorem wX (hp:p S) (h:Ev (g x (YW L vs) S) λL' S1=>Ev (t L' S1) λc S2=>if c=true then Ev (it1 L' S2) λI S3=>Ev (WW I.live g1 t1 k e vs1 L' I.items acc S3) λacc' S4=>Ev (EZ p g t it1 g1 t1 k e vs vs1 L xs acc' S4) Q else Ev (EZ p g t it1 g1 t1 k e vs vs1 L xs acc S2) Q):Ev (EZ p g t it1 g1 t1 k e vs vs1 L (x :: xs) acc S) Q:=by
 rw[EZ]
 refine evB (CQ hp (evB (h.imp λL' S1 h2=>evB (h2.imp λc S2 h3=>?_))))
 cases c with
 | false=>exact h3
 | true=>exact evB (Ev.imp (show Ev (it1 L' S2) _ from h3) λI S3 h4=>evB h4)
theorem aH (hp:p S) (q:Q acc S):Ev (WW p g t k e vs L [] acc S) Q:=by
 unfold WW
 exact evB (CQ hp q)
theorem DJ (hp:p S) (h:Ev (g x (YW L vs) S) λL' S1=>Ev (t L' S1) λc S2=>if c=true then Ev (k L' S2) λy S3=>Ev (e L' S3) λz S4=>∃ key,mS y=some key/\acc.length < lim/\Ev (WW p g t k e vs L xs (pK acc key z) S4) Q else Ev (WW p g t k e vs L xs acc S2) Q):Ev (WW p g t k e vs L (x :: xs) acc S) Q:=by
 rw[WW]
 refine evB (CQ hp (evB (h.imp λL' S1 h2=>evB (h2.imp λc S2 h3=>?_))))
 cases c with
 | false=>exact h3
 | true=>
  refine evB (Ev.imp (show Ev (k L' S2) _ from h3) λy S3 h4=>evB (h4.imp ?_))
  rintro z S4 ⟨key,e1,l,q⟩
  rw[e1]
  show Ev ((if acc.length < lim then WW p g t k e vs L xs (pK acc key z) else GG) S4) Q
  rw[if_pos l]
  exact q
theorem cS {a:Lo->M W} {Q:W->Sto->Prop} (h:Ev (a L S) λw S'=>∃ zs,(fA S' w).bind w8=some zs/\zs.length<=1000/\Q (.int (WA zs).length) S'):Ev (sZ a L S) Q:=by
 refine evB (h.imp ?_)
 rintro w S' ⟨zs,e,l,q⟩
 show Ev (match (fA S' w).bind w8 with
  | some zs=>if zs.length<=1000 then some (.ok (.int (WA zs).length),S') else none
  | none=>none) Q
 rw[e]
 show Ev (if zs.length<=1000 then some (.ok (.int (WA zs).length),S') else none) Q
 rw[if_pos l]
 exact q
end
end
end Mi
namespace Mi
open PySem PySem.Spec
open PyProof.Rows L2 Cp
noncomputable section
def tJ (x:W) (ws:List W):Option W:=match x,ws with
 | .str a,[.str b]=>if (b.length == 0)=false/\a.length+2<=lim then some (.lst ((Txt.split a b).map .str)) else none
 | _,_=>none
def FF:W->List W->M W:=λx ws S=>gL (tJ x ws) S
section
variable {K:qk} {G:Str->Addr}
theorem aY {ρ:Rho} {H:Hp}:∀ {zs:List Str},RVs K G ρ H (zs.map W.str) (zs.map V.str)
 | []=>.nil
 | z :: zs=>.cons (.str z) aY
theorem pN:OkM K G "str" (λx xs H Q=>∃ a b,x = .str a/\xs=[.str b]/\(b.length == 0)=false/\a.length+2<=sizeLine/\rNewStrs (Txt.split a b) H Q) eF FF:=⟨R4C,by
 intro X ρ S H x vx ws vs Q rel rx rs gd
 obtain⟨w,hw,g2⟩:=Good.lift (o:=tJ x ws) gd
 unfold tJ at hw
 split at hw
 ·split at hw
  ·rename_i a b hl
   cases hw
   obtain⟨v,rfl,rv⟩:=rs.one
   cases rv
   cases rx
   exact⟨_,_,rfl,rfl,hl.1,jb hl.2 qg,g2.newL rel aY⟩
  ·cases hw
 ·cases hw⟩
end
end
end Mi
namespace Mi
open PySem PySem.Spec
open PyProof.Rows L2 Cp
noncomputable section
def Q4 {α:Type} (ix:List Nat) (zs:List α):List α:=ix.filterMap λi=>zs[i]?
theorem OQ:∀ {vs:List V} {us:List Value},Vals vs us->∀ i:Nat,(vs[i]? = none/\us[i]? = none) \/ ∃ v u,vs[i]? = some v/\us[i]? = some u/\Vals [v] [u]
 | _,_,.nil,i=>.inl ⟨by simp,by simp⟩
 | _,_,.cons h t,0=>.inr ⟨_,_,rfl,rfl,.cons h .nil⟩
 | _,_,.cons h t,i+1=>by simpa using OQ t i
theorem iM {vs:List V} {us:List Value} (h:Vals vs us):∀ ix:List Nat,Vals (Q4 ix vs) (Q4 ix us)
 | []=>.nil
 | i :: ix=>by
  have ih:=iM h ix
  unfold Q4 at ih ⊢
  rcases OQ h i with⟨e1,e2⟩|⟨v,u,e1,e2,r⟩
  ·rw[yr e1,yr e2]
   exact ih
  ·rw[yq e1,yq e2]
   cases r with
   | cons r _=>exact .cons r ih
section
variable {ι:Type} {c:ι->Cx} {K:qk} {G:Str->Addr} {X:W->Rho->Hp->Prop}
structure QKw (c:ι->Cx) (K:qk) (G:Str->Addr) (X:W->Rho->Hp->Prop) (kws:List Keyword) (m:Lo->M (List W)):Prop where
 ex:∃ t,(∀ i,PK (c i) kws t)/\RA K G X t m
theorem ZR:QKw c K G X [] JN:=by
 obtain⟨t,_,r1⟩:=(R5 (c:=c) (K:=K) (G:=G) (X:=X)).ex
 exact⟨tNil,λ_=>pk_nil,⟨λrel rl g=>g.ok rel [] .nil⟩⟩
theorem qN {nm:Option Str} {e:Expr} {kpos:Pos} {kws:List Keyword} {ma:Lo->M W} {ms:Lo->M (List W)} (ha:QE c K G X e ma) (hr:QKw c K G X kws ms):QKw c K G X (⟨nm,e,kpos⟩ :: kws) (O9 ma ms):=by
 obtain⟨t,h1,h2⟩:=ha.ex
 obtain⟨u,h3,h4⟩:=hr.ex
 refine⟨_,λi=>pk_cons (h1 i) (h3 i),⟨?_⟩⟩
 intro ρ S H L σ Q rel rl g
 refine h2.run rel rl (g.bind.imp λx S1 ρ1 H1 e1 r1 g1 vx rx=>?_)
 refine h4.run r1 (rl.mono e1) (g1.bind.imp λxs S2 ρ2 H2 e2 r2 g2 vs rs=>?_)
 exact g2.ok r2 _ (.cons (rx.mono e2) rs)
theorem IV {ρ:Rho} {H:Hp} {ws:List W} {vs:List V} (h:RVs K G ρ H ws vs):∀ ix:List Nat,RVs K G ρ H (Q4 ix ws) (Q4 ix vs)
 | []=>.nil
 | i :: ix=>by
  have ih:=IV h ix
  unfold Q4 at ih ⊢
  cases e1:ws[i]? with
  | none=>
   have e2:vs[i]? = none:=by
    rw[List.getElem?_eq_none_iff] at e1 ⊢
    rw[<- h.length]
    exact e1
   rw[yr e1,yr e2]
   exact ih
  | some w=>
   obtain⟨v,e2,rv⟩:=h.get e1
   rw[yq e1,yq e2]
   exact .cons rv ih
end
end
end Mi
namespace Mi
open PySem PySem.Spec
open PyProof.Rows L2 Cp
noncomputable section
def mOr (m1 m2:Lo->M W):Lo->M W:=λL S=>match m1 L S with
 | none=>m2 L S
 | some r=>some r
section
variable {ι:Type} {c:ι->Cx} {K:qk} {G:Str->Addr} {X:W->Rho->Hp->Prop} {e:Expr} {m1 m2:Lo->M W}
end
theorem NXE {m1 m2:Lo->M W} {L:Lo} {S:Sto} {Q:W->Sto->Prop} (h:Ev (m1 L S) Q):Ev (mOr m1 m2 L S) Q:=by
 obtain⟨a,S',e,q⟩:=h.ex
 unfold mOr
 rw[e]
 exact q
theorem VAR {m1 m2:Lo->M W} {L:Lo} {S:Sto} {Q:W->Sto->Prop} (e:m1 L S=none) (h:Ev (m2 L S) Q):Ev (mOr m1 m2 L S) Q:=by
 unfold mOr
 rw[e]
 exact h
theorem OM {m c1:Str} {f1:List W->M W} {i:Nat} {as:Lo->M (List W)} {m2:Lo->M W} {L:Lo} {S:Sto} {Q:W->Sto->Prop} {w:W} (hv:L[i]?.join=some w) (hc:LP S m w=some c1) (h:Ev (as L S) λws S''=>Ev (f1 (w :: ws) S'') Q):Ev (mOr (PL c1 m f1 (uV i) as) m2 L S) Q:=
 NXE (CV (C6 hv ⟨hc,h⟩))
theorem rR {m c1 c2:Str} {f1 f2:List W->M W} {i:Nat} {as:Lo->M (List W)} {L:Lo} {S:Sto} {Q:W->Sto->Prop} {w:W} (hv:L[i]?.join=some w) (hc:LP S m w=some c2) (ne:c2 ≠ c1) (h:Ev (as L S) λws S''=>Ev (f2 (w :: ws) S'') Q):Ev (mOr (PL c1 m f1 (uV i) as) (PL c2 m f2 (uV i) as) L S) Q:=by
 refine VAR ?_ (CV (C6 hv ⟨hc,h⟩))
 have e:uV i L S=some (.ok w,S):=by
  unfold uV
  rw[hv]
  rfl
 have e2:BQ c1 m w S=none:=by
  unfold BQ
  rw[if_neg (by rw[hc];exact λz=>ne (Option.some.inj z))]
 unfold PL
 show M.bind (uV i L) _ S=none
 unfold M.bind
 rw[e]
 show M.bind (BQ c1 m w) _ S=none
 unfold M.bind
 rw[e2]
end
end Mi
namespace Mi
open PySem PySem.Spec
open PyProof.Rows L2 Cp
noncomputable section
section
variable {ι:Type} {c:ι->Cx} {K:qk} {G:Str->Addr} {X:W->Rho->Hp->Prop} {a tg:Expr} {p pos:Pos} {ms:Lo->M (List W)}
end
end
end Mi
namespace Mi
open PySem PySem.Spec
open PyProof.Rows L2 Cp
noncomputable section
theorem XW {ι:Type} {c:ι->Cx} {K:qk} {G:Str->Addr} {X:W->Rho->Hp->Prop} {n:Int} {j:Nat} {p1 p2:Pos}:QE c K G X (.UnaryOp .USub (.Constant (.int n) j p1) p2) (mC (.int (-n))):=by
 refine⟨_,λi=>pe_un un_neg pe_int,⟨?_⟩⟩
 intro ρ S H L σ Q rel rl gd
 exact⟨n,rfl,gd.ok rel _ (.int _)⟩
end
end Mi
namespace Mi
open PySem PySem.Spec
open PyProof.Rows L2 Cp
noncomputable section
def E7I (kvs:List (Key × W)):M W:=λS=>some (.ok (.ref S.length),S++[.dk kvs])
def P0C (f:List (Key × W)->M W) (it:Lo->M Itm) (g:W->Lo->M Lo) (t:Lo->M Bool) (k e:Lo->M W) (vs:List Nat):Lo->M W:=λL=>(it L).bind λI=>(WW I.live g t k e vs L I.items []).bind f
def MBm (K:qk) (G:Str->Addr) (f:List (Key × W)->M W):Prop:=∀ {X:W->Rho->Hp->Prop} {ρ ρ1:Rho} {H H1:Hp} {S S1:Sto} {D:Addr} {kvs:List (Key × W)} {vs:List (Key × V)} {Q:VK},Rel K G ρ H S->H D=none->Way K G ρ H D ρ1 H1 S1->H1 D=some (.dK vs)->RKs K G ρ1 H1 kvs vs->Good K G X ρ H (f kvs S1) (KL K G Q)->Q (.ref D) H1
section
variable {K:qk} {G:Str->Addr}
theorem PRM:MBm K G E7I:=by
 intro X ρ ρ1 H H1 S S1 D kvs vs Q rel hD w h r gd
 obtain⟨e4,r4,p4⟩:=w.place rel hD (o:=.dk kvs) λre=>⟨vs,h,RKs.re re r⟩
 exact gd _ _ e4 r4 _ (.ref p4)
end
section
variable {ι:Type} {c:ι->Cx} {K:qk} {G:Str->Addr} {X:W->Rho->Hp->Prop} {tg:Expr} {pos:Pos} {mk_ mv:Lo->M W} {ka:Lo->M Bool} {ws:List Nat} {g:W->Lo->M Lo} {it:Lo->M Itm}
theorem RI.dcB {f:List (Key × W)->M W} {wi:TI} {t:TG} {tt:TT} {tk tv:TE} {vs:List Nat} (fin:MBm K G f) (hi:RI K G X wi it) (hg:RGt K G X t ws g) (ht:RT K G X tt ka) (hk:RE K G X tk mk_) (he:RE K G X tv mv) (sub:∀ i ∈ ws,i ∈ vs) :
  RE K G X (tDc wi t tt tk tv vs) (P0C f it g ka mk_ mv vs):=⟨by
 intro ρ S H L σ Q rel rl gd
 refine hi.run rel rl ((Good.bind gd).imp λI S1 ρ1 H1 e1 r1 gI J hJ=>?_)
 intro D hD
 have sD:=T5 (o:=.dK []) hD
 refine⟨λi m Hc=>m=I.items.length - i/\i<=I.items.length/\∃ ρc Sc acc vacc,Way K G ρ1 H1 D ρc Hc Sc/\Hc D=some (.dK vacc)/\RKs K G ρc Hc acc vacc/\Good K G X ρ1 H1 (M.bind (WW I.live g ka mk_ mv vs L (I.items.drop i) acc) f Sc) (KL K G Q),⟨I.items.length,by simp,jf _,_,S1,[],[],.start r1 sD hD (by rw[upd_same];simp),upd_same,.nil,gI⟩,?_⟩
 rintro i m Hc ⟨rfl,hi',ρc,Sc,acc,vacc,w,hd,racc,gc⟩
 rcases yb hi' with lt|rfl
 ·obtain⟨x,hx⟩:∃ x,I.items[i]? = some x:=⟨I.items[i],qz lt⟩
  have ex:I.items[i]=x:=by
   rw[qz lt] at hx
   exact Option.some.inj hx
  rw[zi lt,ex] at gc
  unfold WW at gc
  rw[cC] at gc
  obtain⟨lv,g2⟩:=WP (Good.bindB gc w.ext)
  obtain⟨_,hit⟩:=hJ ρc Hc Sc w.ext.re w.rel lv
  obtain⟨go,yl⟩:=hit i x hx
  have g3:=g2.ok w.rel
  rw[cC] at g3
  refine .inr ⟨go,λH2=>∃ ρc Sc acc vacc,Way K G ρ1 H1 D ρc H2 Sc/\H2 D=some (.dK vacc)/\RKs K G ρc H2 acc vacc/\Good K G X ρ1 H1 (M.bind (WW I.live g ka mk_ mv vs L (I.items.drop (i+1)) acc) f Sc) (KL K G Q),λH2 q=>⟨I.items.length - (i+1),by omega,rfl,lt,q⟩,λv H2 yv=>?_⟩
  obtain⟨sm,rv⟩:=yl v H2 yv
  have w2:=w.go (.same sm) (w.rel.same sm) (by rw[hd];simp)
  have hd2:=sm _ _ hd
  have racc2:=racc.mono (.same sm)
  have rl2:RL K G ρc H2 (YW L vs) (wipe σ vs):=((rl.mono e1).mono w2.ext).wipe vs
  refine hg.run w2.rel rl2 rv ((Good.bindB g3 w2.ext).imp λL' S3 ρ3 H3 e3 r3 g4 σ3 rl3 on3=>?_)
  have w3:=w2.go e3 r3 (by rw[hd2];simp)
  have hd3:=w2.keep e3 hd2
  have racc3:=racc2.mono e3
  refine⟨(T9 on3 sub).trans xT,ht.run w3.rel rl3 ?_⟩
  rw[cC] at g4
  refine(Good.bindB g4 w3.ext).imp λb S4 ρ4 H4 e4 r4 g5=>?_
  have w4:=w3.go e4 r4 (by rw[hd3];simp)
  have hd4:=w3.keep e4 hd3
  have racc4:=racc3.mono e4
  cases b with
  | false=>exact⟨ρ4,S4,acc,vacc,w4,hd4,racc4,g5⟩
  | true=>
   simp only[if_true] at g5 ⊢
   rw[cC] at g5
   refine hk.run w4.rel (rl3.mono e4) ((Good.bindB g5 w4.ext).imp λy S5 ρ5 H5 e5 r5 g6 vy ry=>?_)
   have w5:=w4.go e5 r5 (by rw[hd4];simp)
   have hd5:=w4.keep e5 hd4
   have racc5:=racc4.mono e5
   rw[cC] at g6
   refine he.run w5.rel ((rl3.mono e4).mono e5) ((Good.bindB g6 w5.ext).imp λz S6 ρ6 H6 e6 r6 g7 vz rz=>?_)
   have w6:=w5.go e6 r6 (by rw[hd5];simp)
   have hd6:=w5.keep e6 hd5
   have racc6:=racc5.mono e6
   split at g7
   ·rename_i key hkey
    split at g7
    ·rename_i hl
     have b7:But D H6 (upd H6 D (.dK (putK vacc key vz))):=λ_ ne=>upd_ne ne
     have re7:Re ρ6 H6 ρ6 (upd H6 D (.dK (putK vacc key vz))):=.but b7 w6.b (by rw[hd6];simp) (by rw[hd6];simp)
     exact⟨vacc,key,HV ry hkey,hd6,jz (by rw[<- RKs.length racc6];exact hl) (by decide:lim<=sizeLine),ρ6,S6,pK acc key z,putK vacc key vz,w6.set b7 hD (by rw[hd6];simp) (by rw[upd_same];simp),upd_same,RKs.re re7 (oM racc6 rz),g7⟩
    ·exact g7.elim
   ·exact g7.elim
 ·rw[yi] at gc
  unfold WW at gc
  rw[cC] at gc
  obtain⟨lv,g2⟩:=WP (Good.bindB gc w.ext)
  exact .inl ⟨(hJ ρc Hc Sc w.ext.re w.rel lv).1,fin r1 hD w hd racc (g2.ok w.rel)⟩⟩
theorem bQ9 {f:List (Key × W)->M W} {iter kx vx:Expr} {ifs:List Expr} {scope:Scope} {own:List (Str × Nat)} (fin:MBm K G f) (cx:Ctx c K) (nd:∀ q,(c q).N.Nodup) (hi:QI c K G X tg iter it) (ok:∀ q,BlkOk (c q).N (c q).env.scope scope own)
  (hg:QG (blk c scope) K G X tg ws g) (ht:QTs (blk c scope) K G X ifs ka) (hk:QE (blk c scope) K G X kx mk_) (he:QE (blk c scope) K G X vx mv) (sub:∀ i ∈ ws,i ∈ own.map (·.2)) (hs:∀ q x,foldedSetIterable iter (c q).env x=pure x:=by exact λ_ _=>rfl) :
  QE c K G X (.DictComp kx vx [⟨tg,iter,ifs,0⟩] scope pos) (P0C f it g ka mk_ mv (own.map (·.2))):=by
 obtain⟨wi,p1,r1⟩:=hi.ex
 obtain⟨t,p2,r2⟩:=hg.ex
 obtain⟨tt,p3,r3⟩:=ht.ex
 obtain⟨tk,p4,r4⟩:=hk.ex
 obtain⟨tv,p5,r5⟩:=he.ex
 exact⟨_,λq=>pe_dc (cx.calm q) (nd q) (p1 q) (ok q) (λs H C cl fp=>p2 (q,s,H,C,cl,fp)) (λs H C cl fp=>p3 (q,s,H,C,cl,fp)) (λs H C cl fp=>p4 (q,s,H,C,cl,fp)) (λs H C cl fp=>p5 (q,s,H,C,cl,fp)) (hs q),r1.dcB fin r2 r3 r4 r5 sub⟩
def gDi (o i:Lo->M W):W->Lo->M Lo:=λw L=>(o L).bind λx=>(i L).bind λy=>(yI x y w).bind λ_=>M.ret L
theorem lJg {ρ:Rho} {H:Hp} {S:Sto} {o i v:W} {vo vi vv:V} {k:Unit->Sto->Rho->Hp->Prop} {Q:Hp->Prop} (rel:Rel K G ρ H S) (ro:RV K G ρ H o vo) (ri:RV K G ρ H i vi) (rv:RV K G ρ H v vv)
  (gd:Good K G X ρ H (yI o i v S) k) (hk:∀ S' H',Ext ρ H ρ H'->Rel K G ρ H' S'->k () S' ρ H'->Q H'):rSetD vo vi vv H Q:=by
 unfold yI at gd
 split at gd
 ·cases ro with
  | ref e=>
   split at gd
   ·rename_i kvs hs
    split at gd
    ·rename_i key hkey
     split at gd
     ·rename_i hl
      obtain⟨vs,h1,r⟩:=rel.ref e hs
      refine⟨_,_,rfl,.inl ⟨vs,key,h1,HV ri hkey,jz (by rw[<- RKs.length r];exact hl) (by decide:lim<=sizeLine),rfl⟩,?_⟩
      obtain⟨ee,rr⟩:=rel.set (o:=.dk (pK kvs key v)) e (λ_ ne=>upd_ne ne) λee=>⟨_,upd_same,oM (r.mono ee) (rv.mono ee)⟩
      exact hk _ _ ee rr (gd _ _ ee rr)
     ·exact gd.elim
    ·exact gd.elim
   ·rename_i kvs hs
    split at gd
    ·rename_i key hkey
     split at gd
     ·rename_i hl
      obtain⟨vs,h1,r⟩:=rel.ref e hs
      obtain⟨b,e5,e6⟩:=jL ri hkey
      refine⟨_,_,rfl,.inr ⟨vs,key,b,h1,e5,e6,jz (by rw[<- RKs.length r];exact hl) (by decide:lim<=sizeLine),rfl⟩,?_⟩
      obtain⟨ee,rr⟩:=rel.set (o:=.dt (pK kvs key v)) e (λ_ ne=>upd_ne ne) λee=>⟨_,upd_same,oM (r.mono ee) (rv.mono ee)⟩
      exact hk _ _ ee rr (gd _ _ ee rr)
     ·exact gd.elim
    ·exact gd.elim
   ·exact gd.elim
 ·exact gd.elim
theorem fW {a b:Expr} {ma mb:Lo->M W} (cx:Ctx c K) (hb:QE c K G X a ma) (hi:QE c K G X b mb) (ha:∀ q v,assign (.Subscript a b pos) (c q).env v=(do
   let ov <- holding [v] (eval a (c q).env)
   let iv <- holding [v,ov] (eval b (c q).env)
   standAt pos
   holding [v,ov,iv] (setItem ov iv v)
   release [v,ov,iv] []):=by intro _ _;rfl):QG c K G X (.Subscript a b pos) [] (gDi ma mb):=by
 obtain⟨t,p1,r1⟩:=hb.ex
 obtain⟨u,p2,r2⟩:=hi.ex
 refine⟨_,λq=>pg_sub (p1 q) (p2 q) (set_dict (by have:=cx.un q;omega)) (ha q),⟨?_⟩⟩
 intro ρ S H L σ w v Q rel rl rv gd
 refine r1.run rel rl ((Good.bind gd).imp λx S1 ρ1 H1 e1 q1 g1 vx rx=>?_)
 refine r2.run q1 (rl.mono e1) (g1.bind.imp λy S2 ρ2 H2 e2 q2 g2 vy ry=>?_)
 refine lJg q2 (rx.mono e2) ry ((rv.mono e1).mono e2) g2.bind λS' H' ee rr gg=>?_
 exact gg.ok rr _ (((rl.mono e1).mono e2).mono ee) .refl
end
section
variable {ι:Type} {c:ι->Cx} {K:qk} {G:Str->Addr} {X:W->Rho->Hp->Prop} {ρ:Rho} {H:Hp}
def cI:List W->Option (List Int)
 | []=>some []
 | .int i :: r=>(cI r).map (i :: ·)
 | _=>none
def minL (S:Sto):List W->Option W
 | [x]=>((fA S x).bind cI).bind λns=>ns.min?.map .int
 | _=>none
def KH:List W->Option W
 | [.int i,.int j]=>some (.int (if j > i then j else i))
 | _=>none
theorem KU:∀ {ws:List W} {vs:List V} {ns:List Int},RVs K G ρ H ws vs->cI ws=some ns->vs=ns.map V.int
 | [],_,_,.nil,h=>by
  cases h
  rfl
 | .int i :: ws,_,_,.cons r rs,h=>by
  obtain⟨ms,h1,rfl⟩:=qm.mp h
  cases r
  rw[KU rs h1]
  rfl
 | .non :: _,_,_,_,h=>by simp [cI] at h
 | .bl _ :: _,_,_,_,h=>by simp [cI] at h
 | .str _ :: _,_,_,_,h=>by simp [cI] at h
 | .tup _ :: _,_,_,_,h=>by simp [cI] at h
 | .kt _ :: _,_,_,_,h=>by simp [cI] at h
 | .lst _ :: _,_,_,_,h=>by simp [cI] at h
 | .dk _ _ :: _,_,_,_,h=>by simp [cI] at h
 | .dt _ _ :: _,_,_,_,h=>by simp [cI] at h
 | .obj _ _ _ :: _,_,_,_,h=>by simp [cI] at h
 | .ref _ :: _,_,_,_,h=>by simp [cI] at h
 | .scr _ :: _,_,_,_,h=>by simp [cI] at h
 | .cls _ :: _,_,_,_,h=>by simp [cI] at h
 | .ty _ :: _,_,_,_,h=>by simp [cI] at h
theorem V2L:EG K G (rMin K) (MI minL):=by
 intro X ρ S H xs vs Q rel r g
 obtain⟨w,hw,g⟩:=Good.lift (o:=minL S xs) g
 unfold minL at hw
 split at hw
 ·obtain⟨ns,h1,h2⟩:=jF.mp hw
  obtain⟨ys,h3,h4⟩:=jF.mp h1
  obtain⟨m,h5,rfl⟩:=qm.mp h2
  obtain⟨v,rfl,rx⟩:=r.one
  obtain⟨p,us,rfl,hq,r2⟩:=pX rel rx h3
  have e:=KU r2 h4
  subst e
  refine⟨p,ns,rfl,SqL.of hq,?_,λm' h6 h7=>?_⟩
  ·cases ns with
   | nil=>cases h5
   | cons _ _=>exact Nat.succ_pos _
  ·have h8:=List.min?_eq_some_iff.mp h5
   have:m'=m:=Int.le_antisymm (h7 m h8.1) (h8.2 m' h6)
   subst this
   exact g.fin rel (.int _)
 ·cases hw
def O95:List V->Hp->VK->Prop:=λxs H Q=>∃ i j,xs=[.int i,.int j]/\Q (.int (if j > i then j else i)) H
theorem aS:EG K G O95 (MI λ_=>KH):=by
 intro X ρ S H xs vs Q rel r g
 obtain⟨w,hw,g⟩:=Good.lift (o:=KH xs) g
 unfold KH at hw
 split at hw
 ·cases hw
  obtain⟨v,u,rfl,r1,r2⟩:=r.two
  cases r1
  cases r2
  exact⟨_,_,rfl,g.fin rel (.int _)⟩
 ·cases hw
theorem Ctx.minL (cx:Ctx c K) (i:ι):CallR (c i) (.builtin "min") (rMin K):=by
 have:=cr_min (X:=c i) (cx.calm i)
 rw[cx.kK i] at this
 exact this
theorem Ctx.max2 (cx:Ctx c K) (i:ι):CallR (c i) (.builtin "max") O95:=call_max2 (cx.calm i)
end
def oSq:W->W->Option W
 | .bl a,.bl b=>some (.bl (decide (a=b)))
 | _,_=>none
section
variable {K:qk} {G:Str->Addr}
theorem zNx:jU K G rIsB (opS λ_=>oSq):=by
 intro X ρ S H x y vx vy Q rel rx ry g
 obtain⟨w,hw,g⟩:=Good.lift (o:=oSq x y) g
 unfold oSq at hw
 split at hw
 ·cases hw
  cases rx
  cases ry
  exact⟨_,_,rfl,rfl,g.fin rel (.bl _)⟩
 ·cases hw
end
def HN (n m:Nat) (ix:List Nat) (ds:List W) (f:List W->M W) (a k:Lo->M (List W)):Lo->M W:=λL=>(a L).bind λws=>(k L).bind λzs=>if ws.length=n/\zs.length=m then f (Q4 ix (ws++zs++ds)) else GG
def gMk {α:Type} (ix:List Nat) (ds vs zs:List α):List α:=Q4 (0 :: ix.map (· + 1)) (vs++zs++ds)
theorem DM {α:Type} {x:α} {l:List α}:∀ ix:List Nat,Q4 (ix.map (· + 1)) (x :: l)=Q4 ix l
 | []=>rfl
 | i :: ix=>by
  have ih:=DM (x:=x) (l:=l) ix
  unfold Q4 at ih ⊢
  rw[jn,Qm,Qm,ih]
  rfl
theorem SR {α:Type} {ix:List Nat} {ds vs zs:List α} {x:α}:gMk ix ds (x :: vs) zs=x :: Q4 ix (vs++zs++ds):=by
 show Q4 (0 :: ix.map (· + 1)) (x :: (vs++zs++ds))=_
 have:=DM (x:=x) (l:=vs++zs++ds) ix
 unfold Q4 at this ⊢
 rw[Qm,this]
 rfl
section
variable {ι:Type} {c:ι->Cx} {K:qk} {G:Str->Addr} {X:W->Rho->Hp->Prop} {f:Addr} {fd:FuncData} {ps ks:List Str} {sp:L2.Sp} {fM:List W->M W} {k m n:Nat} {x:Str} {p pos:Pos} {ix:List Nat} {kws:List Keyword} {ma mk_:Lo->M (List W)} {ds:List W} {dv:List V} {nm:Str} {e:Expr} {es:List Expr}
 {g:List Value->List Value->List Value}
theorem RA.makeK {t tk:TA} (hf:kKK K G nm sp fM) (hd:∀ ρ H,RVs K G ρ H ds dv) (r1:RA K G X t ma) (r2:RA K G X tk mk_):RE K G X (tMakeK (G nm) n m sp (gMk ix dv) E0 t tk) (HN n m ix ds fM ma mk_):=⟨by
 intro ρ S H L σ Q rel rl gd
 refine r1.run rel rl ((Good.bind gd).imp λws S1 ρ1 H1 e1 q1 g1 vs rs=>?_)
 refine r2.run q1 (rl.mono e1) (g1.bind.imp λzs S2 ρ2 H2 e2 q2 g2 us ru=>?_)
 split at g2
 ·rename_i hl
  refine⟨by rw[<- rs.length];exact hl.1,by rw[<- ru.length];exact hl.2,λx dx hx hdx ne=>?_⟩
  rw[SR]
  exact hf q2 (IV (((rs.mono e2).append ru).append (hd _ _)) ix) g2 x dx hx hdx ne
 ·exact g2.elim⟩
theorem aZ (M:∀ i,Mk (c i).K (G nm) f) (F:∀ i,FnOk (c i).prog (c i).w (c i).K (c i).mg (c i).base CX0 k f fd ps sp) (hf:kKK K G nm sp fM) (hr:∀ i,Room (k+1) (c i).A) (hg:∀ i,Gl (c i) x) (hm:∀ i,(c i).mg x=some (.ref (G nm))) (hb:∀ i,KBn (c i).K fd ps (n+1) ks g (gMk ix dv)) (hd:∀ ρ H,RVs K G ρ H ds dv) (hl:ks.length=m)
  (ha:QA c K G X (e :: es) ma) (hk:QKw c K G X kws mk_) (hall:∀ i,(backToKw pos (keywordEach kws (c i).env)).all (·.1.isSome)=true:=by exact λ_=>rfl) (hks:∀ i,(backToKw pos (keywordEach kws (c i).env)).filterMap (·.1)=ks:=by exact λ_=>rfl) (hdb:(x == ("__debug__" : Str))=false:=by decide)
  (he:∀ i,starEach (e :: es) (c i).env=(false,eval e (c i).env) :: starEach es (c i).env:=by exact λ_=>rfl) (hpl:∀ i,((backTo pos (starEach (e :: es) (c i).env)).any (·.1) || (backToKw pos (keywordEach kws (c i).env)).any (·.1.isNone))=false:=by exact λ_=>rfl) :
  QE c K G X (.Call (.Name x p) (e :: es) kws pos) (HN n m ix ds fM ma mk_):=by
 obtain⟨t,p1,r1⟩:=ha.ex
 obtain⟨tk,p2,r2⟩:=hk.ex
 subst hl
 exact⟨_,λi=>L2.pe_makeK (M i) (F i) (hr i) (hg i) (hm i) (hb i) pass0 (p1 i) (p2 i) (hall i) (hks i) hdb (he i) (hpl i),RA.makeK hf hd r1 r2⟩
theorem cVi (h:∀ (s:Shared) (us ws:List Value),us.length=n->ws.length=ks.length->BindsTo s fd ⟨us,ks.zip ws⟩ (ps.zip (gMk ix [] us ws))):KBn K fd ps n ks (gMk ix []) (gMk ix []):=⟨λs us ws _ l1 l2=>h s us ws l1 l2,λr1 r2=>iM ((r1.append r2).append .nil) _⟩
end
end
end Mi
namespace Mi
open PySem PySem.Spec
open PyProof.Rows L2 Cp
noncomputable section
def oG (P:Program) (w:World) (K:qk) (f:Addr):Prop:=∀ {A:Around} {E:Value->Shared->Prop} {s:Shared} {p:Addr} {v0 v1 v2 v3 v4 v5 v6 v7:Value},Room 1 A->K.In s.heap->s.heap.NoLimit->IsTup s.heap p #[v0,v1,v2,v3,v4,v5,v6,v7] ->
 wpAny (model P w) A (call (.ref f) [.ref p]) (λu s'=>∃ h' tk q,u = .ref q/\s' = { s with heap:=h',toks:=tk }/\(∀ b o,s.heap.get? b=some o->h'.get? b=some o)/\s.heap.get? q=none/\IsTup h' q #[v0,v1,v4,v5,v6,v7,v2,v3]) E s
structure Lt8 where
 time:Int
 to:Str
 kind:Str
 number:Int
 sender:Str
 sent:Int
 place:Int
 turn:Int
def Lt8.vs (x:Lt8):List V:=[.int x.time,.str x.to,.str x.kind,.int x.number,.str x.sender,.int x.sent,.int x.place,.int x.turn]
def Lt8.key (x:Lt8):PyData:=.tuple [.int x.time,.str x.to,.str x.sender,.int x.sent,.int x.place,.int x.turn,.str x.kind,.int x.number]
theorem WR (x y:Lt8):PySem.W.alike x.key y.key=true:=rfl
theorem nC (x:Lt8):PyData.depth x.key=1:=by simp [Lt8.key,PyData.depth,PyData.depthAll]
theorem rWK {x:Lt8}:∀ {its:List Value},Vals x.vs its->∃ t0 t1 t2 t3 t4 t5 t6 t7,its=[.int x.time t0,.str x.to t1,.str x.kind t2,.int x.number t3,.str x.sender t4,.int x.sent t5,.int x.place t6,.int x.turn t7]
 | [_,_,_,_,_,_,_,_],.cons ⟨t0,e0⟩ (.cons ⟨t1,e1⟩ (.cons ⟨t2,e2⟩ (.cons ⟨t3,e3⟩ (.cons ⟨t4,e4⟩ (.cons ⟨t5,e5⟩ (.cons ⟨t6,e6⟩ (.cons ⟨t7,e7⟩ .nil)))))))=>⟨t0,t1,t2,t3,t4,t5,t6,t7,by rw[e0,e1,e2,e3,e4,e5,e6,e7]⟩
theorem y1:∀ {ls:List (Addr × Lt8)} {its:List Value},Vals (ls.map λx=>V.ref x.1) its->PySem.W.EachIs (λv x=>v=Value.ref x.1) its ls
 | [],[],.nil=>.nil
 | _ :: _,_ :: _,.cons e r=>.cons e (y1 r)
theorem Y0:∀ {ls:List (Addr × Lt8)} {its:List Value},PySem.W.EachIs (λv x=>v=Value.ref x.1) its ls->Vals (ls.map λx=>V.ref x.1) its
 | [],[],.nil=>.nil
 | _ :: _,_ :: _,.cons e r=>.cons e (Y0 r)
def TVu (K:qk) (f:Addr):List V->List V->Hp->VK->Prop:=λvs zs H Q=>∃ (a:Addr) (ls:List (Addr × Lt8)),vs=[.ref a]/\zs=[.ref f]/\SqL K H a (ls.map λx=>V.ref x.1)/\(∀ x ∈ ls,H x.1=some (.tup x.2.vs))/\ls.length<=9000000 /\
 ∀ p,H p=none->Q (.ref p) (upd H p (.lst ((ls.mergeSort (PySem.W.dataLe false λx=>x.2.key)).map λx=>V.ref x.1)))
theorem gQ {X:Cx} {K:qk} {f:Addr} (low:oG X.prog X.w X.K f) (room:Room 3 X.A) (hK:X.K=K):CallRK X (.builtin "sorted") [Str.ofString "key"] (TVu K f):=by
 subst hK
 intro pins s σ H vs zs us ws Q I r rz goal
 obtain⟨a,ls,rfl,rfl,hs,hl,hn,q⟩:=goal
 obtain rfl:=Vals.ref1 r
 obtain⟨w1,rfl,e1⟩:=vals1 rz
 obtain rfl:w1=Value.ref f:=e1
 obtain⟨its,rv,hL,hz⟩:=I.list hs
 have hz':ls.length<=16777216:=by omega
 refine PySem.W.sorted_key_data (b:=false) (λx:Addr × Lt8=>x.2.key) hL.isList (y1 rv) (λd hd d' hd'=>?_) (.inl λd hd=>?_) hz' (λx _=>?_) (ksk_s1 _ _) (λ_=>ksk_l1 _ _) (λ_=>ksk_t1 _ _) ?_ ?_
 ·obtain⟨x,_,rfl⟩:=jc.mp hd
  obtain⟨y,_,rfl⟩:=jc.mp hd'
  exact WR _ _
 ·obtain⟨x,_,rfl⟩:=jc.mp hd
  exact⟨_,_,rfl⟩
 ·rw[nC]
  have:=room.un
  omega
 ·rintro v x rfl hx h tk kp
  have I':Inv X pins σ H { s with heap:=h,toks:=tk }:=I.kept kp
  obtain⟨i8,r8,t8,_⟩:=I'.tuple (SqT.of (hl x hx))
  obtain⟨t0,t1,t2,t3,t4,t5,t6,t7,rfl⟩:=rWK r8
  refine thn (low room.in1.in1 I'.kIn (I'.mod.nolimit.keeps I'.bk) t8) ?_
  rintro u s' ⟨h',tk',q,rfl,rfl,kp',_,o,there,cls,n,isd⟩
  refine⟨h',tk',rfl,kp',?_⟩
  have r:=ReadsAll.cons (Reads.int (h:=h') x.2.time t0) (.cons (.str x.2.to t1) (.cons (.str x.2.sender t4) (.cons (.int x.2.sent t5) (.cons (.int x.2.place t6) (.cons (.int x.2.turn t7) (.cons (.str x.2.kind t2) (.cons (.int x.2.number t3) .nil)))))))
  exact Reads.tuple there cls isd r
 ·intro out c h' tk kp fresh hD len each
  refine⟨.ref (s.heap.objs.size+1),upd H (s.heap.objs.size+1) (.lst ((ls.mergeSort (PySem.W.dataLe false λx=>x.2.key)).map λx=>V.ref x.1)),I.laid (t':=tk) kp (Nat.le_succ _) ⟨?_,out,c,Y0 each,hD⟩,rfl,q _ (I.hok.fresh (Nat.le_succ _))⟩
  rw[qq,List.length_mergeSort]
  exact hz'
def ltL (x y:Lt8):Bool:=PySem.W.dataLt x.key y.key
section
open PySem.W
theorem pMw (x y:Lt8):ltL x y=lexLt itemOrd [.inl 1,.inl x.time,.inl 1,.inr x.to.cps.toList,.inl 1,.inr x.sender.cps.toList,.inl 1,.inl x.sent,.inl 1,.inl x.place,.inl 1,.inl x.turn,.inl 1,.inr x.kind.cps.toList,.inl 1,.inl x.number,.inl 0]
  [.inl 1,.inl y.time,.inl 1,.inr y.to.cps.toList,.inl 1,.inr y.sender.cps.toList,.inl 1,.inl y.sent,.inl 1,.inl y.place,.inl 1,.inl y.turn,.inl 1,.inr y.kind.cps.toList,.inl 1,.inl y.number,.inl 0]:=by
 unfold ltL dataLt
 simp [Lt8.key,keyToks,keyToksAll]
theorem n3U {a b:Int} {l m:List (Int ⊕ List Nat)} (h:a ≠ b):lexLt itemOrd (.inl 1 :: .inl a :: l) (.inl 1 :: .inl b :: m)=dataLt (.int a) (.int b):=
 (lex_pre [.inl 1] (.inl a :: l) (.inl b :: m)).trans (lex_atom (λe=>h (Sum.inl.inj e)) l m)
end
section
open PySem.W
theorem OWk {x y:Lt8} (h1:ltL x y=false) (h2:ltL y x=false):x=y:=by
 have e:=lex_total _ _ h1 h2
 obtain⟨t,to,k,n,se,st,pl,tu⟩:=x
 obtain⟨t',to',k',n',se',st',pl',tu'⟩:=y
 simp [Lt8.key,keyToks,keyToksAll] at e
 obtain⟨rfl,e1,e2,rfl,rfl,rfl,e3,rfl⟩:=e
 have c:∀ {a b:Str},a.cps=b.cps->a=b:=λ{a b} h=>by cases a;cases b;simp at h;rw[h]
 rw[c e1,c e2,c e3]
def leL (x y:Lt8):Bool:=!ltL y x
theorem FE:TotalLe leL:=sortLe_total (listOrd itemOrd) false λx:Lt8=>keyToks x.key
theorem ELV {x y:Lt8} (h1:leL x y=true) (h2:leL y x=true):x=y:=OWk (by simpa [leL] using h2) (by simpa [leL] using h1)
def MC (d:List Lt8) (x:Lt8):List Lt8:=d.take (d.filter λy=>leL y x).length++[x]++d.drop (d.filter λy=>leL y x).length
theorem Y1 (d:List Lt8) (x:Lt8):(MC d x).Perm (x :: d):=by
 have h:(MC d x).Perm (x :: (d.take (d.filter λy=>leL y x).length++d.drop (d.filter λy=>leL y x).length)):=by
  unfold MC
  rw[ye]
  exact List.perm_middle
 rwa [List.take_append_drop] at h
theorem NR:∀ {d:List Lt8} (x:Lt8),d.Pairwise (λa b=>leL a b=true)->(MC d x).Pairwise (λa b=>leL a b=true)
 | [],x,_=>by simp [MC]
 | y :: r,x,h=>by
  obtain⟨h1,h2⟩:=List.pairwise_cons.mp h
  by_cases hy:leL y x=true
  ·have e:MC (y :: r) x=y :: MC r x:=by simp [MC,List.filter_cons,hy]
   rw[e]
   refine List.pairwise_cons.mpr ⟨λz hz=>?_,NR x h2⟩
   rcases qo.mp ((Y1 r x).mem_iff.mp hz) with rfl|hz
   ·exact hy
   ·exact h1 z hz
  ·have no:∀ z ∈ y :: r,leL z x=false:=λz hz=>by
    cases q:leL z x with
    | false=>rfl
    | true=>
     rcases qo.mp hz with rfl|hz
     ·exact absurd q hy
     ·exact absurd (FE.trans _ _ _ (h1 z hz) q) hy
   have e0:((y :: r).filter λz=>leL z x)=[]:=List.filter_eq_nil_iff.mpr λz hz=>by rw[no z hz];simp
   have e:MC (y :: r) x=x :: y :: r:=by
    unfold MC
    rw[e0]
    rfl
   rw[e]
   have xy:leL x y=true:=(FE.total x y).resolve_right hy
   refine List.pairwise_cons.mpr ⟨λz hz=>?_,h⟩
   rcases qo.mp hz with rfl|hz
   ·exact xy
   ·exact FE.trans _ _ _ xy (h1 z hz)
def srt (ls:List Lt8):List Lt8:=ls.foldl MC []
theorem vC (ls:List Lt8) (x:Lt8):srt (ls++[x])=MC (srt ls) x:=by simp [srt]
theorem vO:∀ (n:Nat) (ls:List Lt8),ls.length=n->(srt ls).Perm ls/\(srt ls).Pairwise (λa b=>leL a b=true)
 | 0,ls,h=>by
  have:ls=[]:=List.length_eq_zero_iff.mp h
  subst this
  simp [srt]
 | n+1,ls,h=>by
  obtain⟨r,x,rfl⟩:∃ r x,ls=r++[x]:=⟨ls.dropLast,ls.getLast (by intro e;rw[e] at h;simp at h),(List.dropLast_concat_getLast _).symm⟩
  obtain⟨p,q⟩:=vO n r (by simpa using h)
  rw[vC]
  refine⟨(Y1 _ x).trans ?_,NR x q⟩
  exact(List.Perm.cons x p).trans (List.perm_append_singleton x r).symm
theorem YI (ls:List (Addr × Lt8)):(ls.mergeSort (dataLe false λx=>x.2.key)).map (·.2)=srt (ls.map (·.2)):=by
 obtain⟨p,q⟩:=vO _ (ls.map (·.2)) rfl
 refine List.Perm.eq_of_pairwise (le:=λa b=>leL a b=true) (λa b _ _ h1 h2=>ELV h1 h2) ?_ q (((List.mergeSort_perm ls _).map _).trans p.symm)
 rw[Qa]
 exact sort_pairwise (sortLe_total (listOrd itemOrd) false λx:Addr × Lt8=>keyToks x.2.key) ls
end
def Lt8.w (x:Lt8):W:=.tup [.int x.time,.str x.to,.str x.kind,.int x.number,.str x.sender,.int x.sent,.int x.place,.int x.turn]
def TV:W->Option Lt8
 | .tup [.int a,.str b,.str c,.int d,.str e,.int f,.int g,.int h]=>some ⟨a,b,c,d,e,f,g,h⟩
 | _=>none
def F8 (S:Sto) (x:W):Option W:=((fA S x).bind (LD TV)).bind λls=>if ls.length<=9000000 then some (.lst ((srt ls).map Lt8.w)) else none
def C7 (a:Lo->M W):Lo->M W:=λL=>(a L).bind λx S=>gL (F8 S x) S
theorem v7v {w:W} {x:Lt8} (h:TV w=some x):w=x.w:=by
 unfold TV at h
 split at h
 ·cases h
  rfl
 ·cases h
section
variable {K:qk} {G:Str->Addr} {ρ:Rho} {H:Hp}
theorem MXz {x:Lt8} {v:V} (r:RV K G ρ H x.w v):∃ p,v = .ref p/\H p=some (.tup x.vs):=by
 cases r with
 | tup hp r=>
  refine⟨_,rfl,?_⟩
  rw[hp]
  clear hp
  cases r with
  | cons a r=>cases r with
   | cons b r=>cases r with
    | cons c r=>cases r with
     | cons d r=>cases r with
      | cons e r=>cases r with
       | cons f r=>cases r with
        | cons g r=>cases r with
         | cons k r=>
          cases r
          cases a;cases b;cases c;cases d;cases e;cases f;cases g;cases k
          rfl
theorem INr {x:Lt8} {p:Addr} (h:H p=some (.tup x.vs)):RV K G ρ H x.w (.ref p):=.tup h (.cons (.int _) (.cons (.str _) (.cons (.str _) (.cons (.int _) (.cons (.str _) (.cons (.int _) (.cons (.int _) (.cons (.int _) .nil))))))))
theorem eOA:∀ {ws:List W} {vs:List V} {ls:List Lt8},RVs K G ρ H ws vs->LD TV ws=some ls->∃ zs:List (Addr × Lt8),vs=zs.map (λx=>V.ref x.1)/\zs.map (·.2)=ls/\∀ x ∈ zs,H x.1=some (.tup x.2.vs)
 | _,_,_,.nil,h=>by
  cases h
  exact⟨[],rfl,rfl,(λ_ z=>nomatch z)⟩
 | _,_,_,.cons r rs,h=>by
  unfold LD at h
  split at h
  ·rename_i y ys h1 h2
   cases h
   obtain⟨zs,rfl,rfl,hz⟩:=eOA rs h2
   rw[v7v h1] at r
   obtain⟨p,rfl,hp⟩:=MXz r
   refine⟨(p,y) :: zs,rfl,rfl,λx hx=>?_⟩
   rcases qo.mp hx with rfl|hx
   ·exact hp
   ·exact hz x hx
  ·cases h
theorem uHs:∀ {zs:List (Addr × Lt8)},(∀ x ∈ zs,H x.1=some (.tup x.2.vs))->RVs K G ρ H ((zs.map (·.2)).map Lt8.w) (zs.map λx=>V.ref x.1)
 | [],_=>.nil
 | x :: zs,h=>.cons (INr (h x qw)) (uHs λy hy=>h y (qy _ hy))
end
section
variable {ι:Type} {c:ι->Cx} {K:qk} {G:Str->Addr} {X:W->Rho->Hp->Prop} {a:Expr} {ma:Lo->M W} {p pf pos kp:Pos} {f:Addr} {fn:Str}
theorem rD (cx:Ctx c K) (low:∀ i,oG (c i).prog (c i).w (c i).K f) (room:∀ i,Room 3 (c i).A) (hg:∀ i,Gl (c i) "sorted") (hm:∀ i,(c i).mg "sorted" = none) (hgf:∀ i,Gl (c i) fn) (hmf:∀ i,(c i).mg fn=some (.ref f)) (ha:QE c K G X a ma) (hdb:(fn == ("__debug__" : Str))=false:=by decide)
  (one:∀ i,starEach [a] (c i).env=(false,eval a (c i).env) :: starEach [] (c i).env:=by exact λ_=>rfl) (he:∀ i,backTo pos (starEach [a] (c i).env)=(false,eval a (c i).env) :: backTo pos (starEach [] (c i).env):=by exact λ_=>rfl) (hpl:∀ i,(backTo pos (starEach [a] (c i).env)).any (·.1)=false:=by exact λ_=>rfl) :
  QE c K G X (.Call (.Name "sorted" p) [a] [⟨some "key",.Name fn pf,kp⟩] pos) (C7 ma):=by
 obtain⟨t,p1,r1⟩:=ha.ex
 refine⟨tCKw (TVu K f) (tCons t tNil) (tCons (tC (.ref f)) tNil),λi=>pe_callBK (gQ (low i) (room i) (cx.kK i)) (hg i) (hm i) qf (pa_cons (p1 i) pa_nil (one i)) (pk_cons (pe_glob (hgf i) (hmf i) rfl hdb) pk_nil) (he:=he i) (hpl:=hpl i),⟨?_⟩⟩
 intro ρ S H L σ Q rel rl gd
 refine r1.run rel rl ((Good.bind gd).imp λx S1 ρ1 H1 e1 q1 g1 v rv=>?_)
 obtain⟨w,hw,g2⟩:=Good.lift g1
 unfold F8 at hw
 obtain⟨ls,h1,h2⟩:=jF.mp hw
 obtain⟨ys,h3,h4⟩:=jF.mp h1
 split at h2
 ·rename_i few
  cases h2
  obtain⟨l,vs,rfl,hq,r2⟩:=pX q1 rv h3
  obtain⟨zs,rfl,rfl,hz⟩:=eOA r2 h4
  refine⟨l,zs,rfl,rfl,SqL.of hq,hz,by rw[qq] at few;exact few,?_⟩
  refine Good.newL g2 q1 ?_
  rw[<- YI]
  exact uHs λx hx=>hz x (List.mem_mergeSort.mp hx)
 ·cases h2
end
section
variable {prog:Program} {w:World} {A:Around} {E:Value->Shared->Prop} {s0 s:Shared} {env:Env} {m:Str->Option Value} {x:Str} {v:Value} {pos px pc:Pos} {kd:Nat}
end
theorem B9 {a:Lo->M W} {L:Lo} {S:Sto} {Q:W->Sto->Prop} (h:Ev (a L S) λx S'=>∃ w,F8 S' x=some w/\Q w S'):Ev (C7 a L S) Q:=by
 unfold C7
 refine evB (h.imp ?_)
 rintro x S' ⟨w,e,q⟩
 show Ev (gL (F8 S' x) S') Q
 rw[e]
 exact q
end
end Mi
namespace Mi
open PySem PySem.Spec
open PyProof.Rows L2 Cp
noncomputable section
def N8Q:W->Option W
 | .str y=>if y.length<=lim then some (.str y) else none
 | .int i=>if i.natAbs.log2 < 1920 then some (.str (toString i)) else none
 | _=>none
def bGV:List W->Option W
 | [x]=>N8Q x
 | _=>none
def CTL:List V->Hp->VK->Prop:=λxs H Q=>(∃ a,xs=[.str a]/\Q (.str a) H) \/ ∃ i:Int,xs=[.int i]/\i.natAbs.log2 < 1920/\Q (.str (toString i)) H
theorem CFz {X:Cx}:CallR X (.type "str") CTL:=by
 intro pins s σ H xs us Q I r h
 rcases h with h|h
 ·exact SkE.call_str_str pins s σ H xs us Q I r h
 ·exact call_str_int pins s σ H xs us Q I r h
section
variable {ι:Type} {c:ι->Cx} {K:qk} {G:Str->Addr} {X:W->Rho->Hp->Prop}
theorem ILq {ρ:Rho} {H:Hp} {x w:W} {v:V} (r:RV K G ρ H x v) (h:N8Q x=some w):(∃ y:Str,v = .str y/\y.length<=lim/\w = .str y) \/ ∃ i:Int,v = .int i/\i.natAbs.log2 < 1920/\w = .str (toString i):=by
 unfold N8Q at h
 split at h
 ·split at h
  ·rename_i le
   cases h
   cases r
   exact .inl ⟨_,rfl,le,rfl⟩
  ·cases h
 ·split at h
  ·rename_i le
   cases h
   cases r
   exact .inr ⟨_,rfl,le,rfl⟩
  ·cases h
 ·cases h
theorem PLs:EG K G CTL (MI λ_=>bGV):=by
 intro X ρ S H xs vs Q rel r g
 obtain⟨w,hw,g⟩:=Good.lift (o:=bGV xs) g
 unfold bGV at hw
 split at hw
 ·obtain⟨v,rfl,rx⟩:=r.one
  rcases ILq rx hw with⟨y,rfl,_,rfl⟩|⟨i,rfl,le,rfl⟩
  ·exact .inl ⟨_,rfl,g.fin rel (.str _)⟩
  ·exact .inr ⟨_,rfl,le,g.fin rel (.str _)⟩
 ·cases hw
end
section
variable {K:qk} {G:Str->Addr}
end
section
variable {L:Lo} {S:Sto} {Q:W->Sto->Prop} {a:Lo->M W} {ms:List (Lo->M W)} {acc y:Str} {i:Int}
end
end
end Mi
namespace Mi
open PySem PySem.Spec
open PyProof.Rows L2 Cp
noncomputable section
section
variable {ι:Type} {c:ι->Cx} {K:qk} {G:Str->Addr} {X:W->Rho->Hp->Prop}
variable {e:Expr} {es:List Expr} {pos p:Pos} {ms:Lo->M (List W)} {fM:List W->M W} {sp:Sp} {f:Addr} {fd:FuncData} {ps:List Str} {k:Nat} {x:Str}
end
section
variable {P:Program} {w:World} {K:qk} {G:Str->Addr} {mg:Str->Option Value} {base:Heap}
end
end
end Mi
namespace Mi
open PySem PySem.Spec
open PyProof.Rows L2 Cp
noncomputable section
def XOf (K:qk) (G:Str->Addr) (E:XK):W->Rho->Hp->Prop
 | .exc c fs ws,ρ,H=>∀ (dx:Addr) (vs:List V),H dx=some (.xd (fs.zip vs))->ρ.Off dx->fs.length=ws.length->RVs K G ρ H ws vs->E (.ref (G c)) (some dx) H
 | _,_,_=>False
def spX (K:qk) (G:Str->Addr) (n:Nat) (F:List W->M W):Sp:=λvs H Q E=>∃ (ρ:Rho) (S:Sto) (ws:List W),ws.length=n/\Rel K G ρ H S/\RVs K G ρ H ws vs/\Good K G (XOf K G E) ρ H (F ws S) (KL K G Q)
abbrev cxE (P:Program) (w:World) (K:qk) (mg:Str->Option Value) (base:Heap) (N:List Str) (qual:Str) (st:Stmt) (f:Addr) (cdv:Value) (A:Around) (outer:List Env) (s:Shared) (H:Hp) (E:XK):Unit->Cx:=λ_=>cxOf (L2.CX P w) P w K mg base N qual (defScope st) f cdv A outer s H E
section
variable {P:Program} {w:World} {K:qk} {G:Str->Addr} {mg:Str->Option Value} {base:Heap} {N:List Str} {qual:Str} {st:Stmt} {f:Addr} {cdv:Value} {A:Around} {outer:List Env} {s:Shared} {H:Hp} {E:XK} {k:Nat}
theorem HA:∀ i,Takes (cxE P w K mg base N qual st f cdv A outer s H E i) (λcls d _ H=>E cls d H):=λ_=>takes_of rfl rfl rfl rfl
theorem DIf:∀ i,PassesOwn (model (cxE P w K mg base N qual st f cdv A outer s H E i).prog (cxE P w K mg base N qual st f cdv A outer s H E i).w) (cxE P w K mg base N qual st f cdv A outer s H E i).A (cxE P w K mg base N qual st f cdv A outer s H E i).env (cxE P w K mg base N qual st f cdv A outer s H E i).xe:=λ_=>PassesOwn.leaving
theorem zNd (hr:Room k (A.deeper (envOfC qual (defScope st) s.heap.objs.size f cdv))):Ctx (cxE P w K mg base N qual st f cdv A outer s H E) K:=
 ⟨λ_=>rfl,λ_=>rfl,λ_=>by have h:=hr.un;show(A.deeper (envOfC qual (defScope st) s.heap.objs.size f cdv)).units+65 < cLine;omega⟩
theorem WN2 {n:Nat} {F:List W->M W} {vs:List V} {H:Hp} {Q:VK} {E:XK} (q:spX K G n F vs H Q E):vs.length=n:=by
 obtain⟨ρ,S,ws,hl,rel,rv,gd⟩:=q
 rw[<- rv.length]
 exact hl
theorem VB {t:TS} {m:Lo->M Oc} {N:List Str} {n:Nat} {vs:List V} {H:Hp} {Q:VK} {E:XK} (h:RS K G (XOf K G E) t m) (q:spX K G n (IU N n m) vs H Q E):t { nx:=λ_ H'=>Q .non H',rt:=Q } (L2.start N vs) H:=by
 obtain⟨ρ,S,ws,hl,rel,rv,gd⟩:=q
 unfold IU at gd
 rw[if_pos hl] at gd
 refine h.run rel (n9 rv) ((Good.bind gd).imp λo S1 ρ1 H1 e1 r1 g1=>?_)
 cases o with
 | nx L'=>exact λσ' _=>g1.fin r1 .non
 | rt w=>exact λv rv=>g1.fin r1 rv
 | bk L'=>exact g1.elim
 | ct L'=>exact g1.elim
theorem ZN {x:Str} {fd:FuncData} {ps:List Str} {m:Lo->M Oc} (F:Fun K x qual st f fd) (sc:FnScope N ps (defScope st))
  (body:∀ (cdv:Value) (A:Around) (outer:List Env) (s:Shared) (H:Hp) (E:XK),Room k (A.deeper (envOfC qual (defScope st) s.heap.objs.size f cdv))->QSs (cxE P w K mg base N qual st f cdv A outer s H E) K G (XOf K G E) (defBody st) m) :
  FnOk P w K mg base (L2.CX P w) (k+1) f fd ps (spX K G ps.length (IU N ps.length m)):=by
 obtain⟨_,_,_,_,_,_,_,_,_,rfl,known,coded⟩:=F.ex
 refine fn_of known coded sc (λvs H Q E q=>WN2 q) λA outer s H vs Q E hr q=>?_
 obtain⟨t,h1,h2⟩:=(body _ A outer s H E hr).ex
 exact⟨t,h1 (),VB h2 q⟩
end
def OkX (K:qk) (G:Str->Addr) (sp:Sp) (f:List W->M W):Prop:=∀ {ρ:Rho} {S:Sto} {H:Hp} {ws:List W} {vs:List V} {Q:VK} {E:XK},Rel K G ρ H S->RVs K G ρ H ws vs->Good K G (XOf K G E) ρ H (f ws S) (KL K G Q)->sp vs H Q E
def NI (n:Nat) (F:List W->M W):List W->M W:=λws S=>if ws.length=n then F ws S else none
section
variable {K:qk} {G:Str->Addr} {n:Nat} {F:List W->M W}
theorem HW:OkX K G (spX K G n F) (NI n F):=by
 intro ρ S H ws vs Q E rel rv gd
 unfold NI at gd
 split at gd
 ·rename_i hl
  exact⟨ρ,S,ws,hl,rel,rv,gd⟩
 ·exact gd.elim
end
section
variable {ι:Type} {c:ι->Cx} {K:qk} {G:Str->Addr} {X:W->Rho->Hp->Prop} {e:Expr} {es:List Expr} {pos p:Pos} {ms:Lo->M (List W)} {fM:List W->M W} {sp:Sp} {f:Addr} {fd:FuncData} {ps:List Str} {k:Nat} {x:Str} {E:XK}
theorem RA.fnX {t:TA} (h:RA K G (XOf K G E) t ms) (hf:OkX K G sp fM):RE K G (XOf K G E) (tCall sp [] E t) (fD fM ms):=⟨by
 intro ρ S H L σ Q rel rl gd
 refine ARd (h.run rel rl ((Good.bind gd).imp λws S1 ρ1 H1 e1 r1 g1 vs rs=>hf r1 rs g1))⟩
theorem UBz (tk:∀ i,Takes (c i) (λcls d _ H=>E cls d H)) (F:∀ i,FnOk (c i).prog (c i).w (c i).K (c i).mg (c i).base (L2.CX (c i).prog (c i).w) k f fd ps sp) (hf:OkX K G sp fM) (hr:∀ i,Room k (c i).A) (hg:∀ i,Gl (c i) x) (hm:∀ i,(c i).mg x=some (.ref f)) (hk:∀ i,zt (c i).K (.ref f)=true) (hb:∀ i,Binds (c i).K fd ps [])
  (ha:QA c K G (XOf K G E) (e :: es) ms) (hdb:(x == ("__debug__" : Str))=false:=by decide) (he:∀ i,starEach (e :: es) (c i).env=(false,eval e (c i).env) :: starEach es (c i).env:=by exact λ_=>rfl) (hpl:∀ i,(backTo pos (starEach es (c i).env)).any (·.1)=false:=by exact λ_=>rfl) :
  QE c K G (XOf K G E) (.Call (.Name x p) (e :: es) [] pos) (fD fM ms):=by
 obtain⟨t,p1,r1⟩:=ha.ex
 exact⟨_,λi=>pe_call (CX:=L2.CX (c i).prog (c i).w) (F i) (hr i) (hg i) (hm i) (hk i) (hb i) .nil (passes_call (tk i) λ_ _ _ _ h=>h) (p1 i) hdb (he i) (hpl i),r1.fnX hf⟩
def U9 (n:Str) (fs:List Str) (a:Lo->M (List W)):Lo->M Oc:=λL=>(a L).bind λws=>λS=>if ws.length=fs.length then some (.er (.exc n fs.reverse ws.reverse),S) else none
def oZC (K:qk) (fs:List Str):Sp:=λvs H Q _=>∃ (a C:Addr) (us:List V),vs = .ref a :: us/\us.length=fs.length/\OexC K C/\(∀ f ∈ fs,ql K (.ref C) f=some none)/\H a=some (exo a C none) /\
 ∀ (d:Addr) (H2:Hp),H d=none->d ≠ a->H2 a=some (exo a C (some d))->H2 d=some (exd d (fs.reverse.zip us.reverse))->(∀ b,b ≠ a->b ≠ d->H2 b=H b)->Q .non H2
theorem KD {n:Str} {fs:List Str} {pos':Pos} (cx:Ctx c K) (tk:∀ i,Takes (c i) (λcls d _ H=>E cls d H)) (ox:OexC K (G n)) (nf:∀ g ∈ fs,ql K (.ref (G n)) g=some none) (ini:ql K (.ref (G n)) "__init__" = some (some (.ref f))) (ty:jo K (.ref f)=some (.type "function"))
  (F:∀ i,FnOk (c i).prog (c i).w (c i).K (c i).mg (c i).base CX0 k f fd ps (oZC K fs)) (hr:∀ i,Room (k+1) (c i).A) (hg:∀ i,Gl (c i) n) (hm:∀ i,(c i).mg n=some (.ref (G n))) (bd:∀ i,Binds (c i).K fd ps []) (few:fs.length<=900)
  (ha:QA c K G (XOf K G E) (e :: es) ms) (hdb:(n == ("__debug__" : Str))=false:=by decide) (he:∀ i,starEach (e :: es) (c i).env=(false,eval e (c i).env) :: starEach es (c i).env:=by exact λ_=>rfl) (hpl:∀ i,(backTo pos (starEach es (c i).env)).any (·.1)=false:=by exact λ_=>rfl) :
  QS c K G (XOf K G E) (.Raise (some (.Call (.Name n p) (e :: es) [] pos)) none pos') (U9 n fs ms):=by
 obtain⟨t,p1,r1⟩:=ha.ex
 refine⟨_,λi=>ps_raise (cx.calm i) (tk i) (pmk_oex (CX:=CX0) ((cx.kK i).symm ▸ ox) ((cx.kK i).symm ▸ ini) ((cx.kK i).symm ▸ ty) (F i) (hr i) (bd i) .nil (λ_ _ _ _ _ _ _ z=>z.elim) (hg i) (hm i) (p1 i) hdb (he i) (hpl i)),⟨?_⟩⟩
 intro ρ S H L σ D rel rl gd
 refine r1.run rel rl ((Good.bind gd).imp λws S1 ρ1 H1 e1 q1 g1 vs rs=>?_)
 split at g1
 ·rename_i hl
  have lv:vs.length=fs.length:=by rw[<- rs.length];exact hl
  refine⟨by omega,λa ha=>⟨a,G n,vs,by rw[jw],lv,ox,nf,upd_same,λd H2 hd da h1 h2 h3=>⟨rfl,d,_,h1,h2,?_,?_⟩⟩⟩
  ·rw[upd_ne da] at hd
   exact hd
  ·have hd1:H1 d=none:=by rw[upd_ne da] at hd;exact hd
   have same:Same H1 (upd (del H2 a) d (.xd (fs.reverse.zip vs.reverse))):=λb o hb=>by
    have nd:=ne_of_none hb hd1
    have na:=ne_of_none hb ha
    rw[upd_ne nd,del_ne na,h3 b na nd,upd_ne na]
    exact hb
   exact g1 ρ1 _ (.same same) (q1.same same) d vs.reverse upd_same (q1.new hd1) (by rw[List.length_reverse,List.length_reverse];exact hl.symm) ((rs.mono (.same same)).reverse)
 ·exact g1.elim
end
end
end Mi
namespace Mi
open PySem PySem.Spec
open PyProof.Rows L2 Cp
noncomputable section
section
open PySem.W PySem.Calls
variable {prog:Program} {w:World} {A:Around} {E:Value->Shared->Prop} {s:Shared} {K:Frag} {x D:Addr} {ox od:Obj}
theorem NB {Q:Option Value->Shared->Prop} (T:ExcC K D) (X:K.In s.heap) (I:InstAt s.heap x ox D (some od)) (h:Q (some (.ref D)) { s with toks:=s.toks+1 }):wpAny (model prog w) A (getAttr? (.ref x) "__class__") Q E s:=by
 have known:(clsIn K D).isSome=true:=by
  obtain⟨cd,q,_⟩:=any_some T.hd
  rw[q]
  rfl
 have found:findObj K D (some od) "__class__" = some (.bind (.builtin "getset_descriptor.__get__") (.builtin "object.__class__")):=findObj_data known T.ha T.hn T.ht
 obtain⟨hp,g,d,t,os⟩:=s
 have tyL:=I.type (M:=model prog w)
 have gaL:=looks_findIn (M:=model prog w) X T.hg
 have gtL:=looks_findIn (M:=model prog w) X T.hk
 have fdL:=looks_find (M:=model prog w) X I found
 have isE:Looks (model prog w) hp (isInstance (.ref x) (.type "BaseException")) true:=tyL.andThen (looks_subIn X T.hs)
 have no0:(Value.builtin "BaseException.__getattribute__" == Value.builtin "object.__getattribute__")=false:=by decide +kernel
 unfold getAttr? getAttrBy? getAttrBy
 apply wpAny_bind
 apply wpAny_mkText
 apply wpAny_bind
 apply wpAny_attempt
 apply wpAny_holding
 apply wpAny_bind
 apply tyL.at
 apply wpAny_bind
 apply gaL.at
 show wpAny _ _ (if (onTheHeap (Value.ref D) && Value.builtin "BaseException.__getattribute__" == Value.builtin "object.__getattribute__")=true then _ else _) _ _ _
 rw[show(onTheHeap (Value.ref D) && Value.builtin "BaseException.__getattribute__" == Value.builtin "object.__getattribute__")=false from by rw[no0];rfl,if_neg Bool.false_ne_true]
 unfold getAttrByItsOwn hookBefore
 apply wpAny_bind
 rw[if_pos (show onTheHeap (Value.ref D)=true from rfl)]
 apply gtL.at
 apply wpAny_bind
 apply wpAny_attempt
 apply wpAny_holding
 unfold callGetattribute
 rw[show(false && onTheHeap (Value.builtin "BaseException.__getattribute__"))=false from rfl,if_neg Bool.false_ne_true]
 unfold boundAndCalled
 rw[PySem.F.excAttr_ValueError.ga.bind (.ref x)]
 apply wpAny_bind
 apply wpAny_pure
 show wpAny _ _ (call (.builtin "BaseException.__getattribute__") [.ref x,.str "__class__" t]) _ _ _
 apply wpAny_call
 apply codeAny_call_builtin PySem.F.excAttr_ValueError.ga.plain PySem.F.entry_bexc_ga
 apply @check_slot (model prog w) _ _ ⟨hp,g,d,t+1,os⟩ "BaseException.__getattribute__" "BaseException" "__getattribute__" (.ref x) [.str "__class__" t] [] _ qf qf isE (PySem.F.args_bexc_ga (.ref x) (.str "__class__" t))
 unfold Builtin.«object.__getattribute__»
 apply wpAny_bind
 apply wpAny_of_eq (a:=((Value.ref x:Value),[Value.str "__class__" t])) (by first|rfl|(simp only[slotArgs];rfl))
 apply wpAny_bind
 apply wpAny_pure
 apply wpAny_bind
 apply tyL.at
 apply wpAny_bind
 apply fdL.at
 show wpAny _ _ (holding [Value.builtin "object.__class__"] (call (.builtin "getset_descriptor.__get__") [.builtin "object.__class__",.ref x,.ref D]) >>= ret) _ _ _
 apply wpAny_bind
 apply wpAny_holding
 apply wpAny_call
 apply class_get (s:=⟨hp,g,d,t+1,os⟩) (ox:=ox) (od:=some od) X I T.hm
 apply wpAny_pure
 show wpAny _ _ (handedOut (.ref D)) _ _ _
 rw[handedOut_of (v:=.ref D) rfl]
 first
  | exact wpAny_pure (wpAny_pure h)
  | exact wpAny_pure h
  | exact wpAny_pure (wpAny_bind (wpAny_pure (wpAny_pure h)))
theorem cQ (T:ExcC K D):KitX K (.ref x) (.ref D) (λh=>∃ ox od,InstAt h x ox D (some od)):=by
 obtain⟨cdD,hcD,_⟩:=any_some T.hd
 have ob:∃ c' d' sl',K.lookup D=some ⟨c',d',.cls cdD,sl'⟩:=by
  unfold clsIn at hcD
  split at hcD
  ·rename_i c' d' cd' sl' ho
   cases hcD
   exact⟨_,_,_,ho⟩
  ·cases hcD
 obtain⟨c',d',sl',ho⟩:=ob
 constructor
 ·rintro M h X ⟨ox,od,I⟩
  exact I.type
 ·rintro M h X _ A' Q' E' s' k q
  unfold isType loadHead
  apply wpAny_bind
  apply wpAny_loadPart (k _ _ (X _ _ ho))
  exact wpAny_pure q
 ·intro h tp dd its n sl X htp
  cases q:(Value.ref D == Value.ref tp) with
  | false=>rfl
  | true=>
   have e:D=tp:=Value.ref.inj (beq_iff_eq.mp q)
   subst e
   have z:=(X _ _ ho).symm.trans htp
   cases z
 ·rintro prog w A E Q s X ⟨ox,od,I⟩ h
  exact NB T X I h
end
section
variable {X:Cx} {pins:List (Addr × Obj)} {σ:L2.St} {H:Hp} {s:Shared} {p C dx:Addr} {fs:List (Str × V)}
theorem R3 (I:Inv X pins σ H s) (e:H p=some (X8 p C dx)) (ed:H dx=some (.xd fs)):∃ (oe od:Obj) (mA:Str->Option Value),PySem.W.InstAt s.heap p oe C (some od)/\(∀ n,PySem.W.lookIn n od=some (mA n))/\∀ f,RelO (fs.lookup f) (mA f):=by
 have h1:ObjOk X.prog X.w H s.heap p (.ext λh=>∃ (oe:Obj) (vs:Array Value),h.get? p=some oe/\Zc (.ref C) (some dx) oe/\oe.data = .fields vs):=I.hok p _ e
 obtain⟨oe,vs,there,z,isf⟩:=h1.1
 have h2:ObjOk X.prog X.w H s.heap dx (.xd fs):=I.hok dx _ ed
 obtain⟨mA,ns,rel⟩:=h2
 obtain⟨od,at_,look⟩:=lookIn_ns ns
 exact⟨oe,od,mA,⟨there,z.1,by unfold PySem.W.notCls;rw[isf] <;> rfl,by rw[z.2];exact at_⟩,look,rel⟩
def dG4 (K:qk):List V->Hp->VK->Prop:=λxs H Q=>∃ (p C dx:Addr) (fs:List (Str × V)) (c:V) (cv:Value) (b:Bool),xs=[.ref p,c]/\H p=some (X8 p C dx)/\H dx=some (.xd fs)/\ExcC K C/\ClsV c cv/\ya K (.ref C) cv=some b/\Q (.bl b) H
def PGK (K:qk):List V->Hp->VK->Prop:=λxs H Q=>∃ (p C dx tp:Addr) (fs:List (Str × V)) (cs:List V) (us:List Value) (b:Bool),xs=[.ref p,.ref tp]/\H p=some (X8 p C dx)/\H dx=some (.xd fs)/\ExcC K C/\H tp=some (.tup cs)/\Paired ClsV cs us/\PySem.W.kitAny K (.ref C) us=some b/\Q (.bl b) H
def DC (K:qk):List V->Hp->VK->Prop:=λxs H Q=>dG4 K xs H Q \/ PGK K xs H Q
theorem ZC:CallR X (.builtin "isinstance") (dG4 X.K):=by
 intro pins s σ H xs us Q I r h
 obtain⟨p,C,dx,fs,c,cv,b,rfl,e,ed,T,k,kit,q⟩:=h
 obtain⟨u1,u2,rfl,r1,r2⟩:=vals2 r
 obtain rfl:u1=Value.ref p:=r1
 have e2:=k.eq r2
 subst e2
 obtain⟨oe,od,mA,J,_,_⟩:=R3 I e ed
 exact PySem.W.kia_one (cQ T) I.kIn ⟨oe,od,J⟩ kit (λz=>nomatch z) λtk=>⟨.bl b,H,I.tok tk,rfl,q⟩
theorem zD:CallR X (.builtin "isinstance") (PGK X.K):=by
 intro pins s σ H xs us Q I r h
 obtain⟨p,C,dx,tp,fs,cs,ws,b,rfl,e,ed,T,hT,k,kit,q⟩:=h
 obtain⟨u1,u2,rfl,r1,r2⟩:=vals2 r
 obtain rfl:u1=Value.ref p:=r1
 obtain rfl:u2=Value.ref tp:=r2
 obtain⟨oe,od,mA,J,_,_⟩:=R3 I e ed
 obtain⟨_,its,rv,o,h1,h2,n,h3⟩:=(show ObjOk X.prog X.w H s.heap tp (.tup cs) from I.hok tp _ hT)
 have e3:=ClsV.all k rv
 subst e3
 obtain⟨oc,oda,dt,sl⟩:=o
 simp only at h2 h3
 subst h2 h3
 exact PySem.W.kia_tup (cQ T) I.kIn ⟨oe,od,J⟩ h1 kit (λz=>nomatch z) λtk=>⟨.bl b,H,I.tok tk,rfl,q⟩
theorem zS {K:qk} (hK:X.K=K):CallR X (.builtin "isinstance") (DC K):=hK ▸ CallR.or ZC zD
def X5B (K:qk) (n:Str) (te:TE):TE:=λσ H Q=>te σ H λx H1=>∃ (p C dx:Addr) (fs:List (Str × V)) (v:V),x = .ref p/\H1 p=some (X8 p C dx)/\H1 dx=some (.xd fs)/\XfC K C/\ql K (.ref C) n=some none/\fs.lookup n=some v/\Q v H1
theorem KGS {e:Expr} {te:TE} {pos:Pos} {n:Str} (he:PE X e te) (hb:attributeBase e n X.env (eval e X.env)=eval e X.env:=by rfl):PE X (.Attribute e n pos) (X5B X.K n te):=by
 constructor
 intro pins s σ H Q I h
 apply attr_of hb
 apply thn (he.run pins s σ H _ I h)
 rintro u s1 ⟨x,H1,I1,rx,p,C,dx,fs,v,rfl,e,ed,T,hno,l,q⟩
 obtain rfl:u=Value.ref p:=rx
 obtain⟨oe,od,mA,J,look,rel⟩:=R3 I1 e ed
 obtain⟨u,hu,ru⟩:=RelO.some_of (v:=v) (o:=mA n) (by rw[<- l];exact rel n)
 exact HandSPX.exc_get I1.kIn J T.ga T.gg T.exC (PySem.W.findObj_own T.hdC hno rfl (by rw[look,hu])) (handed_of ru) ⟨v,H1,I1.tok _,ru,q⟩
end
def iU:List W->Option (List Str)
 | []=>some []
 | .cls c :: r=>(iU r).map (c :: ·)
 | _=>none
def rQ (Ds Cs:List Str):List W->Option W
 | [.exc d _ _,.cls c]=>if d ∈ Ds/\c ∈ Cs then some (.bl (decide (d=c))) else none
 | [.exc d _ _,.ty t]=>if d ∈ Ds/\t = "ValueError" then some (.bl true) else none
 | [.exc d _ _,.tup cs]=>match iU cs with
  | some ns=>if d ∈ Ds/\ns.all (λn=>decide (n ∈ Cs))=true then some (.bl (decide (d ∈ ns))) else none
  | none=>none
 | _=>none
structure IsX (K:qk) (G:Str->Addr) (Ds Cs:List Str):Prop where
 ex:∀ d ∈ Ds,ExcC K (G d)
 xf:∀ d ∈ Ds,XfC K (G d)
 kc:∀ d ∈ Ds,∀ c ∈ Cs,ya K (.ref (G d)) (.ref (G c))=some (decide (d=c))
 kv:∀ d ∈ Ds,ya K (.ref (G d)) (.type "ValueError")=some true
section
variable {ι:Type} {c:ι->Cx} {K:qk} {G:Str->Addr} {X:W->Rho->Hp->Prop} {Ds Cs:List Str}
theorem VG {ρ:Rho} {H:Hp}:∀ {ws:List W} {ns:List Str} {vs:List V},iU ws=some ns->RVs K G ρ H ws vs->Paired ClsV vs (ns.map λn=>Value.ref (G n))
 | [],ns,vs,h,r=>by cases r;simp only[iU] at h;cases h;exact .nil
 | w :: ws,ns,vs,h,r=>by
  cases w with
  | cls n=>
   simp only[iU] at h
   obtain⟨ms,h2,rfl⟩:=qm.mp h
   cases r with
   | cons h1 r=>
    cases h1
    exact .cons (.own _) (VG h2 r)
  | _=>simp [iU] at h
theorem VC (T:IsX K G Ds Cs) {d:Str} (hd:d ∈ Ds):∀ {ns:List Str},ns.all (λn=>decide (n ∈ Cs))=true->PySem.W.kitAny K (.ref (G d)) (ns.map λn=>Value.ref (G n))=some (decide (d ∈ ns))
 | [],_=>rfl
 | n :: ns,h=>by
  rw[ze,js,decide_eq_true_eq] at h
  have k:=T.kc d hd n h.1
  by_cases e:d=n
  ·rw[decide_eq_true e] at k
   rw[decide_eq_true (show d ∈ n :: ns by rw[e];exact qw)]
   exact kitAny_cons (b:=true) (r:=true) k (λz=>nomatch z) (λ_=>rfl)
  ·rw[decide_eq_false e] at k
   have:decide (d ∈ n :: ns)=decide (d ∈ ns):=by
    by_cases m:d ∈ ns
    ·rw[decide_eq_true m,decide_eq_true (qy _ m)]
    ·rw[decide_eq_false m,decide_eq_false (λz=>by
      rcases qo.mp z with z|z
      ·exact e z
      ·exact m z)]
   rw[this]
   exact kitAny_cons (b:=false) k (λ_=>VC T hd h.2) (λz=>nomatch z)
theorem zF (T:IsX K G Ds Cs):EG K G (DC K) (MI λ_=>rQ Ds Cs):=by
 intro X ρ S H xs vs Q rel r g
 obtain⟨w,hw,g⟩:=Good.lift (o:=rQ Ds Cs xs) g
 unfold rQ at hw
 split at hw
 ·split at hw
  ·rename_i m
   cases hw
   obtain⟨v,u,rfl,r1,r2⟩:=r.two
   cases r2
   cases r1 with
   | exc h1 o1 h2 o2 l r1=>exact .inl ⟨_,_,_,_,_,_,_,rfl,h1,h2,T.ex _ m.1,.own _,T.kc _ m.1 _ m.2,g.fin rel (.bl _)⟩
  ·cases hw
 ·split at hw
  ·rename_i m
   obtain⟨m,rfl⟩:=m
   cases hw
   obtain⟨v,u,rfl,r1,r2⟩:=r.two
   cases r2
   cases r1 with
   | exc h1 o1 h2 o2 l r1=>exact .inl ⟨_,_,_,_,_,_,_,rfl,h1,h2,T.ex _ m,.ty _,T.kv _ m,g.fin rel (.bl _)⟩
  ·cases hw
 ·split at hw
  ·rename_i ns hn
   split at hw
   ·rename_i m
    cases hw
    obtain⟨v,u,rfl,r1,r2⟩:=r.two
    cases r2 with
    | tup h3 r2=>
     cases r1 with
     | exc h1 o1 h2 o2 l r1=>exact .inr ⟨_,_,_,_,_,_,_,_,rfl,h1,h2,T.ex _ m.1,h3,VG hn r2,VC T m.1 m.2,g.fin rel (.bl _)⟩
   ·cases hw
  ·cases hw
 ·cases hw
def gJ (Ds:List Str) (n:Str):W->Option W
 | .exc d fs ws=>if d ∈ Ds then(fs.zip ws).lookup n else none
 | _=>none
def RH (Ds:List Str) (n:Str) (a:Lo->M W):Lo->M W:=λL=>(a L).bind λx=>λS=>gL (gJ Ds n x) S
theorem OT {ρ:Rho} {H:Hp} {n:Str} {w:W}:∀ {fs:List Str} {ws:List W} {vs:List V},RVs K G ρ H ws vs->(fs.zip ws).lookup n=some w->∃ v,(fs.zip vs).lookup n=some v/\RV K G ρ H w v
 | [],_,_,_,h=>by simp at h
 | f :: fs,_,_,.nil,h=>by simp at h
 | f :: fs,_,_,.cons h1 r,h=>by
  rw[List.zip_cons_cons,Qh] at h ⊢
  cases e:(n == f) with
  | true=>
   rw[e] at h
   cases h
   exact⟨_,rfl,h1⟩
  | false=>
   rw[e] at h
   exact OT r h
theorem V9 {e:Expr} {pos:Pos} {n:Str} {a:Lo->M W} (cx:Ctx c K) (T:IsX K G Ds Cs) (nf:∀ d ∈ Ds,ql K (.ref (G d)) n=some none) (h:QE c K G X e a) (hb:∀ i,attributeBase e n (c i).env (eval e (c i).env)=eval e (c i).env:=by exact λ_=>rfl):QE c K G X (.Attribute e n pos) (RH Ds n a):=by
 obtain⟨t,p,r⟩:=h.ex
 refine⟨X5B K n t,λi=>by have:=KGS (pos:=pos) (n:=n) (p i) (hb i);rw[cx.kK i] at this;exact this,⟨?_⟩⟩
 intro ρ S H L σ Q rel rl gd
 refine r.run rel rl ((Good.bind gd).imp λx S1 ρ1 H1 e1 q1 g1 v rv=>?_)
 obtain⟨w,hw,g2⟩:=Good.lift (o:=gJ Ds n x) g1
 unfold gJ at hw
 split at hw
 ·split at hw
  ·rename_i m
   cases rv with
   | exc h1 o1 h2 o2 l r1=>
    obtain⟨v2,l2,r2⟩:=OT r1 hw
    exact⟨_,_,_,_,v2,rfl,h1,h2,T.xf _ m,nf _ m,l2,g2.fin q1 r2⟩
  ·cases hw
 ·cases hw
theorem Ctx.isX (cx:Ctx c K) (i:ι):CallR (c i) (.builtin "isinstance") (DC K):=zS (cx.kK i)
end
end
end Mi
namespace Mi
open PySem PySem.Spec
open PyProof.Rows L2 Cp
noncomputable section
section
variable {P:Program} {w:World} {K:qk} {mg:Str->Option Value} {base:Heap} {qual x s0 a b g g2:Str} {st:Stmt} {f:Addr} {fd:FuncData} {k:Nat}
theorem P5 (F:Fun K x qual st f fd) (sc:FnScope [s0,a] [s0,a] (defScope st)) (body:∀ cdv A outer s H E,PSs (cxOf CX0 P w K mg base [s0,a] qual (defScope st) f cdv A outer s H E).nox (defBody st) (tOst K g (tVar 0) (tVar 1))) :
  FnOk P w K mg base CX0 (k+1) f fd [s0,a] (oZC K [g]):=by
 refine F.ok sc ?_ λcdv A outer s H vs Q E hr q=>⟨_,body cdv A outer s H E,?_⟩
 ·rintro vs H Q E ⟨e,C,us,rfl,hl,_⟩
  rw[qs,hl]
  rfl
 ·obtain⟨e,C,us,rfl,hl,ox,nf,he,q⟩:=q
  obtain⟨v,rfl⟩:∃ v,us=[v]:=by
   match us,hl with
   | [v],_=>exact⟨v,rfl⟩
  refine⟨v,rfl,.ref e,rfl,e,C,rfl,ox,nf g qw,.inl ⟨he,λdx hd ne=>?_⟩⟩
  exact q dx _ hd ne upd_same (by rw[upd_ne ne,upd_same];rfl) λb h1 h2=>by rw[upd_ne h1,upd_ne h2]
end
section
variable {X:Cx} {pins:List (Addr × Obj)} {σ:L2.St} {H:Hp} {s:Shared}
theorem KI {a:Addr} {o:HO} (I:Inv X pins σ H s) (hn:H a=none) (h0:X.s_0.heap.get? a=none) (nl:a ≠ X.env.locals) (nc:∀ y c,X.env.cells.lookup y=some c->a ≠ c) (np:∀ p ∈ X.pn++pins,p.1 ≠ a) (new:ObjOk X.prog X.w (upd H a o) s.heap a o):Inv X pins σ (upd H a o) s where
 ok:=I.ok
 os:=I.os
 bare:=I.bare
 base:={
  keep:=I.base.keep
  slot:=I.base.slot
  free:=λb u e n hx=>by
   rw[upd_ne λz=>by rw[z,h0] at e;cases e]
   exact I.base.free b u e n hx
  there:=I.base.there
  tups:=λb xs e=>by
   have q:=I.base.tups b xs e
   rw[upd_ne (ne_of_none q hn)]
   exact q
  frzs:=λb ob u e=>by
   have q:=I.base.frzs b ob u e
   rw[upd_ne (ne_of_none q hn)]
   exact q
  tbls:=λb ps e=>by
   obtain⟨m,q⟩:=I.base.tbls b ps e
   exact⟨m,by rw[upd_ne (ne_of_none q hn)];exact q⟩ }
 loc:=I.loc
 cell:=I.cell
 free:=by
  rw[upd_ne (Ne.symm nl)]
  exact I.free
 freeC:=λy c e=>by
  rw[upd_ne (Ne.symm (nc y c e))]
  exact I.freeC y c e
 pin:=λp hp=>by
  obtain⟨e,n,r⟩:=I.pin p hp
  exact⟨e,by rw[upd_ne (np p hp)];exact n,r⟩
 hok:=I.hok.laidN (λ_ _ e=>e) hn new
 len:=I.len
def tX (K:qk) (c:Value) (nl i j:Nat) (D:Ends):WX:=λcls d σ H=>σ.length=nl ->
 zl K cls c=some true/\∃ (C dd:Addr),cls = .ref C/\d=some dd/\∀ a,H a=none->D.nx (((σ.set i (some (.ref a))).set j (some (.ref a))).set i none) (upd H a (X8 a C dd))
theorem dVH {x n y:Str} {c:Value} {i j:Nat} {body:List Stmt} {np p1 p2 p3 pos pos':Pos} {tb:WX->TS} (hs:X.stack=X.env :: X.outer) (hf:X.env.frame=some X.env.locals) (hex:X.ex=[]) (hN:X.N.Nodup) (hi:X.N[i]? = some n) (hln:X.env.kindOf n=some .local) (hj:X.N[j]? = some y) (hly:X.env.kindOf y=some .local)
  (hc:Names X x c) (hsw:swapsWith (.Name n p2) (some (.Name y p1)) p3.line X.env=pure false) (hdn:(n == ("__debug__" : Str))=false) (hdc:(n == ("__classdict__" : Str))=false)
  (hb:∀ (W:WX) (pn:List (Addr × Obj)) (xe:Value->Shared->Prop),Takes (X.tr pn xe) W->PassesOwn (model X.prog X.w) X.A X.env xe->PSs (X.tr pn xe) body (tb W)) :
  PS X (.Try body [.ExceptHandler (some (.Name x np)) (some n) [.Assign [.Name y p1] (.Name n p2) p3] pos'] [] [] pos) (λD σ H=>tb (tX X.K c X.N.length i j D) D σ H):=by
 constructor
 intro pins s σ H D I h
 have ok:=I.ok
 have frames:X.A.frames=some (X.env :: X.outer):=ok.frames.trans (congrArg some hs)
 let hnd:List ExceptHandler:=[.ExceptHandler (some (.Name x np)) (some n) [.Assign [.Name y p1] (.Name n p2) p3] pos']
 let look:Value->Shared->Prop:=λe s1=>wpAny (model X.prog X.w) X.A (noteFrame e X.env) (λ_ s2=>wpAny (model X.prog X.w) X.A (setFlight e none) (λ_ s3=>wpAny (model X.prog X.w) X.A (handleBy e X.env hnd) (SP X pins D) X.xe s3) X.xe s2) X.xe s1
 have runs:=(hb (tX X.K c X.N.length i j D) (X.pn++pins) look ?caught PassesOwn.looking).run [] s σ H D (I.toTry _) h
 ·apply wpAny_Try_except
  refine wpAny_mono runs ?_ λe s1 z=>z
  rintro(_ | _ | _|u) s1 told
  ·obtain⟨σ',H',J,q⟩:=told
   exact wpAny_execs_nil ⟨σ',H',J.ofTry ok,q⟩
  ·obtain⟨σ',H',J,q⟩:=told
   exact⟨σ',H',J.ofTry ok,q⟩
  ·obtain⟨σ',H',J,q⟩:=told
   exact⟨σ',H',J.ofTry ok,q⟩
  ·obtain⟨v,σ',H',J,r,q⟩:=told
   exact⟨v,σ',H',J.ofTry ok,r,q⟩
 ·rintro u s' ⟨a,B,sI,pins',σ',H',cls,d,rfl,J',ground,up,sky,na,os,bare,wh⟩
  have J:Inv X pins σ' H' sI:=J'.ofTry ok
  obtain⟨yes,C,dd,rfl,rfl,then_⟩:=wh J.len
  rw[hs] at sky
  show look (.ref a) s'
  refine Sky.land Zc.steady frames hf sky λh3 fl3 up3=>?_
  obtain⟨oe3,vs3,he3,hz3,hd3⟩:=fl3.there
  have J3:Inv X pins σ' H' { s' with heap:=h3 }:=J.landed ground fl3.1 (up.trans up3) os bare
  have offF:a ∉ frs (X.env :: X.outer):=λhm=>by
   obtain⟨_,o',e',hnf⟩:=fl3.2.2.1.mem hm
   rw[he3] at e'
   cases e'
   exact hnf _ hd3
  have nL:a ≠ X.env.locals:=λz=>offF (List.mem_filterMap.mpr ⟨X.env,qw,by rw[hf,z]⟩)
  have nF:a ∉ X.fs:=λhm=>by
   obtain⟨e,he,q⟩:=List.mem_filterMap.mp hm
   exact offF (List.mem_filterMap.mpr ⟨e,qy _ he,q⟩)
  have newI:sI.heap.get? a=none:=by
   cases e:sI.heap.get? a with
   | none=>rfl
   | some o=>
    have:=ground a o e (by rw[hs];exact offF)
    rw[fl3.2.1] at this
    cases this
  have new0:X.s_0.heap.get? a=none:=by
   cases e:X.s_0.heap.get? a with
   | none=>rfl
   | some o=>
    obtain⟨o',q⟩:=J.base.there a o e (by rw[hex];exact qu)
    rw[newI] at q
    cases q
  have offP:∀ p ∈ X.pn++pins,p.1 ≠ a:=λp hp z=>by
   have q:=(J.pin p hp).1
   rw[z,newI] at q
   cases q
  have S3:=J3.suite he3 hd3 na nL nF
  apply wpAny_handleBy_cons (codeAny_handlers_test ?_) (by intro q;cases q)
  have tyL:PySem.W.Looks (model X.prog X.w) h3 (typeOf (.ref a)) (.ref C):=λA Q E s k q=>wpAny_typeOf_ref (k _ _ he3) (by rw[hz3.1];exact q)
  have matches_:=PySem.W.exm_one (M:=model X.prog X.w) (J3.kIn) tyL yes
  have named:∀ {Q:Value->Shared->Prop} {E:Value->Shared->Prop},Q c { s' with heap:=h3 }->wpAny (model X.prog X.w) (X.A.mark (some (.ref a))) (eval (.Name x np) X.env) Q E { s' with heap:=h3 }:=λ{Q E} q=>by
   obtain⟨hg,hdbg,hm|⟨hm,hv,hnn⟩⟩:=hc
   ·exact ld_glob (X:=X.suite a ((a,oe3) :: (X.pn++pins))) S3 hg hm q hdbg
   ·exact ld_blt (X:=X.suite a ((a,oe3) :: (X.pn++pins))) S3 hg hm hv q hnn hdbg
  apply named
  apply matches_.here
  apply codeAny_handlers_suite_as
  refine HandSPX.lands_againZ fl3 λh4 fl4 up4=>?_
  obtain⟨oe4,vs4,he4,hz4,hd4⟩:=fl4.there
  have J4:Inv X pins σ' H' { s' with heap:=h4 }:=J.landed ground fl4.1 ((up.trans up3).trans up4) os bare
  have S4:=J4.suite he4 hd4 na nL nF
  refine store_ok (X:=X.suite a ((a,oe4) :: (X.pn++pins))) (v:=.ref a) S4 hN hi (.inl hln) rfl (λs5 S5=>?_) (.inr hln)
  have suite:PSs (X.suite a ((a,oe4) :: (X.pn++pins))) [.Assign [.Name y p1] (.Name n p2) p3] _:=pss_one (ps_set (i:=j) hN hj (.inl hly) (pe_var (i:=i) hi (.inl hln) hdn hdc) hsw (.inr hly))
  have il:i < σ'.length:=by
   rw[J.len]
   exact(jk.mp hi).1
  refine wpAny_mono (suite.run [] s5 _ H' { nx:=λσ6 H6=>σ6=((σ'.set i (some (.ref a))).set j (some (.ref a)))/\H6=H',rt:=λ_ _=>False } S5 ⟨.ref a,by rw[jj il],⟨rfl,rfl⟩⟩) ?_ λ_ _ z=>z.elim
  rintro(_ | _ | _|u) s6 told
  ·obtain⟨σ6,H6,S6,rfl,rfl⟩:=told
   obtain⟨e6,n6,_,_,nc6⟩:=S6.pin (a,oe4) (zk _ qw)
   have T6:Inv X pins _ (upd H6 a (X8 a C dd)) s6:=KI (S6.unsuite ok) n6 new0 nL (λz cc hz q=>by
    obtain⟨v,oc,ho,hd⟩:=(S6.unsuite ok).cell z cc hz
    rw[<- q,e6] at ho
    cases ho
    exact nc6 v hd) offP ⟨⟨oe4,vs4,e6,hz4,hd4⟩,⟨_,e6⟩,λ_ _ ⟨oe,vs,q,r⟩ k=>⟨oe,vs,k _ q,r⟩⟩
   exact gone_ok T6 hN hi hln λs7 T7=>⟨_,_,T7,then_ a na⟩
  all_goals first
   | (obtain⟨_,_,_,z⟩:=told;exact z.elim)
   | (obtain⟨_,_,_,_,_,z⟩:=told;exact z.elim)
end
end
end Mi
namespace Mi
open PySem PySem.Spec
open PyProof.Rows L2 Cp LamX
noncomputable section
def y9 (r:Option (Res W × Sto)):Option (Res W × Sto):=match r with
 | some (.ok w,S)=>some (.ok w,S)
 | _=>none
def dS (Ds:List Str) (rest:W->M W) (r:Option (Res W × Sto)):Option (Res W × Sto):=match r with
 | some (.ok _,S')=>y9 (rest .non S')
 | some (.er (.exc c fs ws),S')=>if c ∈ Ds then y9 (rest (.exc c fs ws) S') else none
 | _=>none
def vV (Ds:List Str) (m:Lo->M W) (rest:W->M W):Lo->M W:=λL S=>dS Ds rest (m L S)
def TTm (K:qk) (G:Str->Addr) (Ds:List Str) (rest:W->M W):(XK->Hp->VK->Prop)->Hp->VK->Prop:=λtl H Q=>∃ (r:Option (Res W × Sto)) (ρ:Rho) (S:Sto),Rel K G ρ H S /\
 (∀ E Q',Good K G (XOf K G E) ρ H r (KL K G Q')->tl E H Q')/\Good K G X0 ρ H (dS Ds rest r) (KL K G Q)
section
variable {K:qk} {G:Str->Addr} {ρ:Rho} {H:Hp} {S:Sto} {Q:VK}
theorem sO {X:W->Rho->Hp->Prop} {r:Option (Res W × Sto)} {k:W->Sto->Rho->Hp->Prop} (h:Good K G X ρ H (y9 r) k):Good K G X0 ρ H r k:=by
 unfold y9 at h
 split at h
 ·exact h
 ·exact h.elim
theorem bD {X:W->Rho->Hp->Prop} {r:Option (Res W × Sto)} {k:W->Sto->Rho->Hp->Prop} (h:Good K G X ρ H (y9 r) k):Good K G X0 ρ H (y9 r) k:=by
 unfold y9 at h ⊢
 split at h
 ·exact h
 ·exact h.elim
theorem BY {X:W->Rho->Hp->Prop} {Ds:List Str} {rest:W->M W} {r:Option (Res W × Sto)} {k:W->Sto->Rho->Hp->Prop} (h:Good K G X ρ H (dS Ds rest r) k):Good K G X0 ρ H (dS Ds rest r) k:=by
 unfold dS at h ⊢
 split at h
 ·exact bD h
 ·split at h
  ·rename_i m
   rw[if_pos m]
   exact bD h
  ·exact h.elim
 ·exact h.elim
theorem MHw {t:TS} {m:Lo->M Oc} {L:Lo} {σ:L2.St} (h:RS K G X0 t m) (rel:Rel K G ρ H S) (rl:RL K G ρ H L σ) (gd:Good K G X0 ρ H (M.bind (m L) oU S) (KL K G Q)):t { nx:=λ_ H'=>Q .non H',rt:=Q } σ H:=by
 refine h.run rel rl ((Good.bind gd).imp λo S1 ρ1 H1 e1 r1 g1=>?_)
 cases o with
 | nx L'=>exact λσ' _=>g1.fin r1 .non
 | rt w=>exact λv rv=>g1.fin r1 rv
 | bk L'=>exact g1.elim
 | ct L'=>exact g1.elim
end
section
variable {X:Cx} {K:qk} {G:Str->Addr} {x a y n e q:Str} {g CS:Addr} {cdg:Value} {sg:Scope} {Ds:List Str} {m:Lo->M Oc} {rs:List Stmt} {j:Nat} {q1 q2 q3 q4 q5 q6 q7 q8 q9 q10 q11 q12:Pos}
end
abbrev k3X (ι:Type) (c:ι->Cx) (scope:Scope) (k:Nat):Type:={ p:ι × Around × List Env × Shared × Hp × Addr × Addr // Room k (p.2.1.deeper (lamEnv (c p.1) scope p.2.2.2.1.heap.objs.size p.2.2.2.2.2.1 p.2.2.2.2.2.2)) }
def jI {ι:Type} (c:ι->Cx) (scope:Scope) (k:Nat) (E:XK):k3X ι c scope k->Cx:=λp=>lamCx (c p.1.1) p.1.2.1 p.1.2.2.1 p.1.2.2.2.1 p.1.2.2.2.2.1 E scope p.1.2.2.2.2.2.1 p.1.2.2.2.2.2.2
section
variable {ι:Type} {c:ι->Cx} {K:qk} {G:Str->Addr} {X:W->Rho->Hp->Prop} {scope:Scope} {k:Nat} {E:XK}
theorem N5:∀ i,Takes (jI c scope k E i) (λcls d _ H=>E cls d H):=λ_=>takes_of rfl rfl rfl rfl
theorem tE:∀ i,Room k (jI c scope k E i).A:=λi=>i.2
theorem nUb (cx:Ctx c K):Ctx (jI c scope k E) K:=⟨λi=>cx.kK i.1.1,λ_=>rfl,λi=>by have h:=i.2.un;show((jI c scope k E i).A).units+65 < cLine;exact jy (by show(jI c scope k E i).A.units+65<=_;exact jg _) (by have:=h;show(i.1.2.1.deeper _).units+65 < cLine;omega)⟩
theorem U7 {q x a:Str} {g c0:Addr} {st:Stmt} {fd:FuncData} {N:List Str} {params:Arguments} {body:Expr} {p lpos pos:Pos} {Ds:List Str} {m:Lo->M W} {rest:W->M W} (F:Fun K x x st g fd) (hKc:∀ i,(c i).K=K) (hg:∀ i,Gl (c i) x) (hm:∀ i,(c i).mg x=some (.ref g)) (hb:Binds K fd [a] []) (Sg:FnScope N [a] (defScope st)) (hNg:N[0]? = some a) (hva:Vis (defScope st) a)
  (hG:∀ i cdg,GivesTo (c i) N x (defScope st) g cdg (defBody st) a q (TTm K G Ds rest)) (TB:∀ i,TabB (c i).base (c i).mg c0 (G (gO q))) (inj:TabI G) (hQ:q ∈ AG) (h0:G (gO q) ≠ 0) (hcode:∀ i,(c i).env.code = .ref c0) (hq:∀ i,(c i).env.qual ++ "<lambda>" = q)
  (hr:∀ i,Room (k+2) (c i).A) (L:∀ i,LamS (c i).env.scope scope) (hdef:∀ i,defaultsOf params (c i).env=([],[])) (hbind:∀ (q:Str) (cl:List (Str × Addr)) (pm cv ctv:Value),bindArgs (PySem.W.kla_fn "<lambda>" q params body scope cl pm cv ctv) ⟨[],[]⟩=pure [])
  (hbody:∀ E,QE (jI c scope k E) K G (XOf K G E) body m) (hdb:(x == ("__debug__" : Str))=false:=by decide) (hd:(a == ("__debug__" : Str))=false:=by decide) (hcd:(a == ("__classdict__" : Str))=false:=by decide) :
  QE c K G X (.Call (.Name x p) [.Lambda params body scope lpos] [] pos) (vV Ds m rest):=by
 obtain⟨oc,od,kV,doc,pm,an,cdv,ct,osl,rfl,known,coded⟩:=F.ex
 let t:XK->TE:=λE=>(hbody E).ex.choose
 have tp:∀ E,(∀ i,PE (jI c scope k E i) body (t E))/\RE K G (XOf K G E) (t E) m:=λE=>(hbody E).ex.choose_spec
 refine⟨tLam (e8k G) (TTm K G Ds rest) t,λi=>?_,⟨?_⟩⟩
 ·refine pe_lamcall (X:=c i) (hg i) (hm i) ((hKc i).symm ▸ F.kp) ((hKc i).symm ▸ known) ((hKc i).symm ▸ coded) ((hKc i).symm ▸ hb) Sg hNg hva (by rw[hq i];exact hG i cdv) (TB i) (hcode i) (by rw[hq i];exact m9 hQ h0) (λp hp e=>by rw[hq i];exact inj.only hQ p hp e) (hr i) (L i) (hdef i) hbind (λA outer s H E f c' room=>?_) hdb hd hcd
  exact(tp E).1 ⟨(i,A,outer,s,H,f,c'),room⟩
 ·intro ρ S H Lo σ Q rel rl gd
  refine⟨rel.tb.tabs,λH1 en t1=>?_⟩
  have tab1:TabOk G H1:=.of t1
  have same:qE H H1:=λb o e nt=>en b o e nt
  have ex:Ext ρ H ρ H1:=.sameT same
  exact⟨m Lo S,ρ,S,rel.sameT same tab1,λE Q' g'=>(tp E).2.run (rel.sameT same tab1) (rl.mono ex) g',BY ((show Good K G X ρ H (dS Ds rest (m Lo S)) (KL K G Q) from gd).at ex)⟩
end
end
end Mi
namespace Mi
open PySem PySem.Spec
open PyProof.Rows L2 Cp LamX
noncomputable section
structure LawTab (K:qk) (fa c0 P0:Addr) (fd:FuncData):Prop where
 law:∃ oc od sl,K.lookup fa=some ⟨oc,od,.func fd,sl⟩
 code:fd.code = .ref c0
 tab:∃ vs,PySem.W.recIn K c0 "code" = some vs/\vs[11]? = some (.ref P0)
 none_:jo K (.ref P0)=none
 hd:PySem.W.codeHdIn K c0 P0=true
theorem LawTab.out {K:qk} {fa c0 P0:Addr} {fd:FuncData} (T:LawTab K fa c0 P0 fd):K.lookup P0=none:=by
 have:=T.none_
 unfold jo at this
 exact Option.map_eq_none_iff.mp this
theorem LawTab.empty {K:qk} {fa c0 P0:Addr} {fd:FuncData} {h:Heap} (T:LawTab K fa c0 P0 fd) (own:OwnTab K fa h):h.get? P0=some { cls:=.none,data:=.fields #[] }:=by
 obtain⟨oc,od,sl,lk⟩:=T.law
 obtain⟨vs,rc,e11⟩:=T.tab
 unfold PySem.W.recIn at rc
 split at rc
 ·rename_i n d ws sl2 ho
  split at rc
  ·cases rc
   exact own c0 P0 _ fd _ _ ws sl2 lk rfl T.code ho (by simpa using e11)
  ·cases rc
 ·cases rc
end
end Mi
namespace Mi
open PySem PySem.Spec
open PyProof.Rows L2 Cp LamX
noncomputable section
section
variable {P:Program} {w:World} {K:qk} {G:Str->Addr} {mg:Str->Option Value} {base:Heap} {k n:Nat} {f:Addr} {fd:FuncData} {ps N:List Str} {F:List W->M W} {x qual:Str} {st:Stmt}
theorem OS (h:FnOk P w K mg base (L2.CX P w) k f fd ps (spX K G n F)):FnOk P w K mg base CX0 k f fd ps (spF K G n F):=by
 have up:∀ {vs:List V} {H:Hp} {Q:VK} {E:XK},spF K G n F vs H Q E->spX K G n F vs H Q (λ_ _ _=>False):=by
  rintro vs H Q E ⟨ρ,S,ws,hl,rel,rv,gd⟩
  refine⟨ρ,S,ws,hl,rel,rv,?_⟩
  unfold Good at gd ⊢
  split at gd
  ·exact gd
  ·exact gd
  ·exact λρ' H' e q=>(gd ρ' H' e q).elim
 constructor
 ·intro vs H Q E q
  exact h.len _ _ _ _ (up q)
 ·intro A outer s H args us vs Q E hr e0 hb r q
  refine codeAny_mono (h.run A outer s H args us vs Q (λ_ _ _=>False) hr e0 hb r (up q)) ?_
  rintro(raised|fl) s' told
  ·obtain⟨_,_,_,_,_,_,_,_,_,_,_,_,z⟩:=told
   exact z.elim
  ·rcases fl with _ | _ | _|u
   ·exact told
   ·exact told
   ·exact told
   ·exact told
theorem YJ {m:Lo->M Oc} {c0:Addr} (F:Fun K x qual st f fd) (hcode:fd.code = .ref c0) (sc:FnScope N ps (defScope st))
  (body:∀ (A:Around) (outer:List Env) (s:Shared) (H:Hp) (E:XK),Room k (A.deeper (envOfC qual (defScope st) s.heap.objs.size f (.ref c0)))->A.guards=some []->QSs (cx1 P w K mg base N qual st f (.ref c0) A outer s H E) K G X0 (defBody st) m) :
  FnG P w K mg base CX0 (k+1) f fd ps (spF K G ps.length (IU N ps.length m)):=by
 obtain⟨_,_,_,_,_,_,cdv,_,_,rfl,known,coded⟩:=F.ex
 obtain rfl:cdv = .ref c0:=hcode
 constructor
 ·intro vs H Q E q
  exact MG q
 intro A outer s H args us vs Q E room OS around bound rel want
 obtain⟨t,runs,r⟩:=(body A outer s H E (room.deeper _) OS).ex
 have reads:=B3 r want
 have old:∀ b o,base.get? b=some o->s.heap.get? b=some o:=λb o e=>(around.bs b o e).left
 have ledger:K.In s.heap:=around.mod.kin.keeps old
 have places:∀ y ∈ ps.zip us,(defScope st).names.lookup y.1=some .local \/ ((defScope st).names.lookup y.1=some .cell/\((cellsFrom (s.heap.objs.size+1) (defScope st).names []).lookup y.1).isSome=true):=by
  rintro⟨n,v⟩ there
  cases sc.par n (Qk there).left with
  | inl q=>exact Or.inl q
  | inr q=>exact Or.inr ⟨q,PySem.W.cellsFrom_some _ _ _ (Or.inl q)⟩
 apply codeAny_call_function room.depth (ledger _ _ known) rfl sc.co sc.gen rfl (PySem.W.codeRec_of ledger coded)
 apply bound
 apply wpAny_newFunctionEnv_cells sc.kind places
 rintro env rfl s1 made
 refine⟨(around.mod.nolimit.keeps old).keeps made.toInCall.keep,?_⟩
 apply codeAny_func
 have begun:=inv_start (CX:=CX0) (E:=E) sc room.hd around (MG want) rel made
 refine wpAny_mono ((runs ()).nox.run [] s1 (L2.start N vs) H _ begun reads) ?_ λ_ _ z=>z
 rintro(_ | _ | _|u) s' told
 ·obtain⟨σ',H',J,q⟩:=told
  exact qT J (u:=Value.none) (v:=V.non) rfl q
 all_goals first
  | (obtain⟨v,σ',H',J,rv,q⟩:=told;exact qT J rv q)
  | (obtain⟨_,_,_,q⟩:=told;exact q.elim)
theorem cOq {C D:Addr} {b:Bool} (own:qv K (.ref C) (.ref C)=some true) (h:qv K (.ref C) (.ref D)=some b) (hd:jr K D=true) (ty:jo K (.ref D)=some (.type "type")):ya K (.ref C) (.ref D)=some b:=by
 unfold ya
 by_cases e:C=D
 ·subst e
  rw[own] at h
  cases h
  rw[if_pos (beq_self_eq_true _)]
 ·rw[if_neg (λz=>e (Value.ref.inj (eq_of_beq z)))]
  obtain⟨cd,hc,_⟩:=PySem.W.any_some hd
  show(if ((PySem.W.clsIn K D).isSome && jo K (.ref D) == some (Value.type "type"))=true then qv K (.ref C) (.ref D) else none)=_
  rw[hc,ty]
  show(if ((some cd).isSome && some (Value.type "type") == some (.type "type"))=true then qv K (.ref C) (.ref D) else none)=_
  rw[if_pos (by simp)]
  exact h
theorem ALe {C:Addr} (h:qv K (.ref C) (.type "ValueError")=some true):ya K (.ref C) (.type "ValueError")=some true:=by
 unfold ya
 rw[if_neg (by intro z;cases (eq_of_beq z))]
 show(if PySem.W.kitMeta "ValueError" = true then qv K (.ref C) (.type "ValueError") else none)=_
 rw[if_pos qf]
 exact h
theorem lFB {Ds Cs:List Str} (ex:∀ d ∈ Ds,ExcC K (G d)) (sv:∀ d ∈ Ds,qv K (.ref (G d)) (.type "ValueError")=some true) (own:∀ d ∈ Ds,qv K (.ref (G d)) (.ref (G d))=some true)
  (sub:∀ d ∈ Ds,∀ c ∈ Cs,qv K (.ref (G d)) (.ref (G c))=some (decide (d=c))) (hd:∀ c ∈ Cs,jr K (G c)=true) (ty:∀ c ∈ Cs,jo K (.ref (G c))=some (.type "type")):IsX K G Ds Cs:=
 ⟨ex,λd h=>⟨(ex d h).hg,(ex d h).hk,(ex d h).hs,(ex d h).hd⟩,λd h c hc=>cOq (own d h) (sub d h c hc) (hd c hc) (ty c hc),λd h=>ALe (sv d h)⟩
end
end
end Mi
namespace Mi
open PySem PySem.Spec
open PyProof.Rows L2 Cp
noncomputable section
def QFv (K:qk) (G:Str->Addr) (n:Str) (sp:Sp) (f:List W->M W):Prop:=∀ {ρ:Rho} {S:Sto} {H:Hp} {ws:List W} {vs:List V} {Q:VK} {E:XK},Rel K G ρ H S->RVs K G ρ H ws vs->Good K G (XOf K G E) ρ H (f ws S) (KL K G Q) ->
 ∀ x dx,H x=none->H dx=none->dx ≠ x->sp (.ref x :: vs) (upd (upd H dx (.own x)) x (.ins (G n) dx [])) (λv H2=>v = .non/\Q (.ref x) H2) E
def G4 (c:Str) (n:Nat) (F:List W->M W):List W->M W:=λws S=>if ws.length+1=n then match F (.ref S.length :: ws) (S++[.ins c []]) with
 | some (.ok .non,S')=>some (.ok (.ref S.length),S')
 | some (.er e,S')=>some (.er e,S')
 | _=>none
 else none
section
variable {K:qk} {G:Str->Addr}
theorem lW {n:Str} {j:Nat} {F:List W->M W} (cl:Cls K (G n)):QFv K G n (spX K G j F) (G4 n j F):=by
 intro ρ S H ws vs Q E rel rv gd x dx hx hd ne
 unfold G4 at gd
 split at gd
 ·rename_i hl
  obtain⟨e1,r1⟩:=OK (n:=n) rel cl hx hd ne
  have hp:(ρ.add x).l[S.length]? = some x:=by
   show(ρ.l++[x])[S.length]? = some x
   rw[<- rel.len]
   simp
  refine⟨ρ.add x,S++[.ins n []],.ref S.length :: ws,by simpa using hl,r1,.cons (.ref hp) (rv.mono e1),?_⟩
  split at gd
  ·rename_i S' e
   rw[e]
   intro ρ2 H2 e2 r2 v r
   cases r
   exact⟨rfl,gd ρ2 H2 (e1.trans e2) r2 _ (.ref (e2.get hp))⟩
  ·rename_i w S' e
   rw[e]
   intro ρ2 H2 e2 r2
   exact gd ρ2 H2 (e1.trans e2) r2
  ·exact gd.elim
 ·exact gd.elim
end
section
variable {ι:Type} {c:ι->Cx} {K:qk} {G:Str->Addr} {e:Expr} {es:List Expr} {pos p:Pos} {ms:Lo->M (List W)} {fM:List W->M W} {sp:Sp} {f:Addr} {fd:FuncData} {ps:List Str} {k:Nat} {x n:Str} {E:XK}
end
theorem yO {K:qk} {C D:Addr} (eb:qv K (.ref D) (.type "BaseException")=some true) (hd:jr K D=true) (ty:jo K (.ref D)=some (.type "type")) (h:qv K (.ref C) (.ref D)=some true):zl K (.ref C) (.ref D)=some true:=by
 obtain⟨cd,hc,_⟩:=PySem.W.any_some hd
 unfold zl
 rw[if_pos (by rw[eb];rfl)]
 show(if ((PySem.W.clsIn K D).isSome && jo K (.ref D) == some (Value.type "type"))=true then qv K (.ref C) (.ref D) else none)=_
 rw[hc,ty]
 show(if ((some cd).isSome && some (Value.type "type") == some (.type "type"))=true then qv K (.ref C) (.ref D) else none)=_
 rw[if_pos (by simp)]
 exact h
theorem U6 {K:qk} {G:Str->Addr} {d c:Str} {x y:Addr} {b:Bool} (e1:G d=x) (e2:G c=y) (h:qv K (.ref x) (.ref y)=some b) (hb:b=decide (d=c)):qv K (.ref (G d)) (.ref (G c))=some (decide (d=c)):=by
 rw[e1,e2,h,hb]
theorem nT {K:qk} {G:Str->Addr} {d c:Str} {x y:Addr} (e1:G d=x) (e2:G c=y) (h:zl K (.ref x) (.ref y)=some true):zl K (.ref (G d)) (.ref (G c))=some true:=by
 rw[e1,e2,h]
def Eo {α:Type} (r:Option (Res α × Sto)) (Q:α->Sto->Prop) (E:W->Sto->Prop):Prop:=match r with
 | some (.ok a,S)=>Q a S
 | some (.er e,S)=>E e S
 | none=>False
section
variable {α β:Type} {m:M α} {f:α->M β} {S:Sto} {Q Q':α->Sto->Prop} {R:β->Sto->Prop} {E E':W->Sto->Prop} {a:α} {r:Option (Res α × Sto)}
theorem Ev.eo (h:Ev r Q):Eo r Q E:=by
 unfold Ev at h
 unfold Eo
 split at h
 ·exact h
 ·exact h.elim
theorem Eo.imp (h:Eo r Q E) (k:∀ a S,Q a S->Q' a S) (k2:∀ e S,E e S->E' e S):Eo r Q' E':=by
 unfold Eo at h ⊢
 split at h
 ·exact k _ _ h
 ·exact k2 _ _ h
 ·exact h.elim
theorem rX:Eo (M.bind m f S) R E=Eo (m S) (λa S'=>Eo (f a S') R E) E:=by
 unfold M.bind Eo
 cases m S with
 | none=>rfl
 | some p=>
  obtain⟨p,S'⟩:=p
  cases p <;> rfl
theorem eoB (h:Eo (m S) (λa S'=>Eo (f a S') R E) E):Eo (M.bind m f S) R E:=rX.mpr h
end
section
variable {S:Sto} {L:Lo} {w:W} {ws:List W} {n:Nat} {E:W->Sto->Prop}
theorem xC {N:List Str} {m:Lo->M Oc} {Q:W->Sto->Prop} (hl:ws.length=n) (h:Eo (m (JM N ws) S) (λo S'=>Ev (oU o S') Q) E):Eo (IU N n m ws S) Q E:=by
 unfold IU
 rw[if_pos hl]
 exact eoB (h.imp (λ_ _ z=>z.eo) λ_ _ z=>z)
section
variable {Q:Oc->Sto->Prop} {a b t u:Lo->M Oc} {e e1 e2:Lo->M W} {es:Lo->M (List W)} {k:Lo->M Bool} {g:W->Lo->M Lo}
theorem MN (h:Eo (a L S) (λo S'=>Eo (FS b o S') Q E) E):Eo (kO a b L S) Q E:=by
 unfold kO
 exact eoB h
theorem C1 (h:Eo (b L S) Q E):Eo (FS b (.nx L) S) Q E:=h
theorem M4 (h:Ev (k L S) λc S'=>if c=true then Eo (t L S') Q E else Eo (u L S') Q E):Eo (mIf k t u L S) Q E:=by
 unfold mIf
 refine eoB (Ev.eo (h.imp λc S' z=>?_))
 cases c <;> exact z
theorem SC {c:Str} {fs:List Str} (h:Ev (es L S) λws S'=>ws.length=fs.length/\E (.exc c fs.reverse ws.reverse) S'):Eo (U9 c fs es L S) Q E:=by
 unfold U9
 refine eoB (Ev.eo (h.imp ?_))
 rintro ws S' ⟨h1,h2⟩
 rw[if_pos h1]
 exact h2
theorem OHh {it:Lo->M Itm} (h:Ev (it L S) λI S'=>Eo (Y2 I.live g b I.items L S') Q E):Eo (GN it g b L S) Q E:=by
 unfold GN
 exact eoB (Ev.eo h)
theorem O7 {p:Sto->Prop} (I:List W->Lo->Sto->Prop) (X:W->Sto->Prop) (step:∀ x xs L S,I (x :: xs) L S->p S/\Ev (g x L S) λL' S'=>Eo (b L' S') (λo S''=>match o with
   | .nx L2=>I xs L2 S''
   | .ct L2=>I xs L2 S''
   | .bk L2=>Q (.nx L2) S''
   | .rt w=>X w S'') E)
  (last:∀ L S,I [] L S->p S/\Q (.nx L) S) (out:∀ w S,X w S->Q (.rt w) S):∀ xs L S,I xs L S->Eo (Y2 p g b xs L S) Q E
 | [],L,S,h=>(E2 (last L S h).1 (last L S h).2).eo
 | x :: xs,L,S,h=>by
  obtain⟨hp,h2⟩:=step x xs L S h
  rw[Y2]
  refine eoB (Ev.eo (CQ hp ?_))
  refine eoB (Ev.eo (h2.imp λL' S' h3=>eoB (h3.imp (λo S'' h4=>?_) λ_ _ z=>z)))
  cases o with
  | nx L2=>exact O7 I X step last out xs L2 S'' h4
  | ct L2=>exact O7 I X step last out xs L2 S'' h4
  | bk L2=>exact h4
  | rt w=>exact out w S'' h4
end
section
variable {Q:W->Sto->Prop} {as:Lo->M (List W)} {F:List W->M W} {c:Str}
theorem ETi {f:List W->M W} (h:Ev (as L S) λws S'=>Eo (f ws S') Q E):Eo (fD f as L S) Q E:=by
 unfold fD
 exact eoB (Ev.eo h)
theorem A0 (hl:ws.length+1=n) (h:Eo (F (.ref S.length :: ws) (S++[.ins c []])) (λw S'=>w = .non/\Q (.ref S.length) S') E):Eo (G4 c n F ws S) Q E:=by
 unfold G4
 rw[if_pos hl]
 unfold Eo at h
 split at h
 ·rename_i w S' e
  obtain⟨rfl,q⟩:=h
  rw[e]
  exact q
 ·rename_i x S' e
  rw[e]
  exact h
 ·exact h.elim
theorem VQ (hl:ws.length=n) (h:Eo (F ws S) Q E):Eo (NI n F ws S) Q E:=by
 unfold NI
 rw[if_pos hl]
 exact h
theorem QK {Ds:List Str} {m:Lo->M W} {rest:W->M W} (h:Eo (m L S) (λ_ S'=>Ev (rest .non S') Q) λe S'=>∃ c fs us,e = .exc c fs us/\c ∈ Ds/\Ev (rest e S') Q):Ev (vV Ds m rest L S) Q:=by
 unfold vV dS
 unfold Eo at h
 have no:∀ {r:Option (Res W × Sto)},Ev r Q->Ev (y9 r) Q:=λ{r} h=>by
  unfold Ev at h
  split at h
  ·exact h
  ·exact h.elim
 split at h
 ·rename_i w S' e
  rw[e]
  exact no h
 ·rename_i x S' e
  obtain⟨c,fs,us,rfl,hc,q⟩:=h
  rw[e]
  show Ev (if c ∈ Ds then y9 (rest (.exc c fs us) S') else none) Q
  rw[if_pos hc]
  exact no q
 ·exact h.elim
theorem H9 {Ds:List Str} {f:Str} {a:Lo->M W} (h:Ev (a L S) λx S'=>∃ w,gJ Ds f x=some w/\Q w S'):Ev (RH Ds f a L S) Q:=by
 unfold RH
 refine evB (h.imp ?_)
 rintro x S' ⟨w,e,q⟩
 rw[e]
 exact q
end
end
end
end Mi
namespace Mi
open PySem PySem.Spec
open PyProof.Rows L2 Cp
noncomputable section
abbrev FC (t:Addr):Obj:={ cls:=.type "tuple_iterator",data:=.fields #[.ref t,.int 0 0] }
abbrev iL (it:Addr):Obj:={ cls:=.type "enumerate",data:=.fields #[.none,.bool false,.ref it,rawInt 0,.none,.none] }
theorem UT (t:Addr) (items:Array Value):Meets (Builtin.«enumerate.__new__» ⟨[.type "enumerate",.ref t],[]⟩) (λ_ R s=>s.heap.IsTuple t items/\R (.ok (.ret (.ref (s.heap.push (FC t)).objs.size))) { s with heap:=(s.heap.push (FC t)).push (iL s.heap.objs.size) }):=
 .of_wp λprog w A R s told=>by
  obtain⟨mem,gens,dr,tks,sys⟩:=s
  obtain⟨isT,told⟩:=told
  have hsub:=sub_enumerate
  have walk:∀ {A':Around} {E:Value->Shared->Prop} {Q:Value->Shared->Prop},Q (.ref mem.objs.size) ⟨mem.push (FC t),gens,dr,tks,sys⟩->wpAny (model prog w) A' (pyIter (.ref t)) Q E ⟨mem,gens,dr,tks,sys⟩:=λq=>wpAny_pyIter_tuple isT q
  obtain⟨ot,there,ct,nt,dt⟩:=isT
  obtain⟨c0,d0,dat0,sl0⟩:=ot
  replace ct:c0 = .type "tuple" := ct
  replace dt:dat0 = .seq items nt:=dt
  subst ct dt
  wp_walk using AutoSeq1.wpAny_loadPart' there
  refine wpAny_stack_any λst=>wpAny_pure ?_
  split
  ·rename_i c _ _ _ _ _
   cases (c == Value.type "enumerate")
   ·wp_walk using AutoSeq1.wpAny_loadPart' there,walk
    exact⟨_,rfl,told⟩
   ·wp_walk using AutoSeq1.wpAny_loadPart' there,walk
    exact⟨_,rfl,told⟩
  ·wp_walk using AutoSeq1.wpAny_loadPart' there,walk
   exact⟨_,rfl,told⟩
theorem PQ {prog:Program} {w:World} {A:Around} {E:Value->Shared->Prop} {s:Shared} {t:Addr} {items:Array Value} {Q:Value->Shared->Prop} (isT:s.heap.IsTuple t items)
  (told:∀ h',IsEnum h' (s.heap.objs.size+1) s.heap.objs.size 0 .none->h'.IsTupleIter s.heap.objs.size t 0->(∀ b o,s.heap.get? b=some o->h'.get? b=some o)->Q (.ref (s.heap.objs.size+1)) { s with heap:=h' }) :
  wpAny (model prog w) A (call (.type "enumerate") [.ref t]) Q E s:=by
 refine callType_new F.called_enumerate qg (F.typeCall_enumerate_1 _) (F.newCall_enumerate_1 _) (λobj=>F.args_object_init_2 obj _) F.entry_enumerate_new (UT t items) ⟨isT,?_⟩
 have size:(s.heap.push (FC t)).objs.size=s.heap.objs.size+1:=Heap.size_push ..
 show _/\_
 rw[size]
 have isE:IsEnum ((s.heap.push (FC t)).push (iL s.heap.objs.size)) (s.heap.objs.size+1) s.heap.objs.size 0 .none:=by
  have got:=Heap.get?_push_size (s.heap.push (FC t)) (o:=iL s.heap.objs.size) rfl
  rw[size] at got
  exact got
 refine⟨⟨_,isE,rfl⟩,told _ isE ?_ λb o x=>?_⟩
 ·exact⟨_,Heap.get?_push_of_some _ (Heap.get?_push_size _ rfl),rfl,rfl⟩
 ·exact Heap.get?_push_of_some _ (Heap.get?_push_of_some _ x)
def OCN (K:qk) (a:Addr):It where
 go:=λi H=>∃ (xs:List V) (x:V),SqT K H a xs/\xs[i]? = some x
 yld:=λi H v H'=>∃ T x,v = .ref T/\H T=none/\H'=upd H T (.tup [.int (i:Nat),x])/\∀ xs,SqT K H a xs->xs[i]? = some x
 stop:=λi H=>∃ xs:List V,SqT K H a xs/\xs.length<=i
theorem V8 {P:Program} {w:World} {K:qk} {elts:List Expr} {kk:Nat} {tpos:Pos} (a e it:Addr) (xs0:List V) (its0:List Value) :
  Turn P w K (.Tuple elts kk tpos) (OCN K a) [e,it] e (λi h=>(∃ old,IsEnum h e it ((i:Nat):Int) old)/\h.IsTupleIter it a i/\e ≠ it) where
 mem:=by simp
 obj:=λi h st b hb=>by
  obtain⟨⟨old,isE⟩,⟨o,there,_,isF⟩,_⟩:=st
  rcases qo.mp hb with rfl|hb
  ·exact⟨_,isE,λv q=>nomatch q⟩
  ·rw[qp.mp hb]
   exact⟨o,there,λv q=>by rw[isF] at q;cases q⟩
 keep:=λi h h' st k=>⟨st.1.imp λold isE=>k e (by simp) _ isE,st.2.1.at λo q=>k it (by simp) o q,st.2.2⟩
 item:=by
  intro X hP hw hK calm i pins s σ H E I apart st UPf
  subst hP hw hK
  obtain⟨⟨old,isE⟩,isI,ne⟩:=st
  obtain⟨xs,x,sq,at_⟩:=UPf
  obtain⟨its,rv,isT,few⟩:=I.tuple sq
  obtain⟨u,hu,ru⟩:=rv.get at_
  have isT:s.heap.IsTuple a its.toArray:=isT
  have e_lt:e < s.heap.objs.size:=Heap.lt_size isE
  have i_lt:it < s.heap.objs.size:=by
   obtain⟨_,q,_⟩:=isI
   exact Heap.lt_size q
  have ai:a ≠ it:=λz=>by
   obtain⟨o,q,c,_⟩:=isT
   obtain⟨o',q',c',_⟩:=isI
   rw[z,q'] at q
   cases q
   rw[c'] at c
   injection c with c
   exact absurd c qg
  have ae:e ≠ a:=λz=>by
   obtain⟨o,q,c,_⟩:=isT
   have isE':s.heap.get? e=some _:=isE
   rw[z,q] at isE'
   cases isE'
   have c:Value.type "enumerate" = .type "tuple" := c
   injection c with c
   exact absurd c qg
  have sized:i < its.toArray.size:=by
   have:=(jk.mp hu).1
   simpa using this
  refine wpAny_pyNext_enum_itemD (Draws.tuple (A:=X.A.in1) (show X.A.in1.handled=none from I.ok.hd calm) it a ai its.toArray) isE ⟨isI,isT⟩ sized ne (by simp only[qo,qu,or_false,not_or];exact⟨ne,ae⟩) λy h' tk isY out in_ isP size keeps=>?_
  have ey:y=u:=by
   rw[show its.toArray[i]? = some u from by simpa using hu] at isY
   exact(Option.some.inj isY).symm
  subst ey
  refine⟨_,rfl,wpAny_letOwnedTupleGo_enum (s:={ s with heap:=h',toks:=tk+1 }) out λh2 isE2 but=>?_⟩
  have isP2:h2.get? s.heap.objs.size=some { cls:=.type "tuple",data:=.seq #[.int i tk,y] }:=(but.2 _ (Nat.ne_of_gt e_lt)).trans isP
  have new:ObjOk X.prog X.w (upd H s.heap.objs.size (.tup [.int (i:Nat),x])) h2 s.heap.objs.size (.tup [.int (i:Nat),x]):=
   ⟨by show 2<=sizeLine;decide,[.int i tk,y],.cons ⟨_,rfl⟩ (.cons ru .nil),⟨_,isP2,rfl,_,rfl⟩⟩
  have J:Inv X pins σ (upd H s.heap.objs.size (.tup [.int (i:Nat),x])) { s with heap:=h2,toks:=tk+1 }:=
   I.turnedNew (ch:=[e,it]) (λb ob hb q=>(but.2 b (λz=>hb (by simp [z]))).trans (keeps b ob (λz=>hb (by simp [z])) (λz=>hb (by simp [z])) q)) apart (jg _) new
  refine⟨.ref s.heap.objs.size,_,J,rfl,⟨_,x,rfl,I.hok.fresh (jg _),rfl,λys hy=>by rw[I.tuple_inj hy sq];exact at_⟩,⟨⟨y,?_⟩,in_.1.at λo q=>(but.2 it (Ne.symm ne)).trans q,ne⟩,λb hb=>?_⟩
  ·rw[show((i+1:Nat):Int)=(i:Int)+1 from by omega]
   exact isE2
  ·have b_lt:b < s.heap.objs.size:=by
    rcases qo.mp hb with rfl|hb
    ·exact e_lt
    ·rw[qp.mp hb]
     exact i_lt
   rw[upd_ne (zj b_lt)]
   exact(apart b hb).1
 done:=by
  intro X hP hw hK calm i pins s σ H E I apart st stops
  subst hP hw hK
  obtain⟨⟨old,isE⟩,isI,ne⟩:=st
  obtain⟨xs,sq,len⟩:=stops
  obtain⟨its,rv,isT,few⟩:=I.tuple sq
  have isT:s.heap.IsTuple a its.toArray:=isT
  obtain⟨f0,f1,f2,f3,f4,f5⟩:=apart it (by simp)
  have hl:=rv.length
  have none_:its.toArray[i]? = none:=by simp;omega
  have hT:s.TypeIs (.ref e) "enumerate" := ⟨_,isE,rfl⟩
  unfold pyNext
  refine wpAny_bind (wpAny_attempt (wpAny_callSpecial?_slot (name:=Str.ofString "__next__") hT F.slot_enumerate_next (wpAny_call_entry F.slot_enumerate_next hT F.entry_enumerate_next ?_ (F.args_enumerate_next_1 _))))
  show wpAny _ _ (field (.ref e) 2 >>= _) _ _ _
  refine wpAny_bind (wpAny_field isE rfl (x:=.ref it) rfl ?_)
  refine wpAny_bind (wpAny_nextOf_tuple_end (I.ok.hd calm) isI isT none_ λh' x ext stop=>?_)
  obtain⟨o,ho,hc⟩:=stop
  refine wpAny_bind (wpAny_isInstance (T := "StopIteration") (b:=true) ⟨o,ho,hc⟩ isSubtype_stop ?_)
  exact wpAny_pure ⟨rfl,I.turned (t':=s.toks) (λb o hb q=>ext b o hb q) f0 f1 f3 f4 f5⟩
 self:=λA i s Q E st h=>let ⟨⟨_,isE⟩,_⟩:=st;wpAny_pyIter_enum isE h
def dKG (K:qk) (ta:TA):TI:=λσ H R=>ta σ H λvs H1=>∃ a,vs=[.ref a]/\((∃ xs,SqL K H1 a xs/\R (Ite K a) H1) \/ ∃ xs,SqT K H1 a xs/\R (OCN K a) H1)
theorem wC {X:Cx} {e:Expr} {ta:TA} {p pos tpos:Pos} {elts:List Expr} {kk:Nat} (hg:Gl X "enumerate") (hm:X.mg "enumerate" = none) (ha:PA X [e] ta) (hs:starEach [e] X.env=[(false,eval e X.env)]:=by rfl) :
  PI X (.Tuple elts kk tpos) (.Call (.Name "enumerate" p) [e] [] pos) (dKG X.K ta):=by
 refine⟨λpins s σ H R I told=>?_⟩
 refine Call_ (ld_blt I hg hm boot_enumerate (PyProof.Rows.callWith_type1 (thn (ha.run pos pins s σ H _ I told) λus s1 ⟨vs,H1,I1,r1,q1⟩=>?_) hs rfl))
 obtain⟨a,rfl,q⟩:=q1
 cases r1 with
 | cons r rr=>
  cases rr
  cases r
  have fresh:∀ b ∈ [s1.heap.objs.size+1,s1.heap.objs.size],s1.heap.objs.size<=b:=λb hb=>by
   rcases qo.mp hb with rfl|hb
   ·exact Nat.le_succ _
   ·rw[qp.mp hb]
    exact jg _
  rcases q with⟨xs,sq,q⟩|⟨xs,sq,q⟩
  ·obtain⟨its,rv,pl,few⟩:=I1.list sq
   refine call_enumerate_list pl.isList λh' isE isI size keeps=>wpAny_pyIter_enum isE ?_
   have J:Inv X pins σ H1 { s1 with heap:=h' }:=I1.kept (t':=s1.toks) keeps
   exact⟨s1.heap.objs.size+1,[s1.heap.objs.size+1,s1.heap.objs.size],_,_,H1,rfl,J,turn_enum a (s1.heap.objs.size+1) s1.heap.objs.size,⟨⟨.none,isE⟩,isI,Nat.succ_ne_self _⟩,λb hb=>I1.fpOk (fresh b hb) (I1.hok.fresh (fresh b hb)),q⟩
  ·obtain⟨its,rv,isT,few⟩:=I1.tuple sq
   refine PQ (show s1.heap.IsTuple a its.toArray from isT) λh' isE isI keeps=>wpAny_pyIter_enum isE ?_
   have J:Inv X pins σ H1 { s1 with heap:=h' }:=I1.kept (t':=s1.toks) keeps
   exact⟨s1.heap.objs.size+1,[s1.heap.objs.size+1,s1.heap.objs.size],_,_,H1,rfl,J,V8 a (s1.heap.objs.size+1) s1.heap.objs.size xs its,⟨⟨.none,isE⟩,isI,Nat.succ_ne_self _⟩,λb hb=>I1.fpOk (fresh b hb) (I1.hok.fresh (fresh b hb)),q⟩
def BN (a:Lo->M (List W)):Lo->M Itm:=λL=>(a L).bind λws S=>match ws with
 | [w]=>match oV S w with
  | some xs=>some (.ok ⟨xs.zipIdx.map λp=>.tup [.int (p.2:Nat),p.1],λS=>oV S w=some xs⟩,S)
  | none=>none
 | _=>none
theorem kB {as:Lo->M (List W)} {L:Lo} {S:Sto} {Q:Itm->Sto->Prop} (h:Ev (as L S) λws S'=>∃ w xs,ws=[w]/\oV S' w=some xs/\Q ⟨xs.zipIdx.map λp=>.tup [.int (p.2:Nat),p.1],λS=>oV S w=some xs⟩ S'):Ev (BN as L S) Q:=by
 unfold BN
 refine evB ?_
 refine h.imp ?_
 rintro ws S' ⟨w,xs,rfl,e,q⟩
 show Ev (match oV S' w with
  | some xs=>some (.ok (⟨xs.zipIdx.map λp=>.tup [.int (p.2:Nat),p.1],λS=>oV S w=some xs⟩:Itm),S')
  | none=>none) Q
 rw[e]
 exact q
section
variable {ι:Type} {c:ι->Cx} {K:qk} {G:Str->Addr} {X:W->Rho->Hp->Prop} {a:Expr} {ms:Lo->M (List W)} {p pos:Pos}
theorem v9 {elts:List Expr} {kk:Nat} {tpos:Pos} (cx:Ctx c K) (hg:∀ q,Gl (c q) "enumerate") (hm:∀ q,(c q).mg "enumerate" = none) (ha:QA c K G X [a] ms) (hs:∀ q,starEach [a] (c q).env=[(false,eval a (c q).env)]:=by exact λ_=>rfl) :
  QI c K G X (.Tuple elts kk tpos) (.Call (.Name "enumerate" p) [a] [] pos) (BN ms):=by
 obtain⟨t,p1,r1⟩:=ha.ex
 refine⟨dKG K t,λq=>cx.kK q ▸ wC (hg q) (hm q) (p1 q) (hs q),⟨?_⟩⟩
 intro ρ S H L σ R rel rl gd
 refine r1.run rel rl ((Good.bind gd).imp λw S1 ρ1 H1 e1 q1 g1 v rv=>?_)
 split at g1
 ·split at g1
  ·rename_i w _ xs hs
   obtain⟨u,rfl,ru⟩:=rv.one
   by_cases isT:∃ ys,w = .tup ys
   ·obtain⟨ys,rfl⟩:=isT
    cases hs
    have ru':=ru
    cases ru' with
    | tup hp r=>
    refine⟨_,rfl,.inr ⟨_,SqT.of hp,g1.ok q1 _ λρ2 H2 S2 e2 q2 lv=>?_⟩⟩
    have ru2:=ru.re e2
    cases ru2 with
    | tup h2 r2=>
    refine⟨⟨_,SqT.of h2,by rw[<- r2.length];simp⟩,λi x hx=>?_⟩
    rw[jt] at hx
    obtain⟨k,hk,rfl⟩:=qm.mp hx
    rw[List.getElem?_zipIdx] at hk
    obtain⟨y,hy,rfl⟩:=qm.mp hk
    obtain⟨z,hz,rz⟩:=r2.get hy
    refine⟨⟨_,z,SqT.of h2,hz⟩,?_⟩
    rintro v H3 ⟨T,z',rfl,hT,rfl,yl⟩
    have at_:=yl _ (SqT.of h2)
    rw[hz] at at_
    cases at_
    have s:=T5 (o:=.tup [.int (i:Nat),z]) hT
    refine⟨s,.tup upd_same (.cons ?_ (.cons (rz.mono (.same s)) .nil))⟩
    rw[show((0+i:Nat):Int)=(i:Int) from by simp]
    exact .int _
   ·have lo:∀ S:Sto,oV S w=fA S w:=λS=>by
     cases w with
     | tup ys=>exact absurd ⟨ys,rfl⟩ isT
     | _=>rfl
    rw[lo] at hs
    obtain⟨p,vs,rfl,hp,r⟩:=pX q1 ru hs
    refine⟨_,rfl,.inl ⟨_,SqL.of hp,g1.ok q1 _ λρ2 H2 S2 e2 q2 lv=>?_⟩⟩
    have lv:oV S2 w=some xs:=lv
    rw[lo] at lv
    obtain⟨p',vs',e,h2,r2⟩:=pX q2 (ru.re e2) lv
    cases e
    refine⟨⟨vs',SqL.of h2,by rw[<- r2.length];simp⟩,λi x hx=>?_⟩
    rw[jt] at hx
    obtain⟨k,hk,rfl⟩:=qm.mp hx
    rw[List.getElem?_zipIdx] at hk
    obtain⟨y,hy,rfl⟩:=qm.mp hk
    obtain⟨z,hz,rz⟩:=r2.get hy
    refine⟨⟨vs',z,SqL.of h2,hz⟩,?_⟩
    rintro v H3 ⟨T,z',rfl,hT,rfl,yl⟩
    have at_:=yl _ (SqL.of h2)
    rw[hz] at at_
    cases at_
    have s:=T5 (o:=.tup [.int (i:Nat),z]) hT
    refine⟨s,.tup upd_same (.cons ?_ (.cons (rz.mono (.same s)) .nil))⟩
    rw[show((0+i:Nat):Int)=(i:Int) from by simp]
    exact .int _
  ·exact g1.elim
 ·exact g1.elim
end
end
end Mi
namespace Mi
open PySem PySem.Spec
open PyProof.Rows L2 Cp
noncomputable section
section
variable {ι:Type} {c:ι->Cx} {K:qk} {G:Str->Addr} {f:Addr} {fd:FuncData} {ps ks:List Str} {sp:L2.Sp} {fM:List W->M W} {k m n:Nat} {x:Str} {p pos:Pos} {ix:List Nat} {kws:List Keyword} {ma mk_:Lo->M (List W)} {ds:List W} {dv:List V} {nm:Str} {e:Expr} {es:List Expr} {E:XK}
 {g:List Value->List Value->List Value}
theorem RA.makeKX {t tk:TA} (hf:QFv K G nm sp fM) (hd:∀ ρ H,RVs K G ρ H ds dv) (r1:RA K G (XOf K G E) t ma) (r2:RA K G (XOf K G E) tk mk_):RE K G (XOf K G E) (tMakeK (G nm) n m sp (gMk ix dv) E t tk) (HN n m ix ds fM ma mk_):=⟨by
 intro ρ S H L σ Q rel rl gd
 refine r1.run rel rl ((Good.bind gd).imp λws S1 ρ1 H1 e1 q1 g1 vs rs=>?_)
 refine r2.run q1 (rl.mono e1) (g1.bind.imp λzs S2 ρ2 H2 e2 q2 g2 us ru=>?_)
 split at g2
 ·rename_i hl
  refine⟨by rw[<- rs.length];exact hl.1,by rw[<- ru.length];exact hl.2,λx dx hx hdx ne=>?_⟩
  rw[SR]
  exact hf q2 (IV (((rs.mono e2).append ru).append (hd _ _)) ix) g2 x dx hx hdx ne
 ·exact g2.elim⟩
theorem W9 (tk:∀ i,Takes (c i) (λcls d _ H=>E cls d H)) (M:∀ i,Mk (c i).K (G nm) f) (F:∀ i,FnOk (c i).prog (c i).w (c i).K (c i).mg (c i).base (L2.CX (c i).prog (c i).w) k f fd ps sp) (hf:QFv K G nm sp fM) (hr:∀ i,Room (k+1) (c i).A) (hg:∀ i,Gl (c i) x) (hm:∀ i,(c i).mg x=some (.ref (G nm))) (hb:∀ i,KBn (c i).K fd ps (n+1) ks g (gMk ix dv)) (hd:∀ ρ H,RVs K G ρ H ds dv) (hl:ks.length=m)
  (ha:QA c K G (XOf K G E) (e :: es) ma) (hk:QKw c K G (XOf K G E) kws mk_) (hall:∀ i,(backToKw pos (keywordEach kws (c i).env)).all (·.1.isSome)=true:=by exact λ_=>rfl) (hks:∀ i,(backToKw pos (keywordEach kws (c i).env)).filterMap (·.1)=ks:=by exact λ_=>rfl) (hdb:(x == ("__debug__" : Str))=false:=by decide)
  (he:∀ i,starEach (e :: es) (c i).env=(false,eval e (c i).env) :: starEach es (c i).env:=by exact λ_=>rfl) (hpl:∀ i,((backTo pos (starEach (e :: es) (c i).env)).any (·.1) || (backToKw pos (keywordEach kws (c i).env)).any (·.1.isNone))=false:=by exact λ_=>rfl) :
  QE c K G (XOf K G E) (.Call (.Name x p) (e :: es) kws pos) (HN n m ix ds fM ma mk_):=by
 obtain⟨t,p1,r1⟩:=ha.ex
 obtain⟨tk2,p2,r2⟩:=hk.ex
 subst hl
 exact⟨_,λi=>L2.pe_makeK (CX:=L2.CX (c i).prog (c i).w) (M i) (F i) (hr i) (hg i) (hm i) (hb i) (passes_call (tk i) λ_ _ _ _ h=>h) (p1 i) (p2 i) (hall i) (hks i) hdb (he i) (hpl i),RA.makeKX hf hd r1 r2⟩
end
theorem i9 {n m:Nat} {ix:List Nat} {ds:List W} {f:List W->M W} {a k:Lo->M (List W)} {L:Lo} {S:Sto} {Q:W->Sto->Prop} {E:W->Sto->Prop} (h:Ev (a L S) λws S1=>Ev (k L S1) λzs S2=>(ws.length=n/\zs.length=m)/\Eo (f (Q4 ix (ws++zs++ds)) S2) Q E):Eo (HN n m ix ds f a k L S) Q E:=by
 unfold HN
 refine eoB (Ev.eo (h.imp λws S1 h1=>eoB (Ev.eo (h1.imp ?_))))
 rintro zs S2 ⟨hl,q⟩
 rw[if_pos hl]
 exact q
end
end Mi
namespace Mi
open PySem PySem.Spec
open PyProof.Rows L2 Cp
noncomputable section
section
variable {K:qk} {G:Str->Addr} {ρ:Rho} {H:Hp} {S:Sto}
end
end
end Mi
namespace Mi
open PySem PySem.Spec
open PyProof.Rows L2 Cp
noncomputable section
section
variable {X:Cx} {pins:List (Addr × Obj)} {σ:L2.St} {H:Hp} {s s':Shared}
end
section
variable {ι:Type} {c:ι->Cx} {K:qk} {G:Str->Addr} {X:W->Rho->Hp->Prop} {e:Expr} {es:List Expr} {pos p:Pos} {ms:Lo->M (List W)} {f:Addr} {fd:FuncData} {ps:List Str} {k:Nat}
end
end
end Mi
namespace Mi
open PySem PySem.Spec
open PyProof.Rows L2 Cp
noncomputable section
section
open PySem.HandSPX
variable {prog:Program} {w:World} {A:Around} {h:Heap} {g:Array GenState} {d:Drawn} {t:Nat} {os:OsState} {nm q:Str} {C N:Addr} {bs bm bmB:List Value} {hdct:Bool} {sn:List Str} {sub:List Value} {ab:Bool} {col:Option Bool} {dd:Option Addr} {k0 k1 k2 k3 k5:Option Value} {B newId initId:String}
end
end
end Mi
namespace Mi
open PySem PySem.Spec
open PyProof.Rows L2 Cp
noncomputable section
section
variable {X:Cx}
end
section
variable {ι:Type} {c:ι->Cx} {K:qk} {G:Str->Addr} {X:W->Rho->Hp->Prop} {pos p:Pos} {mk_:Lo->M (List W)} {f:Addr} {fd:FuncData} {ps ks:List Str} {k m:Nat} {ix:List Nat} {kws:List Keyword} {g:List Value->List Value->List Value}
end
end
end Mi
namespace Mi
open PySem PySem.Spec
open PyProof.Rows L2 Cp
noncomputable section
section
variable {ι:Type} {c:ι->Cx} {K:qk} {G:Str->Addr}
variable {e:Expr} {es:List Expr} {pos p pos':Pos} {ms:Lo->M (List W)} {f:Addr} {fd:FuncData} {ps:List Str} {k:Nat}
theorem OH {ρ:Rho} {H:Hp} {L:Lo} {σ:L2.St} (r:RL K G ρ H L σ) (i:Nat):RL K G ρ H (L.set i none) (σ.set i none):=⟨by simp [r.1],λj x hx=>by
 by_cases hj:j=i
 ·subst hj
  have lt:j < L.length:=by
   have:=(jk.mp hx).1
   simpa using this
  rw[jj lt] at hx
  cases hx
 ·rw[jm (Ne.symm hj)] at hx ⊢
  exact r.2 j x hx⟩
end
end
end Mi
namespace Mi
open PySem PySem.Spec
open PyProof.Rows L2 Cp
noncomputable section
def VT (i:Option Nat) (v:Option V) (σ:L2.St):L2.St:=match i with
 | none=>σ
 | some i=>σ.set i v
def xZ (i:Option Nat) (D:Ends):Ends:={ nx:=λσ H=>D.nx (VT i none σ) H,rt:=D.rt,bk:=λσ H=>D.bk (VT i none σ) H,ct:=λσ H=>D.ct (VT i none σ) H }
structure B2 where
 c:Value
 i:Option Nat
 t:TS
def oUX (K:qk) (D:Ends):List B2->WX
 | []=>λ_ _ _ _=>False
 | k :: r=>λcls d σ H=>∃ b,zl K cls k.c=some b/\(b=true->∃ C dd,cls = .ref C/\d=some dd/\∀ a,H a=none->k.t (xZ k.i D) (VT k.i (some (.ref a)) σ) (upd H a (X8 a C dd)))/\(b=false->oUX K D r cls d σ H)
inductive BK (X:Cx):List ExceptHandler->List B2->Prop
 | nil:BK X [] []
 | bare {x:Str} {c:Value} {t:TS} {b0:Stmt} {suite:List Stmt} {np pos:Pos} {hds:List ExceptHandler} {l:List B2} (hc:Names X x c) (hsu:∀ a pn,PSs (X.suite a pn) (b0 :: suite) t) (r:BK X hds l) :
   BK X (.ExceptHandler (some (.Name x np)) none (b0 :: suite) pos :: hds) (⟨c,none,t⟩ :: l)
 | named {x n:Str} {i:Nat} {c:Value} {t:TS} {b0:Stmt} {suite:List Stmt} {np pos:Pos} {hds:List ExceptHandler} {l:List B2} (hc:Names X x c) (hi:X.N[i]? = some n) (hl:X.env.kindOf n=some .local) (hsu:∀ a pn,PSs (X.suite a pn) (b0 :: suite) t) (r:BK X hds l) :
   BK X (.ExceptHandler (some (.Name x np)) (some n) (b0 :: suite) pos :: hds) (⟨c,some i,t⟩ :: l)
section
variable {X:Cx} {pins:List (Addr × Obj)} {σ:L2.St} {H:Hp} {s:Shared}
end
end
end Mi
namespace Mi
open PySem PySem.Spec
open PyProof.Rows L2 Cp
noncomputable section
structure SuI (ι:Type):Type where
 i:ι
 a:Addr
 pn:List (Addr × Obj)
def suF {ι:Type} (c:ι->Cx):SuI ι->Cx:=λj=>(c j.i).suite j.a j.pn
def x81 (i:Option Nat) (L:Lo):Lo:=match i with
 | none=>L
 | some i=>L.set i none
def fAy (i:Option Nat) (w:W) (L:Lo):Lo:=match i with
 | none=>L
 | some i=>L.set i (some w)
def nK0 (i:Option Nat):Oc->Oc
 | .nx L=>.nx (x81 i L)
 | .bk L=>.bk (x81 i L)
 | .ct L=>.ct (x81 i L)
 | .rt w=>.rt w
def mZ {α:Type} (m:M α):M α:=λS=>match m S with
 | some (.ok a,S')=>some (.ok a,S')
 | _=>none
structure Cl where
 ds:List Str
 i:Option Nat
 m:Lo->M Oc
def mK (e:W) (cl:Str):List Cl->Lo->M Oc
 | [],_=>GG
 | k :: r,L=>if cl ∈ k.ds then(mZ (k.m (fAy k.i e L))).bind λo=>M.ret (nK0 k.i o) else mK e cl r L
section
variable {ι:Type} (c:ι->Cx) (K:qk) (G:Str->Addr)
inductive QH (Ds:List Str):List ExceptHandler->List Cl->Prop
 | nil:QH Ds [] []
 | bare {x:Str} {c0:Value} {b0:Stmt} {suite:List Stmt} {np pos:Pos} {hds:List ExceptHandler} {ks:List Cl} {ds:List Str} {m:Lo->M Oc} (hc:∀ q,Names (c q) x c0) (ex:∀ d ∈ Ds,zl K (.ref (G d)) c0=some (decide (d ∈ ds))) (hs:QSs (suF c) K G X0 (b0 :: suite) m) (r:QH Ds hds ks) :
   QH Ds (.ExceptHandler (some (.Name x np)) none (b0 :: suite) pos :: hds) (⟨ds,none,m⟩ :: ks)
 | named {x n:Str} {i:Nat} {c0:Value} {b0:Stmt} {suite:List Stmt} {np pos:Pos} {hds:List ExceptHandler} {ks:List Cl} {ds:List Str} {m:Lo->M Oc} (hc:∀ q,Names (c q) x c0) (hi:∀ q,(c q).N[i]? = some n) (hl:∀ q,(c q).env.kindOf n=some .local) (ex:∀ d ∈ Ds,zl K (.ref (G d)) c0=some (decide (d ∈ ds))) (hs:QSs (suF c) K G X0 (b0 :: suite) m) (r:QH Ds hds ks) :
   QH Ds (.ExceptHandler (some (.Name x np)) (some n) (b0 :: suite) pos :: hds) (⟨ds,some i,m⟩ :: ks)
end
section
variable {ι:Type} {c:ι->Cx} {K:qk} {G:Str->Addr} {X:W->Rho->Hp->Prop} {Ds:List Str}
theorem lP {α:Type} {m:M α} {S:Sto} {ρ:Rho} {H:Hp} {k:α->Sto->Rho->Hp->Prop} (h:Good K G X ρ H (mZ m S) k):Good K G X0 ρ H (m S) k:=by
 unfold mZ at h
 split at h
 ·rename_i a S' e
  rw[e]
  exact h
 ·exact h.elim
def Q7 (K:qk) (G:Str->Addr) (X:W->Rho->Hp->Prop) (Ds:List Str) (l:List B2) (ks:List Cl):Prop:=∀ {ρ:Rho} {S:Sto} {H:Hp} {L:Lo} {σ:L2.St} {D:Ends} {cl:Str} {fs:List Str} {us:List W} {dx:Addr} {vs:List V},Rel K G ρ H S->RL K G ρ H L σ ->
 H dx=some (.xd (fs.zip vs))->ρ.Off dx->fs.length=us.length->RVs K G ρ H us vs->cl ∈ Ds->Good K G X ρ H (mK (.exc cl fs us) cl ks L S) (nD K G D)->oUX K D l (.ref (G cl)) (some dx) σ H
theorem OZ {l:List B2} {ks:List Cl} {c0:Value} {i:Option Nat} {t:TS} {ds:List Str} {m:Lo->M Oc} (ex:∀ d ∈ Ds,zl K (.ref (G d)) c0=some (decide (d ∈ ds))) (rs:RS K G X0 t m) (r:Q7 K G X Ds l ks):Q7 K G X Ds (⟨c0,i,t⟩ :: l) (⟨ds,i,m⟩ :: ks):=by
 intro ρ S H L σ D cl fs us dx vs rel rl hd off hl rvs hc gd
 refine⟨decide (cl ∈ ds),ex cl hc,λyes=>⟨G cl,dx,rfl,rfl,λa ha=>?_⟩,λno=>?_⟩
 ·have yes:=of_decide_eq_true yes
  unfold mK at gd
  rw[if_pos yes] at gd
  have same:Same H (upd H a (X8 a (G cl) dx)):=λb o hb=>by
   rw[upd_ne (ne_of_none hb ha)]
   exact hb
  have rl2:RL K G ρ (upd H a (X8 a (G cl) dx)) (fAy i (.exc cl fs us) L) (VT i (some (.ref a)) σ):=by
   cases i with
   | none=>exact rl.mono (.same same)
   | some i=>exact(rl.mono (.same same)).set (.exc upd_same (rel.new ha) (same _ _ hd) off hl (rvs.mono (.same same))) i
  refine rs.run (rel.same same) rl2 (lP ((Good.bind (gd.at (.same same))).imp λo S1 ρ1 H1 e1 q1 g1=>?_))
  have g2:nD K G D (nK0 i o) S1 ρ1 H1:=g1.ok q1
  have clear:∀ {L':Lo} {σ':L2.St},RL K G ρ1 H1 L' σ'->RL K G ρ1 H1 (x81 i L') (VT i none σ'):=λ{L' σ'} z=>by
   cases i with
   | none=>exact z
   | some i=>exact OH z i
  cases o with
  | nx L'=>exact λσ' z=>g2 _ (clear z)
  | bk L'=>exact λσ' z=>g2 _ (clear z)
  | ct L'=>exact λσ' z=>g2 _ (clear z)
  | rt w=>exact g2
 ·have no:=of_decide_eq_false no
  unfold mK at gd
  rw[if_neg no] at gd
  exact r rel rl hd off hl rvs hc gd
theorem QH.out {hds:List ExceptHandler} {ks:List Cl} (h:QH c K G Ds hds ks):∃ l:List B2,(∀ q,BK (c q) hds l)/\Q7 K G X Ds l ks:=by
 induction h with
 | nil=>exact⟨[],λ_=>.nil,λ_ _ _ _ _ _ _ gd=>gd.elim⟩
 | bare hc ex hs r ih=>
  obtain⟨l,h1,h2⟩:=ih
  obtain⟨t,p,rs⟩:=hs.ex
  exact⟨_,λq=>.bare (hc q) (λa pn=>p ⟨q,a,pn⟩) (h1 q),OZ ex rs h2⟩
 | named hc hi hl ex hs r ih=>
  obtain⟨l,h1,h2⟩:=ih
  obtain⟨t,p,rs⟩:=hs.ex
  exact⟨_,λq=>.named (hc q) (hi q) (hl q) (λa pn=>p ⟨q,a,pn⟩) (h1 q),OZ ex rs h2⟩
variable {e:Expr} {es:List Expr} {m:Lo->M W} {pos pos' p:Pos}
variable {ms:Lo->M (List W)} {fM:List W->M W} {sp:L2.Sp} {f:Addr} {fd:FuncData} {ps:List Str} {k:Nat} {x:Str}
end
end
end Mi
namespace Mi
open PySem PySem.Spec
open PyProof.Rows L2 Cp
noncomputable section
section
variable {prog:Program} {w:World} {κ:Type} [DecidableEq κ] {knd:KeyKind prog w κ} {A:Around} {E:Value->Shared->Prop} {s:Shared} {r d:Addr} {kvs:List (κ × Value)} {ep:Nat}
end
section
variable {X:Cx} {e:Expr} {te:TE} {p apos cpos pos:Pos}
end
section
variable {ι:Type} {c:ι->Cx} {K:qk} {G:Str->Addr} {X:W->Rho->Hp->Prop} {e:Expr} {es:List Expr} {ma:Lo->M W} {ms:Lo->M (List W)} {p apos cpos pos:Pos}
variable {a:Expr} {n m:Str} {f:Addr} {fd:FuncData} {ps:List Str} {sp:L2.Sp} {fM:List W->M W} {k:Nat} {E:XK} {pl:ι->Sem Bool}
theorem RA.methX {t:TE} {u:TA} {E:XK} (hf:OkX K G sp fM) (r1:RE K G (XOf K G E) t ma) (r2:RA K G (XOf K G E) u ms):RE K G (XOf K G E) (tMeth (G n) m sp [] E t u) (PL n m fM ma ms):=⟨by
 intro ρ S H L σ Q rel rl gd
 refine r1.run rel rl ((Good.bind gd).imp λw S1 ρ1 H1 e1 q1 g1 v rv=>?_)
 have g2:=g1.bind
 unfold BQ at g2
 split at g2
 ·rename_i hc
  obtain⟨a',dx,fs,rfl,h1,h2⟩:=BM q1 rv hc
  refine⟨a',dx,fs,rfl,h1,h2,r2.run q1 (rl.mono e1) ((g2.ok q1).bind.imp λws S2 ρ2 H2 e2 q2 g3 vs rs=>?_)⟩
  have h:=hf (E:=E) q2 (.cons (rv.mono e2) rs) g3
  dsimp only
  rw[jw vs]
  exact h
 ·exact g2.elim⟩
theorem R3E (tk:∀ i,Takes (c i) (λcls d _ H=>E cls d H)) (cl:Cls K (G n)) (cx:Ctx c K) (hM:∀ i,Meth (c i).K (G n) m f) (F:∀ i,FnOk (c i).prog (c i).w (c i).K (c i).mg (c i).base (L2.CX (c i).prog (c i).w) k f fd ps sp) (hf:OkX K G sp fM) (hr:∀ i,Room k (c i).A) (hb:∀ i,Binds (c i).K fd ps []) (ho:QE c K G (XOf K G E) a ma) (ha:QA c K G (XOf K G E) (e :: es) ms)
  (hst:∀ i,starEach (e :: es) (c i).env=(false,eval e (c i).env) :: starEach es (c i).env:=by exact λ_=>rfl) (hpl:∀ i,(backTo pos (starEach es (c i).env)).any (·.1)=false:=by exact λ_=>rfl)
  (ht:∀ i,eval (.Call (.Attribute a m apos) (e :: es) [] pos) (c i).env=(do
   let ov <- eval a (c i).env
   standAt apos.atName
   let (f,first) <- holding [ov] (getMethod ov m (pl i))
   callWith pos f first (backTo pos (starEach (e :: es) (c i).env)) (backToKw pos (keywordEach [] (c i).env))):=by exact λ_=>rfl) :
  QE c K G (XOf K G E) (.Call (.Attribute a m apos) (e :: es) [] pos) (PL n m fM ma ms):=by
 obtain⟨t,p1,r1⟩:=ho.ex
 obtain⟨u,p2,r2⟩:=ha.ex
 exact⟨_,λi=>pe_meth (CX:=L2.CX (c i).prog (c i).w) (pl:=pl i) (p1 i) (cx.kK i ▸ cl) (hM i) (F i) (hr i) (hb i) .nil (passes_call (tk i) λ_ _ _ _ h=>h) (p2 i) (hst i) (hpl i) (ht i),RA.methX hf r1 r2⟩
theorem gP (tk:∀ i,Takes (c i) (λcls d _ H=>E cls d H)) (cl:Cls K (G n)) (cx:Ctx c K) (hM:∀ i,Meth (c i).K (G n) m f) (F:∀ i,FnOk (c i).prog (c i).w (c i).K (c i).mg (c i).base (L2.CX (c i).prog (c i).w) k f fd ps sp) (hf:OkX K G sp fM) (hr:∀ i,Room k (c i).A) (hb:∀ i,Binds (c i).K fd ps []) (ho:QE c K G (XOf K G E) a ma)
  (ht:∀ i,eval (.Call (.Attribute a m apos) [] [] pos) (c i).env=(do
   let ov <- eval a (c i).env
   standAt apos.atName
   let (f,first) <- holding [ov] (getMethod ov m (pl i))
   callWith pos f first (backTo pos (starEach [] (c i).env)) (backToKw pos (keywordEach [] (c i).env))):=by exact λ_=>rfl) :
  QE c K G (XOf K G E) (.Call (.Attribute a m apos) [] [] pos) (PL n m fM ma JN):=by
 obtain⟨t,p1,r1⟩:=ho.ex
 exact⟨_,λi=>pe_meth0 (CX:=L2.CX (c i).prog (c i).w) (pl:=pl i) (p1 i) (cx.kK i ▸ cl) (hM i) (F i) (hr i) (hb i) .nil (passes_call (tk i) λ_ _ _ _ h=>h) (ht i),RA.methX hf r1 ⟨λrel rl g=>g.ok rel [] .nil⟩⟩
end
section
variable {X:Cx} {CX:CXT} {k n:Nat} {f C:Addr} {fd:FuncData} {ps ks:List Str} {sp:L2.Sp} {E:L2.St->XK} {x m:Str} {p pos apos:Pos} {e o:Expr} {es:List Expr} {kws:List Keyword} {ta:TE} {t tk:TA} {g:List Value->List Value->List Value} {gV:List V->List V->List V} {pl:Sem Bool}
end
section
variable {ι:Type} {c:ι->Cx} {K:qk} {G:Str->Addr} {e a:Expr} {es:List Expr} {pos p apos:Pos} {ma:Lo->M W} {ms mk_:Lo->M (List W)} {fM:List W->M W} {sp:L2.Sp} {f:Addr} {fd:FuncData} {ps ks:List Str} {k j n:Nat} {x nm m:Str} {ix:List Nat} {ds:List W} {dv:List V} {kws:List Keyword} {g:List Value->List Value->List Value} {pl:ι->Sem Bool}
end
end
end Mi
namespace Mi
open PySem PySem.Spec
open PyProof.Rows L2 Cp
noncomputable section
section
variable {K:qk} {G:Str->Addr}
theorem kF {ρ:Rho} {H:Hp} {ws:List W} {vs:List V} (r:RVs K G ρ H ws vs):∀ k:Nat,RVs K G ρ H (yz k ws).flatten (yz k vs).flatten
 | 0=>.nil
 | k+1=>by
  rw[List.replicate_succ,List.replicate_succ,List.flatten_cons,List.flatten_cons]
  exact r.append (kF r k)
end
end
end Mi
namespace Mi
open PySem PySem.Spec
open PyProof.Rows L2 Cp
noncomputable section
section
variable {X:Cx} {pins:List (Addr × Obj)} {σ:L2.St} {H:Hp} {s:Shared}
end
section
variable {ι:Type} {c:ι->Cx} {K:qk} {G:Str->Addr} {X:W->Rho->Hp->Prop}
theorem PIa {pos:Pos}:QE c K G X (.Dict [] [] pos) (mC (.dk [] [])):=⟨_,λ_=>pe_dnewK,⟨by
 intro ρ S H L σ Q rel rl g q hq
 have same:=T5 (o:=.dK []) hq
 exact g.same rel same _ (.dk upd_same (rel.new hq) rfl .nil)⟩⟩
end
end
end Mi
namespace Mi
open PySem PySem.Spec
open PyProof.Rows L2 Cp
noncomputable section
section
variable {K:qk} {G:Str->Addr}
end
end
end Mi
namespace Cp
open PySem PySem.Spec
open PyProof.Rows L2
def UPf (a c:Int) (k:Nat):Bool:=(decide (a<=(k:Int)) && decide ((k:Int) < c)) && (((k:Int) - a) % 1 == 0)
theorem p6P {a c k:Nat}:UPf (a:Int) (c:Int) k=decide (a<=k/\k < c):=by
 unfold UPf
 rw[Int.emod_one]
 by_cases h1:a<=k <;> by_cases h2:k < c <;> simp [h1,h2]
theorem J9 {α:Type} {a c:Nat} (hac:a<=c):∀ (xs:List α) (k:Nat),((xs.zipIdx k).filterMap λp=>if UPf (a:Int) (c:Int) p.2 then none else some p.1)=xs.take (a - k)++xs.drop (c - k)
 | [],k=>by simp
 | x :: xs,k=>by
  have ih:=J9 hac xs (k+1)
  rw[List.zipIdx_cons,Qm,ih,p6P]
  by_cases h1:a<=k
  ·have e1:a - k=0:=by omega
   have e2:a - (k+1)=0:=by omega
   by_cases h2:k < c
   ·obtain⟨j,hj⟩:∃ j,c - k=j+1:=⟨c - k - 1,by omega⟩
    have e3:c - (k+1)=j:=by omega
    simp [h1,h2,e1,e2,e3,hj]
   ·have e3:c - k=0:=by omega
    have e4:c - (k+1)=0:=by omega
    simp [h1,h2,e1,e2,e3,e4]
  ·obtain⟨j,hj⟩:∃ j,a - k=j+1:=⟨a - k - 1,by omega⟩
   obtain⟨i,hi⟩:∃ i,c - k=i+1:=⟨c - k - 1,by omega⟩
   have e3:a - (k+1)=j:=by omega
   have e4:c - (k+1)=i:=by omega
   simp [h1,e3,e4,hj,hi]
theorem ZMd {α:Type} {a c:Nat} (hac:a<=c) (xs:List α):(xs.zipIdx.filterMap λp=>if UPf (a:Int) (c:Int) p.2 then none else some p.1)=xs.take a++xs.drop c:=by
 have:=J9 hac xs 0
 simpa using this
def GOP (lo:Option Int):Int:=lo.getD 0
def G8i (hi:Option Int) (n:Nat):Int:=hi.getD n
section
variable {prog:Program} {w:World} {A:Around} {E:Value->Shared->Prop} {s:Shared}
end
section
open PySem.MeetsSeq PySem.AutoSeq1
end
section
variable {X:Cx}
end
end Cp
namespace Mi
open PySem PySem.Spec
open PyProof.Rows L2 Cp
noncomputable section
def AZ (x y:W):M Unit:=λS=>match x,y with
 | .ref n,.int i=>match S[n]? with
  | some (.lst xs)=>if -(2 ^ 63)<=i/\i < 2 ^ 63 then match seqIndex? i xs.length with
   | some k=>some (.ok (),S.set n (.lst (xs.eraseIdx k)))
   | none=>none
   else none
  | _=>none
 | _,_=>none
def xDR (a b:Lo->M W):Lo->M Oc:=λL=>(a L).bind λx=>(b L).bind λy=>(AZ x y).bind λ_=>M.ret (.nx L)
def uS (x:W) (lo hi:Option Int):M Unit:=λS=>match x with
 | .ref n=>match S[n]? with
  | some (.lst xs)=>if 0<=GOP lo/\GOP lo<=G8i hi xs.length/\G8i hi xs.length<=xs.length then some (.ok (),S.set n (.lst (xs.take (GOP lo).toNat++xs.drop (G8i hi xs.length).toNat))) else none
  | _=>none
 | _=>none
def j7n (a:Lo->M W) (l h:Lo->M (Option Int)):Lo->M Oc:=λL=>(a L).bind λx=>(l L).bind λlo=>(h L).bind λhi=>(uS x lo hi).bind λ_=>M.ret (.nx L)
def gFl (cs:List Str) (f:Str) (o:Lo->M W):W->Lo->M Lo:=λw L=>(o L).bind λx=>(LG cs f x w).bind λ_=>M.ret L
def iJY (c:Str) (f:Str) (n:Nat) (z:W):M Unit:=λS=>match S[n]? with
 | some (.ins c' fs)=>if c'=c/\fs.length < 1000 then some (.ok (),S.set n (.ins c (MF f z fs))) else none
 | _=>none
def v90 (cs:List Str) (f:Str) (op:W->W->M W) (e:M W) (x:W):M Unit:=λS=>match x with
 | .ref n=>match S[n]? with
  | some (.ins c fs)=>if c ∈ cs then match fs.lookup f with
   | some v=>(e.bind λy=>(op v y).bind λz=>iJY c f n z) S
   | none=>none
   else none
  | _=>none
 | _=>none
def i7C (cs:List Str) (f:Str) (op:W->W->M W) (o e:Lo->M W):Lo->M Oc:=λL=>(o L).bind λx=>(v90 cs f op (e L) x).bind λ_=>M.ret (.nx L)
section
variable {ι:Type} {c:ι->Cx} {K:qk} {G:Str->Addr} {X:W->Rho->Hp->Prop} {e a b d o tg:Expr} {pos p pos' tpos p2:Pos} {m ma mb md:Lo->M W} {ms:Lo->M (List W)} {f:Str} {cs:List Str}
end
section
variable {S:Sto} {L:Lo} {Q:Oc->Sto->Prop} {a b o e:Lo->M W}
theorem FWH (h:Ev (a L S) λx S'=>Ev (b L S') λy S''=>Ev (AZ x y S'') λ_ S3=>Q (.nx L) S3):Ev (xDR a b L S) Q:=by
 unfold xDR
 simp only[ZM,kW]
 exact h
theorem LCZ {l h':Lo->M (Option Int)} (h:Ev (a L S) λx S'=>Ev (l L S') λlo S''=>Ev (h' L S'') λhi S3=>Ev (uS x lo hi S3) λ_ S4=>Q (.nx L) S4):Ev (j7n a l h' L S) Q:=by
 unfold j7n
 simp only[ZM,kW]
 exact h
theorem PYJ {cs:List Str} {f:Str} {op:W->W->M W} (h:Ev (o L S) λx S'=>Ev (v90 cs f op (e L) x S') λ_ S''=>Q (.nx L) S''):Ev (i7C cs f op o e L S) Q:=by
 unfold i7C
 simp only[ZM,kW]
 exact h
theorem RL0 {cs:List Str} {f:Str} {w:W} {P:Lo->Sto->Prop} (h:Ev (o L S) λx S'=>Ev (LG cs f x w S') λ_ S''=>P L S''):Ev (gFl cs f o w L S) P:=by
 unfold gFl
 simp only[ZM,kW]
 exact h
end
end
end Mi
namespace Cp
open PySem PySem.Spec PySem.W
open PyProof.Rows L2
end Cp
namespace Mi
open PySem PySem.Spec
open PyProof.Rows L2 Cp
noncomputable section
section
variable {ι:Type} {c:ι->Cx} {K:qk} {G:Str->Addr}
end
end
end Mi
namespace Cp
open PySem PySem.Spec PySem.W
open PyProof.Rows L2
section
variable {prog:Program} {w:World} {A:Around} {R:Result->Shared->Prop} {I:Addr} {fp wr:List Addr} {n:Nat} {P:Nat->Value->Prop} {St:Nat->Heap->Prop}
end
section
variable {prog:Program} {w:World} {A:Around} {E:Value->Shared->Prop} {s:Shared}
end
end Cp
namespace Cp
open PySem PySem.Spec PySem.W
open PyProof.Rows L2
section
variable {X:Cx}
end
end Cp
namespace Mi
open PySem PySem.Spec
open PyProof.Rows L2 Cp
noncomputable section
section
variable {ι:Type} {c:ι->Cx} {K:qk} {G:Str->Addr} {X:W->Rho->Hp->Prop} {e a b d o tg:Expr} {pos p p2 pos' tpos:Pos} {m ma mb md:Lo->M W} {ms:Lo->M (List W)} {f:Str}
end
section
variable {L:Lo} {S:Sto} {Q:W->Sto->Prop}
end
end
end Mi
namespace Mi
open PySem PySem.Spec
open PyProof.Rows L2 Cp
noncomputable section
section
variable {ι:Type} {c:ι->Cx} {K:qk} {G:Str->Addr} {X:W->Rho->Hp->Prop} {a:Expr} {ma:Lo->M W} {p pf pos kp:Pos} {f:Addr} {fn:Str}
end
end
end Mi
namespace Mi
open PySem PySem.Spec
open PyProof.Rows L2 Cp
section
variable {K:qk} {G:Str->Addr}
end
end Mi
namespace Mi
open PySem PySem.Spec
open PyProof.Rows L2 Cp
noncomputable section
section
variable {K:qk} {G:Str->Addr} {X:W->Rho->Hp->Prop} {ρ ρ1 ρ2:Rho} {H H1 H2:Hp} {S S1 S2:Sto} {a:Addr} {n:Nat} {od:Obj} {us:List (Key × V)} {kvs:List (Key × W)}
def Unl (a:Addr) (od:Obj) (us:List (Key × V)) (H H1:Hp):Prop:=H a=some (.frz od (.dK us))/\∀ b,b ≠ a->H1 b=H b
theorem Unl.at {b:Addr} {o:HO} (u:Unl a od us H H1) (h:H b=some o) (n:∀ us,o ≠ .frz od (.dK us)):H1 b=some o:=(u.2 b λz=>by
 subst z
 rw[u.1] at h
 cases h
 exact n _ rfl).trans h
end
section
variable {ι:Type} {c:ι->Cx} {K:qk} {G:Str->Addr} {X:W->Rho->Hp->Prop} {e tg:Expr} {st:Stmt} {ma:Lo->M W} {o:Lo->M Oc} {apos cpos:Pos}
end
section
variable {S S':Sto} {L:Lo} {n:Nat} {kvs kvs':List (Key × W)}
end
end
end Mi
namespace Mi
open PySem PySem.Spec
open PyProof.Rows L2 Cp
noncomputable section
section
variable {ι:Type} {c:ι->Cx} {K:qk} {G:Str->Addr}
end
section
variable {ι:Type} {c:ι->Cx} {K:qk} {G:Str->Addr} {X:W->Rho->Hp->Prop} {pos p:Pos} {fM:List W->M W} {sp:Sp} {f:Addr} {fd:FuncData} {ps:List Str} {k:Nat} {x:Str}
end
end
end Mi
namespace Mi
open PySem PySem.Spec
open PyProof.Rows L2 Cp
section
variable {K:qk} {G:Str->Addr}
end
section
variable {ι:Type} {c:ι->Cx} {K:qk} {G:Str->Addr} {X:W->Rho->Hp->Prop} {ma:Lo->M W} {e:Expr} {x:Str} {i:Nat} {pos pos':Pos}
end
section
variable {S:Sto} {n:Nat} {xs ys:List W} {y:W}
end
end Mi
namespace Mi
open PySem PySem.Spec
open PyProof.Rows L2 Cp
noncomputable section
theorem rmo {n k:Nat} {A:Around} (h:Room k A) (le:n<=k:=by first|decide|omega):Room n A:=h.mono le
section
variable {P:Program} {w:World} {K:qk} {G:Str->Addr} {mg:Str->Option Value} {base:Heap}
theorem xK {x qual:Str} {st:Stmt} {f:Addr} {fd:FuncData} {N ps:List Str} {k:Nat} {m:Lo->M Oc} (F:Fun K x qual st f fd) (sc:FnScope N ps (defScope st))
  (body:∀ (cdv:Value) (A:Around) (outer:List Env) (s:Shared) (H:Hp) (E:XK),Room k (A.deeper (envOfC qual (defScope st) s.heap.objs.size f cdv))->Ctx (cx1 P w K mg base N qual st f cdv A outer s H E) K->(∀ q,(cx1 P w K mg base N qual st f cdv A outer s H E q).N.Nodup)->QSs (cx1 P w K mg base N qual st f cdv A outer s H E) K G X0 (defBody st) m) :
  FnOk P w K mg base CX0 (k+1) f fd ps (spF K G ps.length (IU N ps.length m)):=
 y13 F sc λcdv A outer s H E hr=>body cdv A outer s H E hr (lA hr) λ_=>sc.nd
end
section
variable {ι:Type} {c:ι->Cx} {K:qk} {G:Str->Addr} {X:W->Rho->Hp->Prop} {e:Expr} {pos pos':Pos} {ma:Lo->M W} {i:Nat} {x:Str}
theorem EW (nd:∀ q,(c q).N.Nodup) (hi:∀ q,(c q).N[i]? = some x:=by exact λ_=>rfl) (hx:∀ q,Loc (c q).env.scope x:=by first|exact λ_=>.inl rfl|exact λ_=>.inr rfl) (hf:∀ q,(c q).fn x=true \/ (c q).env.scope.names.lookup x=some .local:=by first|exact λ_=>.inl rfl|exact λ_=>.inr rfl):QG c K G X (.Name x pos) [i] (fU i):=p5B nd hi hx hf
theorem gT (nd:∀ q,(c q).N.Nodup) (ha:QE c K G X e ma) (hi:∀ q,(c q).N[i]? = some x:=by exact λ_=>rfl) (hx:∀ q,Loc (c q).env.scope x:=by first|exact λ_=>.inl rfl|exact λ_=>.inr rfl) (hf:∀ q,(c q).fn x=true \/ (c q).env.scope.names.lookup x=some .local:=by first|exact λ_=>.inl rfl|exact λ_=>.inr rfl)
  (hs:∀ q,swapsWith e (some (.Name x pos')) pos.line (c q).env=pure false:=by exact λ_=>rfl):QS c K G X (.Assign [.Name x pos'] e pos) (O0 ma (fU i)):=d6Y nd hi hx hf ha hs
end
end
end Mi
namespace Mi
open PySem PySem.Spec
open PyProof.Rows L2 Cp
section
variable {ι:Type} {c:ι->Cx} {K:qk} {G:Str->Addr}
end
section
variable {K:qk} {G:Str->Addr}
end
end Mi
namespace Mi
open PySem PySem.Spec PySem.W
open PyProof.Rows L2 Cp
section
variable {P:Program} {w:World}
end
structure Rw where
 time:Int
 to:Str
 worth:Int
def Rw.vs (x:Rw):List V:=[.int x.time,.str x.to,.int x.worth]
def Rw.key (x:Rw):PyData:=.tuple [.int x.time,.str x.to]
def Rw.w (x:Rw):W:=.tup [.int x.time,.str x.to,.int x.worth]
noncomputable section
section
variable {K:qk} {G:Str->Addr} {ρ:Rho} {H:Hp}
end
section
variable {ι:Type} {c:ι->Cx} {K:qk} {G:Str->Addr} {X:W->Rho->Hp->Prop} {a:Expr} {ma:Lo->M W} {params:Arguments} {scope:Scope} {x q:Str} {j:Nat} {p p1 p2 p3 p4 lpos kpos pos:Pos} {c0:Addr}
end
class TabsB (base:Heap) (mg:Str->Option Value) (cs:List (Addr × Addr)):Prop where
 out:∀ p ∈ cs,LamX.TabB base mg p.1 p.2
section
variable {P:Program} {w:World} {K:qk} {G:Str->Addr} {mg:Str->Option Value} {base:Heap} {k n:Nat} {f:Addr} {fd:FuncData} {ps N:List Str} {F:List W->M W} {x qual:Str} {st:Stmt}
theorem bZ {m:Lo->M Oc} {c0:Addr} (F:Fun K x qual st f fd) (hcode:fd.code = .ref c0) (sc:FnScope N ps (defScope st))
  (body:∀ (A:Around) (outer:List Env) (s:Shared) (H:Hp) (E:XK),Room k (A.deeper (envOfC qual (defScope st) s.heap.objs.size f (.ref c0)))->QSs (cx1 P w K mg base N qual st f (.ref c0) A outer s H E) K G X0 (defBody st) m) :
  FnOk P w K mg base CX0 (k+1) f fd ps (spF K G ps.length (IU N ps.length m)):=by
 obtain⟨_,_,_,_,_,_,cdv,_,_,rfl,known,coded⟩:=F.ex
 obtain rfl:cdv = .ref c0:=hcode
 constructor
 ·intro vs H Q E q
  exact MG q
 intro A outer s H args us vs Q E room around bound rel want
 obtain⟨t,runs,r⟩:=(body A outer s H E (room.deeper _)).ex
 have reads:=B3 r want
 have old:∀ b o,base.get? b=some o->s.heap.get? b=some o:=λb o e=>(around.bs b o e).left
 have ledger:K.In s.heap:=around.mod.kin.keeps old
 have places:∀ y ∈ ps.zip us,(defScope st).names.lookup y.1=some .local \/ ((defScope st).names.lookup y.1=some .cell/\((cellsFrom (s.heap.objs.size+1) (defScope st).names []).lookup y.1).isSome=true):=by
  rintro⟨n,v⟩ there
  cases sc.par n (Qk there).left with
  | inl q=>exact Or.inl q
  | inr q=>exact Or.inr ⟨q,PySem.W.cellsFrom_some _ _ _ (Or.inl q)⟩
 apply codeAny_call_function room.depth (ledger _ _ known) rfl sc.co sc.gen rfl (PySem.W.codeRec_of ledger coded)
 apply bound
 apply wpAny_newFunctionEnv_cells sc.kind places
 rintro env rfl s1 made
 refine⟨(around.mod.nolimit.keeps old).keeps made.toInCall.keep,?_⟩
 apply codeAny_func
 have begun:=inv_start (CX:=CX0) (E:=E) sc room.hd around (MG want) rel made
 refine wpAny_mono ((runs ()).nox.run [] s1 (L2.start N vs) H _ begun reads) ?_ λ_ _ z=>z
 rintro(_ | _ | _|u) s' told
 ·obtain⟨σ',H',J,q⟩:=told
  exact qT J (u:=Value.none) (v:=V.non) rfl q
 all_goals first
  | (obtain⟨v,σ',H',J,rv,q⟩:=told;exact qT J rv q)
  | (obtain⟨_,_,_,z⟩:=told;exact z.elim)
end
end
end Mi
namespace Mi
open PySem PySem.Spec
open PyProof.Rows L2 Cp
noncomputable section
section
variable {ι:Type} {c:ι->Cx} {K:qk} {G:Str->Addr} {X:W->Rho->Hp->Prop} {e t1 t2:Expr} {ma:Lo->M W} {w1 w2:List Nat} {g1 g2:W->Lo->M Lo} {pos:Pos}
end
theorem Q2 {K:qk} {x q:Str} {st:Stmt} {f:Addr} {fd:FuncData} (F:Fun K x q st f fd) (t:Cp.TabK K f):fd.code = .ref (Cp.codeA K f):=by
 obtain⟨_,_,_,_,_,_,cdv,_,_,rfl,known,coded⟩:=F.ex
 obtain⟨oc,od,fd',sl,lk,cd⟩:=t.code
 rw[known] at lk
 cases lk
 exact cd
end
end Mi
namespace Mi
open PySem PySem.Spec
open PyProof.Rows L2 Cp PySem.W LamX
noncomputable section
section
variable {X:Cx} {pins:List (Addr × Obj)} {σ:L2.St} {H:Hp} {s:Shared}
end
section
variable {ι:Type} {c:ι->Cx} {K:qk} {G:Str->Addr} {X:W->Rho->Hp->Prop} {Ds:List Str}
end
section
variable {ι:Type} {c:ι->Cx} {K:qk} {G:Str->Addr} {X:W->Rho->Hp->Prop} {a:Expr} {ma:Lo->M W} {p pf pos kp:Pos} {f:Addr} {fn:Str}
end
section
variable {ι:Type} {c:ι->Cx} {K:qk} {G:Str->Addr} {X:W->Rho->Hp->Prop} {a:Expr} {ma:Lo->M W} {params:Arguments} {scope:Scope} {x q:Str} {j:Nat} {p p1 p2 p3 p4 lpos kpos pos:Pos} {c0:Addr}
end
end
end Mi
namespace Mi
open PySem PySem.Spec
open PyProof.Rows L2 Cp
noncomputable section
def gK1 {α:Type} (us ws:List α):List α:=match us,ws with
 | [u],[w]=>[u,w]
 | _,_=>[]
theorem zUM {K:qk} {fd:FuncData} {p0 n:Str} (h:∀ (s:Shared) (u v:Value),BindsTo s fd ⟨[u],[(n,v)]⟩ [(p0,u),(n,v)]):KBinds K fd [p0,n] [n] gK1 gK1:=by
 refine⟨λs us ws _ hl=>?_,λ{vs us zs ws} r z=>?_⟩
 ·match us,ws,hl with
  | [u],[v],_=>exact h s u v
  | [],_,hl=>cases hl
  | [_],[],hl=>cases hl
  | [_],_ :: _ :: _,hl=>cases hl
  | _ :: _ :: _,_,hl=>cases hl
 ·cases r with
  | nil=>exact .nil
  | cons a r=>
   cases r with
   | nil=>
    cases z with
    | nil=>exact .nil
    | cons b z=>
     cases z with
     | nil=>exact .cons a (.cons b .nil)
     | cons _ _=>exact .nil
   | cons _ _=>exact .nil
def LY (C:Addr) (m:Str) (sp:Sp) (E:XK) (ta:TE) (t:TA):TE:=λσ H Q=>ta σ H λx H1=>∃ a dx fs,x = .ref a/\H1 a=some (.ins C dx fs)/\fs.lookup m=none/\t σ H1 λzs H2=>sp (gK1 [x] zs) H2 Q E
section
variable {X:Cx} {CX:CXT} {k:Nat} {C f:Addr} {fd:FuncData} {ps ks:List Str} {sp:Sp} {E:XK} {m:Str} {pos apos:Pos} {o:Expr} {kws:List Keyword} {ta:TE} {t:TA}
theorem yF {pl:Sem Bool} (he:PE X o ta) (c:Cls X.K C) (hm:Meth X.K C m f) (F:FnOk X.prog X.w X.K X.mg X.base CX k f fd ps sp) (room:Room k X.A) (kb:KBinds X.K fd ps ks gK1 gK1) (ex:Passes CX X E) (kw:PK X kws t)
  (named:(backToKw pos (keywordEach kws X.env)).all (·.1.isSome)=true:=by rfl) (names:(backToKw pos (keywordEach kws X.env)).filterMap (·.1)=ks:=by rfl)
  (plain:((backTo pos (starEach [] X.env)).any (·.1) || (backToKw pos (keywordEach kws X.env)).any (·.1.isNone))=false:=by rfl)
  (ht:eval (.Call (.Attribute o m apos) [] kws pos) X.env=(do
   let ov <- eval o X.env
   standAt apos.atName
   let (f,first) <- holding [ov] (getMethod ov m pl)
   callWith pos f first (backTo pos (starEach [] X.env)) (backToKw pos (keywordEach kws X.env))):=by rfl) :
  PE X (.Call (.Attribute o m apos) [] kws pos) (LY C m sp E ta t):=by
 refine⟨λpins s σ H Q I h=>?_⟩
 refine PySem.W.methodCall_KW (pl:=pl) (thn (he.run pins s σ H _ I h) λu s1 ⟨x,H1,I1,rx,a,dx,fs,ex',ea,l,q⟩=>?_) ht
 subst ex'
 obtain rfl:u=Value.ref a:=rx
 refine getmeth_ok I1 ea c hm l ?_
 refine PySem.W.callWith_KW0 (first:=[.ref a]) (h₀:=X.base) I.ok.mod.kin hm.kp named (thn (kw.run pos pins s1 σ H1 _ I1 q) λws s2 ⟨zs,H2,I2,rz,q2⟩=>⟨I2.kIn,?_⟩) plain
 rw[names]
 exact run_fnk (us:=[.ref a]) (vs:=[.ref a]) F room kb ex I2 (.cons rfl .nil) rz q2
end
section
variable {ι:Type} {c:ι->Cx} {K:qk} {G:Str->Addr} {X:W->Rho->Hp->Prop} {a e:Expr} {ma me:Lo->M W} {f:Addr} {fd:FuncData} {ps ks:List Str} {sp:L2.Sp} {fM:List W->M W} {k:Nat} {apos pos kpos:Pos} {kn:Str}
theorem F6 {n m:Str} {pl:ι->Sem Bool} (cl:Cls K (G n)) (cx:Ctx c K) (hM:∀ i,Meth (c i).K (G n) m f) (F:∀ i,FnOk (c i).prog (c i).w (c i).K (c i).mg (c i).base CX0 k f fd ps sp) (hf:OkF K G sp fM) (hr:∀ i,Room k (c i).A) (hb:∀ i,KBinds (c i).K fd ps [kn] gK1 gK1) (ho:QE c K G X a ma) (ha:QE c K G X e me)
  (named:∀ i,(backToKw pos (keywordEach [⟨some kn,e,kpos⟩] (c i).env)).all (·.1.isSome)=true:=by exact λ_=>rfl) (names:∀ i,(backToKw pos (keywordEach [⟨some kn,e,kpos⟩] (c i).env)).filterMap (·.1)=[kn]:=by exact λ_=>rfl)
  (plain:∀ i,((backTo pos (starEach [] (c i).env)).any (·.1) || (backToKw pos (keywordEach [⟨some kn,e,kpos⟩] (c i).env)).any (·.1.isNone))=false:=by exact λ_=>rfl)
  (ht:∀ i,eval (.Call (.Attribute a m apos) [] [⟨some kn,e,kpos⟩] pos) (c i).env=(do
   let ov <- eval a (c i).env
   standAt apos.atName
   let (f,first) <- holding [ov] (getMethod ov m (pl i))
   callWith pos f first (backTo pos (starEach [] (c i).env)) (backToKw pos (keywordEach [⟨some kn,e,kpos⟩] (c i).env))):=by exact λ_=>rfl) :
  QE c K G X (.Call (.Attribute a m apos) [] [⟨some kn,e,kpos⟩] pos) (PL n m fM ma (O9 me JN)):=by
 obtain⟨t,p1,r1⟩:=ho.ex
 obtain⟨u,p2,r2⟩:=ha.ex
 refine⟨LY (G n) m sp E0 t (tCons u tNil),λi=>yF (pl:=pl i) (p1 i) (cx.kK i ▸ cl) (hM i) (F i) (hr i) (hb i) pass0 (pk_cons (p2 i) pk_nil) (named i) (names i) (plain i) (ht i),⟨?_⟩⟩
 intro ρ S H L σ Q rel rl gd
 refine r1.run rel rl ((Good.bind gd).imp λw S1 ρ1 H1 e1 q1 g1 v rv=>?_)
 have g2:=g1.bind
 unfold BQ at g2
 split at g2
 ·rename_i hc
  obtain⟨a',dx,fs,rfl,h1,h2⟩:=BM q1 rv hc
  refine⟨a',dx,fs,rfl,h1,h2,r2.run q1 (rl.mono e1) ((g2.ok q1).bind.bind.imp λw2 S2 ρ2 H2 e2 q2 g3 v2 rv2=>?_)⟩
  have g4:=(g3.bind.ok q2).ok q2
  exact hf (E:=E0) q2 (.cons (rv.mono e2) (.cons rv2 .nil)) g4
 ·exact g2.elim
end
end
end Mi
namespace Mi
open PySem PySem.Spec
open PyProof.Rows L2 Cp
noncomputable section
section
variable {ι:Type} {c:ι->Cx} {K:qk} {G:Str->Addr} {X:W->Rho->Hp->Prop} {f:Addr} {fd:FuncData} {ps ks:List Str} {sp:L2.Sp} {fM:List W->M W} {k m n:Nat} {x:Str} {p pos:Pos} {ix:List Nat} {kws:List Keyword} {ma mk_:Lo->M (List W)} {ds:List W} {dv:List V} {e:Expr} {es:List Expr}
 {g:List Value->List Value->List Value}
end
end
end Mi
namespace Mi
open PySem PySem.Spec PySem.W
open PyProof.Rows L2 Cp
abbrev Fl:=List (Int ⊕ Str)
def flW:Int ⊕ Str->W
 | .inl i=>.int i
 | .inr z=>.str z
def Fl.w (x:Fl):W:=.tup (x.map flW)
noncomputable section
section
variable {K:qk} {G:Str->Addr} {ρ:Rho} {H:Hp}
end
section
variable {ι:Type} {c:ι->Cx} {K:qk}
end
end
end Mi
namespace Mi
open PySem PySem.Spec
open PyProof.Rows L2 Cp
noncomputable section
section
variable {ι:Type} {c:ι->Cx} {K:qk} {G:Str->Addr} {X:W->Rho->Hp->Prop} {e a b d o tg:Expr} {pos p p2 pos' tpos:Pos} {m ma mb md:Lo->M W} {ms:Lo->M (List W)} {f:Str}
end
section
variable {L:Lo} {S:Sto} {Q:W->Sto->Prop}
end
end
end Mi
namespace L2
open PySem PySem.Spec PyProof.Rows
section
variable {X:Cx} {pins p3:List (Addr × Obj)} {σ σ3:St} {H H3:Hp} {s s3:Shared} {scope:Scope} {ce:Env} {fp:List Addr}
end
section
variable {X:Cx} {kx vx tg iter:Expr} {ifs:List Expr} {scope:Scope} {own:List (Str × Nat)} {pos:Pos} {wi:TI} {g:TG} {tt:TT} {tk tv:TE} {E:XK}
end
end L2
namespace Mi
open PySem PySem.Spec
open PyProof.Rows L2 Cp
noncomputable section
section
variable {ι:Type} {c:ι->Cx} {K:qk} {G:Str->Addr} {E:XK} {tg:Expr} {pos p:Pos} {mk_ mv ma:Lo->M W} {ka:Lo->M Bool} {ws:List Nat} {g:W->Lo->M Lo} {it:Lo->M Itm}
end
section
variable {ι:Type} {c:ι->Cx} {K:qk} {G:Str->Addr} {f:Addr} {fd:FuncData} {ps ks:List Str} {sp:L2.Sp} {fM:List W->M W} {k m n:Nat} {x:Str} {p pos:Pos} {ix:List Nat} {kws:List Keyword} {ma mk_:Lo->M (List W)} {ds:List W} {dv:List V} {nm:Str} {e:Expr} {es:List Expr} {E:XK}
 {g:List Value->List Value->List Value}
end
section
variable {α:Type} {pl:Sto->Prop} {g:W->Lo->M Lo} {t:Lo->M Bool} {k e:Lo->M W} {vs:List Nat} {L:Lo} {S:Sto}
end
end
end Mi
namespace L2
open PySem PySem.Spec PyProof.Rows
end L2
namespace Mi
open PySem PySem.Spec
open PyProof.Rows L2 Cp LamX
noncomputable section
section
variable {ι:Type} {c:ι->Cx} {K:qk} {G:Str->Addr} {f:Addr} {fd:FuncData} {ps ks:List Str} {sp:L2.Sp} {fM:List W->M W} {k m n:Nat} {x:Str} {p pos:Pos} {ix:List Nat} {kws:List Keyword} {ma mk_:Lo->M (List W)} {ds:List W} {dv:List V} {e:Expr} {es:List Expr} {E:XK}
 {g:List Value->List Value->List Value}
end
section
variable {ι:Type} {c:ι->Cx} {K:qk} {G:Str->Addr} {X:W->Rho->Hp->Prop} {f:Addr} {fd:FuncData} {ps ks:List Str} {sp:L2.Sp} {fM:List W->M W} {k m:Nat} {x:Str} {p pos:Pos} {ix:List Nat} {kws:List Keyword} {mk_:Lo->M (List W)} {ds:List W} {dv:List V}
 {g:List Value->List Value->List Value}
end
section
variable {K:qk} {G:Str->Addr} {ρ:Rho} {H:Hp} {S:Sto} {Q:VK}
end
section
variable {X:Cx} {K:qk} {G:Str->Addr} {x a y z n o e q:Str} {g CS:Addr} {cdg:Value} {sg:Scope} {Ds:List Str} {m:Lo->M Oc} {rs:List Stmt} {j j2 kt k2:Nat} {q1 q2 q3 q4 q5 q6 q7 q8 q9 q10 q11 q12 qa qb qc qd qe:Pos}
end
section
variable {ι:Type} {c:ι->Cx} {K:qk} {G:Str->Addr} {X:W->Rho->Hp->Prop} {scope:Scope} {k:Nat} {E:XK}
end
end
end Mi
namespace L2
open PySem PySem.Spec PyProof.Rows
section
variable {X:Cx} {elt tg iter:Expr} {ifs:List Expr} {scope:Scope} {own:List (Str × Nat)} {pos:Pos} {wi:TI} {g:TG} {tt:TT} {te:TE} {E:XK}
end
end L2
namespace Mi
open PySem PySem.Spec
open PyProof.Rows L2 Cp
noncomputable section
section
variable {ι:Type} {c:ι->Cx} {K:qk} {G:Str->Addr} {E:XK} {tg:Expr} {pos p:Pos} {ma:Lo->M W} {ka:Lo->M Bool} {ws:List Nat} {g:W->Lo->M Lo} {it:Lo->M Itm} {i:Nat} {y:Str}
end
section
variable {ι:Type} {c:ι->Cx} {K:qk} {G:Str->Addr} {e:Expr} {es:List Expr} {pos p:Pos} {apos:Pos} {ms:Lo->M (List W)} {ma:Lo->M W} {fM:List W->M W} {sp:L2.Sp} {f:Addr} {fd:FuncData} {ps:List Str} {k:Nat} {x n m:Str} {a:Expr} {E:XK} {pl:ι->Sem Bool}
end
section
variable {p:Sto->Prop} {g:W->Lo->M Lo} {t:Lo->M Bool} {e:Lo->M W} {vs:List Nat} {L:Lo} {S:Sto}
end
end
end Mi
namespace Mi
open PySem PySem.Spec
open PyProof.Rows L2 Cp
noncomputable section
section
variable {K:qk} {G:Str->Addr} {X:W->Rho->Hp->Prop} {ι:Type} {c:ι->Cx} {a b:Expr} {ma mb:Lo->M W} {pos:Pos}
end
section
variable {S:Sto} {x y w:W} {Q:W->Sto->Prop} {n:Nat} {kvs:List (Key × W)}
end
end
end Mi
namespace L2
open PySem PySem.Spec PyProof.Rows
def Tri (h:Heap) (T:Nat) (a b c:Value):Prop:=h.get? T=some { cls:=.type "tuple",data:=.seq #[a,b,c] }
structure Z3 (h:Heap) (n l1 l2 l3:Nat) (k:Nat × Nat × Nat) (f0:Value) (t:Value × Value × Value):Prop where
 zo:h.get? (n+5)=some { cls:=.type "zip",dict:=none,data:=.fields #[f0,.bool false,.bool false,.ref (n+3),.ref (n+4)],slots:=#[] }
 ti:Tri h (n+3) (.ref n) (.ref (n+1)) (.ref (n+2))
 to:Tri h (n+4) t.1 t.2.1 t.2.2
 i1:h.IsListIter n l1 k.1
 i2:h.IsListIter (n+1) l2 k.2.1
 i3:h.IsListIter (n+2) l3 k.2.2
def six (n:Nat):List Nat:=[n+5,n+3,n+4,n,n+1,n+2]
theorem tUv {n c:Nat}:c ∈ six n ↔ n<=c/\c < n+6:=by
 unfold six
 simp only[qo,qu,or_false]
 omega
section
variable {h h' h2:Heap} {n l1 l2 l3:Nat} {k:Nat × Nat × Nat} {f0 g:Value} {t:Value × Value × Value} {x y v:Value} {m:Nat}
def Out6 (n:Nat) (h h':Heap):Prop:=∀ (c:Nat) o,c ∉ six n->h.get? c=some o->h'.get? c=some o
theorem Out6.refl:Out6 n h h:=λ_ _ _ e=>e
theorem Out6.step {b:Nat} (u:Out6 n h h') (s:Heap.ExtBut b h' h2) (hb:b ∈ six n):Out6 n h h2:=λc o hc e=>s _ _ (λz=>hc (z ▸ hb)) (u c o hc e)
theorem Out6.lst {l:Nat} {xs:Array Value} (u:Out6 n h h') (hl:h.IsList l xs) (lt:l < n):h'.IsList l xs:=hl.at λo e=>u _ o (λz=>by have:=tUv.mp z;omega) e
theorem Z3.a (q:Z3 h n l1 l2 l3 k f0 t) (s:Heap.ExtBut n h h') (o:h'.IsListIter n l1 m):Z3 h' n l1 l2 l3 (m,k.2) f0 t:=
 ⟨s _ _ (λz=>by have z:@Eq Nat _ _:=z;omega) q.zo,s _ _ (λz=>by have z:@Eq Nat _ _:=z;omega) q.ti,s _ _ (λz=>by have z:@Eq Nat _ _:=z;omega) q.to,o,q.i2.extBut s (λz=>by have z:@Eq Nat _ _:=z;omega),q.i3.extBut s (λz=>by have z:@Eq Nat _ _:=z;omega)⟩
theorem Z3.b (q:Z3 h n l1 l2 l3 k f0 t) (s:Heap.ExtBut (n+1) h h') (o:h'.IsListIter (n+1) l2 m):Z3 h' n l1 l2 l3 (k.1,m,k.2.2) f0 t:=
 ⟨s _ _ (λz=>by have z:@Eq Nat _ _:=z;omega) q.zo,s _ _ (λz=>by have z:@Eq Nat _ _:=z;omega) q.ti,s _ _ (λz=>by have z:@Eq Nat _ _:=z;omega) q.to,q.i1.extBut s (λz=>by have z:@Eq Nat _ _:=z;omega),o,q.i3.extBut s (λz=>by have z:@Eq Nat _ _:=z;omega)⟩
theorem Z3.c (q:Z3 h n l1 l2 l3 k f0 t) (s:Heap.ExtBut (n+2) h h') (o:h'.IsListIter (n+2) l3 m):Z3 h' n l1 l2 l3 (k.1,k.2.1,m) f0 t:=
 ⟨s _ _ (λz=>by have z:@Eq Nat _ _:=z;omega) q.zo,s _ _ (λz=>by have z:@Eq Nat _ _:=z;omega) q.ti,s _ _ (λz=>by have z:@Eq Nat _ _:=z;omega) q.to,q.i1.extBut s (λz=>by have z:@Eq Nat _ _:=z;omega),q.i2.extBut s (λz=>by have z:@Eq Nat _ _:=z;omega),o⟩
end
section
variable {prog:Program} {w:World} {A:Around} {E:Value->Shared->Prop} {s:Shared} {n l1 l2 l3:Nat} {k:Nat × Nat × Nat} {t:Value × Value × Value} {x y v:Value} {xs ys vs:Array Value}
end
section
variable {prog:Program} {w:World} {A:Around} {E:Value->Shared->Prop} {s:Shared} {l1 l2 l3:Nat} {xs ys vs:Array Value}
end
end L2
namespace Mi
open PySem PySem.Spec
open PyProof.Rows L2 Cp
noncomputable section
section
variable {ι:Type} {c:ι->Cx} {K:qk} {G:Str->Addr} {X:W->Rho->Hp->Prop} {a b d:Expr} {ms:Lo->M (List W)} {p pos:Pos}
end
section
variable {S:Sto} {L:Lo}
end
end
end Mi
namespace Mi
open PySem PySem.Spec
open PyProof.Rows L2 Cp LamX
noncomputable section
def V1m (X:Cx) (ty:Expr) (cs:List Value):Prop:=∀ (a:Addr) (oe:Obj) (pins:List (Addr × Obj)) (σ:L2.St) (H:Hp) (s:Shared) (Q E:Value->Shared->Prop),Inv (X.suite a ((a,oe) :: pins)) [] σ H s ->
 (∀ h' cv,(∀ b o,s.heap.get? b=some o->h'.get? b=some o)->(∀ (cls:Value) (b:Bool),X.K.In h'->PySem.W.Looks (model X.prog X.w) h' (typeOf (.ref a)) cls->PySem.W.exmAny X.K cls cs=some b->PySem.W.Looks (model X.prog X.w) h' (excMatches (.ref a) cv) b)->Q cv { s with heap:=h' }) ->
 wpAny (model X.prog X.w) (X.A.mark (some (.ref a))) (eval ty X.env) Q E s
section
variable {X:Cx}
end
structure vS where
 c:List Value
 i:Option Nat
 t:TS
def lSp (K:qk) (D:Ends):List vS->WX
 | []=>λ_ _ _ _=>False
 | k :: r=>λcls d σ H=>∃ b,PySem.W.exmAny K cls k.c=some b/\(b=true->∃ C dd,cls = .ref C/\d=some dd/\∀ a,H a=none->k.t (xZ k.i D) (VT k.i (some (.ref a)) σ) (upd H a (X8 a C dd)))/\(b=false->lSp K D r cls d σ H)
inductive PVI (X:Cx):List ExceptHandler->List vS->Prop
 | nil:PVI X [] []
 | named {ty:Expr} {n:Str} {i:Nat} {cs:List Value} {t:TS} {b0:Stmt} {suite:List Stmt} {pos:Pos} {hds:List ExceptHandler} {l:List vS} (hc:V1m X ty cs) (hi:X.N[i]? = some n) (hl:X.env.kindOf n=some .local) (hsu:∀ a pn,PSs (X.suite a pn) (b0 :: suite) t) (r:PVI X hds l) :
   PVI X (.ExceptHandler (some ty) (some n) (b0 :: suite) pos :: hds) (⟨cs,some i,t⟩ :: l)
section
variable {X:Cx} {pins:List (Addr × Obj)} {σ:L2.St} {H:Hp} {s:Shared}
end
section
variable {ι:Type} (c:ι->Cx) (K:qk) (G:Str->Addr)
inductive QHT (Ds:List Str):List ExceptHandler->List Cl->Prop
 | nil:QHT Ds [] []
 | named {ty:Expr} {n:Str} {i:Nat} {cs:List Value} {b0:Stmt} {suite:List Stmt} {pos:Pos} {hds:List ExceptHandler} {ks:List Cl} {ds:List Str} {m:Lo->M Oc} (hc:∀ q,V1m (c q) ty cs) (hi:∀ q,(c q).N[i]? = some n) (hl:∀ q,(c q).env.kindOf n=some .local) (ex:∀ d ∈ Ds,PySem.W.exmAny K (.ref (G d)) cs=some (decide (d ∈ ds))) (hs:QSs (suF c) K G X0 (b0 :: suite) m) (r:QHT Ds hds ks) :
   QHT Ds (.ExceptHandler (some ty) (some n) (b0 :: suite) pos :: hds) (⟨ds,some i,m⟩ :: ks)
end
section
variable {ι:Type} {c:ι->Cx} {K:qk} {G:Str->Addr} {X:W->Rho->Hp->Prop} {Ds:List Str}
def A6 (K:qk) (G:Str->Addr) (X:W->Rho->Hp->Prop) (Ds:List Str) (l:List vS) (ks:List Cl):Prop:=∀ {ρ:Rho} {S:Sto} {H:Hp} {L:Lo} {σ:L2.St} {D:Ends} {cl:Str} {fs:List Str} {us:List W} {dx:Addr} {vs:List V},Rel K G ρ H S->RL K G ρ H L σ ->
 H dx=some (.xd (fs.zip vs))->ρ.Off dx->fs.length=us.length->RVs K G ρ H us vs->cl ∈ Ds->Good K G X ρ H (mK (.exc cl fs us) cl ks L S) (nD K G D)->lSp K D l (.ref (G cl)) (some dx) σ H
theorem RZ {l:List vS} {ks:List Cl} {c0:List Value} {i:Option Nat} {t:TS} {ds:List Str} {m:Lo->M Oc} (ex:∀ d ∈ Ds,PySem.W.exmAny K (.ref (G d)) c0=some (decide (d ∈ ds))) (rs:RS K G X0 t m) (r:A6 K G X Ds l ks):A6 K G X Ds (⟨c0,i,t⟩ :: l) (⟨ds,i,m⟩ :: ks):=by
 intro ρ S H L σ D cl fs us dx vs rel rl hd off hl rvs hc gd
 refine⟨decide (cl ∈ ds),ex cl hc,λyes=>⟨G cl,dx,rfl,rfl,λa ha=>?_⟩,λno=>?_⟩
 ·have yes:=of_decide_eq_true yes
  unfold mK at gd
  rw[if_pos yes] at gd
  have same:Same H (upd H a (X8 a (G cl) dx)):=λb o hb=>by
   rw[upd_ne (ne_of_none hb ha)]
   exact hb
  have rl2:RL K G ρ (upd H a (X8 a (G cl) dx)) (fAy i (.exc cl fs us) L) (VT i (some (.ref a)) σ):=by
   cases i with
   | none=>exact rl.mono (.same same)
   | some i=>exact(rl.mono (.same same)).set (.exc upd_same (rel.new ha) (same _ _ hd) off hl (rvs.mono (.same same))) i
  refine rs.run (rel.same same) rl2 (lP ((Good.bind (gd.at (.same same))).imp λo S1 ρ1 H1 e1 q1 g1=>?_))
  have g2:nD K G D (nK0 i o) S1 ρ1 H1:=g1.ok q1
  have clear:∀ {L':Lo} {σ':L2.St},RL K G ρ1 H1 L' σ'->RL K G ρ1 H1 (x81 i L') (VT i none σ'):=λ{L' σ'} z=>by
   cases i with
   | none=>exact z
   | some i=>exact OH z i
  cases o with
  | nx L'=>exact λσ' z=>g2 _ (clear z)
  | bk L'=>exact λσ' z=>g2 _ (clear z)
  | ct L'=>exact λσ' z=>g2 _ (clear z)
  | rt w=>exact g2
 ·have no:=of_decide_eq_false no
  unfold mK at gd
  rw[if_neg no] at gd
  exact r rel rl hd off hl rvs hc gd
theorem QHT.out {hds:List ExceptHandler} {ks:List Cl} (h:QHT c K G Ds hds ks):∃ l:List vS,(∀ q,PVI (c q) hds l)/\A6 K G X Ds l ks:=by
 induction h with
 | nil=>exact⟨[],λ_=>.nil,λ_ _ _ _ _ _ _ gd=>gd.elim⟩
 | named hc hi hl ex hs r ih=>
  obtain⟨l,h1,h2⟩:=ih
  obtain⟨t,p,rs⟩:=hs.ex
  exact⟨_,λq=>.named (hc q) (hi q) (hl q) (λa pn=>p ⟨q,a,pn⟩) (h1 q),RZ ex rs h2⟩
end
section
variable {K:qk} {G:Str->Addr} {ρ:Rho} {H:Hp} {S:Sto} {Q:VK}
end
section
variable {X:Cx} {K:qk} {G:Str->Addr} {x a y q z:Str} {g:Addr} {cdg:Value} {sg:Scope} {Ds:List Str} {ks:List Cl} {m:Lo->M Oc} {rs:List Stmt} {j n:Nat} {N:List Str} {h0:ExceptHandler} {hds:List ExceptHandler} {q1 q2 q3 q4 q5 q6 q12:Pos}
end
section
variable {ι:Type} {c:ι->Cx} {K:qk} {G:Str->Addr} {X:W->Rho->Hp->Prop} {scope:Scope} {k n:Nat} {w0:W} {ks:List Cl} {E:XK}
end
section
variable {ι:Type} {c:ι->Cx} {K:qk} {G:Str->Addr}
structure CtxS (c:ι->Cx) (K:qk):Prop where
 kK:∀ i,(c i).K=K
 un:∀ i,(c i).A.units+65 < cLine
theorem CtxS.add (cx:CtxS c K) (i:ι):OpR (c i) (binaryOp .Add) (G2 K):=rO1 (cx.kK i)
theorem CtxS.eq (cx:CtxS c K) (i:ι):OpR (c i) (compareOp .Eq) (gM K):=kEq (by have:=cx.un i;omega) (cx.kK i)
theorem CtxS.ne (cx:CtxS c K) (i:ι):OpR (c i) (compareOp .NotEq) (lE K):=kNe (by have:=cx.un i;omega) (cx.kK i)
theorem CtxS.len (cx:CtxS c K) (i:ι):CallR (c i) (.builtin "len") (Cp.rLen K):=nN9 (cx.kK i)
theorem CtxS.isi (cx:CtxS c K) (i:ι):CallR (c i) (.builtin "isinstance") (eY K):=mI7 (cx.kK i)
theorem CtxS.isX (cx:CtxS c K) (i:ι):CallR (c i) (.builtin "isinstance") (DC K):=zS (cx.kK i)
end
end
end Mi
namespace Mi
open PySem PySem.Spec
open PyProof.Rows L2 Cp
noncomputable section
section
variable {X:Cx} {pins:List (Addr × Obj)} {σ:L2.St} {H:Hp} {s:Shared}
end
section
variable {ι:Type} {c:ι->Cx} {K:qk} {G:Str->Addr} {X:W->Rho->Hp->Prop}
end
end
end Mi
namespace Mi
open PySem PySem.Spec
open PyProof.Rows L2 Cp
noncomputable section
def NLp:W->Option W
 | .int n=>some (.int (-n))
 | _=>none
def j6w (m:Lo->M W):Lo->M W:=λL=>(m L).bind λx S=>gL (NLp x) S
theorem A0k {m:Lo->M W} {L:Lo} {S:Sto} {Q:W->Sto->Prop} (h:Ev (m L S) λx S'=>∃ n,x = .int n/\Q (.int (-n)) S'):Ev (j6w m L S) Q:=by
 unfold j6w
 refine evB (h.imp ?_)
 rintro _ S' ⟨n,rfl,q⟩
 exact q
theorem M1f {ι:Type} {c:ι->Cx} {K:qk} {G:Str->Addr} {X:W->Rho->Hp->Prop} {e:Expr} {ma:Lo->M W} {p:Pos} (ha:QE c K G X e ma):QE c K G X (.UnaryOp .USub e p) (j6w ma):=by
 obtain⟨t,h1,h2⟩:=ha.ex
 refine⟨_,λi=>pe_un un_neg (h1 i),⟨?_⟩⟩
 intro ρ S H L σ Q rel rl g
 refine h2.run rel rl (g.bind.imp λx S1 ρ1 H1 e1 r1 g1 vx rx=>?_)
 obtain⟨w,hw,g2⟩:=Good.lift (o:=NLp x) g1
 unfold NLp at hw
 split at hw
 ·cases hw
  cases rx
  exact⟨_,rfl,g2.fin r1 (.int _)⟩
 ·cases hw
theorem aD (l:Addr) (items:Array Value) (n:Nat) (dd:Option Addr) (sl:Array (Option Value)) (u:Tok) :
  Meets (Builtin.«tuple.__mul__» ⟨[.ref l,.int 1 u],[]⟩) (λ_ R s=>s.heap.get? l=some { cls:=.type "tuple",dict:=dd,data:=.seq items n,slots:=sl }/\R (.ok (.ret (.ref l))) s):=
 .of_wp λprog w A R s h=>by
  obtain⟨hp,g,d,tk,os⟩:=s
  obtain⟨hl,h⟩:=h
  have f1:=AutoSeq1.idx_int
  have c1:(items.isEmpty || (1:Int) == 1)=true:=by rw[show((1:Int) == 1)=true from rfl,Bool.or_true]
  wp_walk using wpAny_loadPart' hl
  repeat (first
   | (refine wpAny_ite_false qg ?_;wp_walk using wpAny_loadPart' hl)
   | (refine wpAny_ite_true (decide_eq_true c1) ?_;wp_walk using wpAny_loadPart' hl))
  exact⟨_,rfl,h⟩
def s7I (K:qk):R2:=λx y H Q=>(∃ l xs,x = .ref l/\y = .int 1/\SqT K H l xs/\Q (.ref l) H) \/ rRepT K x y H Q
theorem YWr {X:Cx}:OpR X (binaryOp .Mult) (s7I X.K):=by
 intro pins s σ H x y v u Q I rx ry h
 rcases h with⟨l,xs,rfl,rfl,hT,q⟩|h
 ·cases rx
  obtain⟨t,rfl⟩:=ry
  obtain⟨its,r,⟨⟨cls,dd,data,sl⟩,ho,hc,n,hd⟩,hs⟩:=I.tuple hT
  simp only at hc hd
  subst hc hd
  refine wpAny_binaryOp_repeat_ref (T := "tuple") (U := "int") qg ⟨_,ho,rfl⟩ (λs'=>typeIs_int s' 1 t) noFill_tuple_mul F.fills_int_mul F.slot_int_rmul repeat_tuple F.slot_int_index.lookup
   (call_meets F.slot_int_rmul (typeIs_int s 1 t) F.entry_int_rmul (F.args_int_rmul_2 _ _) (int_rmul_tuple 1 t l its.toArray n dd sl)
    ⟨ho,rfl,⟨_,ho,rfl⟩,call_meets F.slot_tuple_mul ⟨_,ho,rfl⟩ F.entry_tuple_mul (F.args_tuple_mul_2 _ _) (aD l its.toArray n dd sl t) ⟨ho,?_⟩⟩)
  exact⟨.ref l,H,I,rfl,q⟩
 ·exact op_repT pins s σ H x y v u Q I rx ry h
theorem _root_.Mi.Ctx.mulT {ι:Type} {c:ι->Cx} {K:qk} (cx:Ctx c K) (i:ι):OpR (c i) (binaryOp .Mult) (s7I K):=cx.kK i ▸ YWr
def F1:W->W->Option W
 | .tup ws,.int k=>if k=1 then some (.tup ws) else if 2<=k/\k<=1000/\ws ≠ []/\ws.length<=1000 then some (.tup (yz k.toNat ws).flatten) else none
 | _,_=>none
section
variable {K:qk} {G:Str->Addr}
theorem YT4:jU K G (s7I K) (opS λ_=>F1):=by
 intro X ρ S H x y vx vy Q rel rx ry g
 obtain⟨w,hw,g⟩:=Good.lift (o:=F1 x y) g
 unfold F1 at hw
 split at hw
 ·rename_i ws k
  cases ry
  cases rx with
  | tup h1 r=>
   split at hw
   ·rename_i hk
    cases hw
    subst hk
    exact .inl ⟨_,_,rfl,rfl,SqT.of h1,g.fin rel (.tup h1 r)⟩
   ·split at hw
    ·rename_i hk
     cases hw
     have lv:=r.length
     exact .inr ⟨_,k,_,rfl,rfl,SqT.of h1,λe=>hk.2.2.1 (by rw[e] at lv;exact List.eq_nil_of_length_eq_zero lv),hk.1,hk.2.1,by rw[<- lv];exact hk.2.2.2,g.newT rel (kF r k.toNat)⟩
    ·cases hw
 ·cases hw
end
def OSN (K:qk):V->List V->Hp->VK->Prop:=λx xs H Q=>∃ (p:Addr) (bs:List Bool) (b:Bool),x = .ref p/\xs=[.bl b]/\SqL K H p (bs.map V.bl)/\Q (.int (bs.countP λy=>PyData.eqv (.bool y) (.bool b):Nat)) H
theorem B6 {h:Heap}:∀ {bs:List Bool} {its:List Value},Vals (bs.map V.bl) its->∃ as,ReadsAll h its (bs.map PyData.bool) as
 | [],_,r=>by
  cases r
  exact⟨_,.nil⟩
 | b :: bs,_,r=>by
  cases r with
  | cons r rs=>
   obtain⟨as,h1⟩:=B6 (h:=h) rs
   cases r
   exact⟨_,.cons (.bool b) h1⟩
theorem rP:∀ bs:List Bool,PyData.plainAll (bs.map PyData.bool)=true
 | []=>rfl
 | b :: bs=>by
  have:=rP bs
  simp only[jn,PyData.plainAll,PyData.plain,this,Bool.and_self]
theorem xX:∀ bs:List Bool,PyData.depthAll (bs.map PyData.bool)<=1
 | []=>by simp [PyData.depthAll]
 | b :: bs=>by
  have:=xX bs
  simp only[jn,PyData.depthAll,PyData.depth]
  omega
theorem vU {X:Cx} (un:X.A.units+65 < cLine):MtR X "list.count" (OSN X.K):=by
 intro pins s σ H x xs v us Q I rx rxs h
 obtain⟨p,bs,b,rfl,rfl,hs,q⟩:=h
 cases rx
 obtain⟨u,rfl,ru⟩:=rxs.one
 cases ru
 obtain⟨its,rv,hl,hlen⟩:=I.list hs
 obtain⟨as,rs⟩:=B6 (h:=s.heap) rv
 obtain⟨o,n,ho,hc,_,hd⟩:=hl
 refine PySem.SeqAt.count_list_data ⟨o,ho,hc,n,hd⟩ rs (.bool b) (rP bs) rfl (by have:=xX bs;omega) ?_
 rw[List.countP_map]
 exact⟨.int (bs.countP λy=>PyData.eqv (.bool y) (.bool b):Nat),H,I.tok _,⟨s.toks,rfl⟩,q⟩
theorem _root_.Mi.Ctx.countB {ι:Type} {c:ι->Cx} {K:qk} (cx:Ctx c K) (i:ι):MtR (c i) "list.count" (OSN K):=cx.kK i ▸ vU (cx.un i)
def vIM:List W->Option (List Bool)
 | []=>some []
 | .bl b :: r=>(vIM r).map (b :: ·)
 | _=>none
theorem xS {K:qk} {G:Str->Addr} {ρ:Rho} {H:Hp}:∀ {ws:List W} {bs:List Bool} {vs:List V},vIM ws=some bs->RVs K G ρ H ws vs->vs=bs.map V.bl
 | [],_,_,e,r=>by
  cases e
  cases r
  rfl
 | w :: ws,_,_,e,r=>by
  cases r with
  | cons r rs=>
   cases w with
   | bl b=>
    obtain⟨bs,h,rfl⟩:=qm.mp (show(vIM ws).map (b :: ·)=some _ from e)
    cases r
    rw[xS h rs]
    rfl
   | _=>cases e
def ZG (S:Sto) (x:W):List W->Option W
 | [.bl b]=>((fA S x).bind vIM).map λbs=>.int (bs.countP λy=>PyData.eqv (.bool y) (.bool b):Nat)
 | _=>none
def RY:W->List W->M W:=λx ws S=>gL (ZG S x ws) S
section
variable {K:qk} {G:Str->Addr}
theorem TR:OkM K G "list" (OSN K) oX RY:=⟨U1,by
 intro X ρ S H x vx ws vs Q rel rx rs gd
 obtain⟨w,hw,g⟩:=Good.lift (o:=ZG S x ws) gd
 unfold ZG at hw
 split at hw
 ·rename_i b
  obtain⟨bs,h2,rfl⟩:=qm.mp hw
  obtain⟨ys,h3,h4⟩:=jF.mp h2
  obtain⟨v,rfl,rv⟩:=rs.one
  cases rv
  obtain⟨p,us,rfl,hq,r2⟩:=pX rel rx h3
  rw[xS h4 r2] at hq
  exact⟨p,bs,b,rfl,rfl,SqL.of hq,g.fin rel (.int _)⟩
 ·cases hw⟩
end
end
end Mi
namespace Mi
open PySem PySem.Spec
open PyProof.Rows L2 Cp LamX
noncomputable section
def IH (m:Lo->M Oc):W->M W:=λw=>M.bind (m [none,some w,none,none]) oU
section
variable {K:qk} {G:Str->Addr} {ρ:Rho} {H:Hp} {S:Sto} {Q:VK}
theorem sDl {w:W} {v:V} {σ:L2.St} (hl:σ.length=4) (h:σ[1]? = some (some v)) (r:RV K G ρ H w v):RL K G ρ H [none,some w,none,none] σ:=by
 refine⟨by rw[hl];rfl,λi w' e=>?_⟩
 match i,e with
 | 0,e=>cases e
 | 1,e=>
  cases e
  exact⟨v,h,r⟩
 | 2,e=>cases e
 | 3,e=>cases e
 | n+4,e=>cases e
end
section
variable {X:Cx} {K:qk} {G:Str->Addr} {x a y n z4 e q:Str} {g CS:Addr} {cdg:Value} {sg:Scope} {Ds:List Str} {m:Lo->M Oc} {rs:List Stmt} {j:Nat} {q1 q2 q3 q4 q5 q6 q7 q8 q9 q10 q11 q12:Pos}
theorem iH (hK:X.K=K) (nd:[a,y,n,z4].Nodup) (ky:sg.names.lookup y=some .local) (kn:sg.names.lookup n=some .local) (hge:sg.names.lookup e=some .globalImplicit) (hme:X.mg e=some (.ref CS)) (hde:(e == ("__debug__" : Str))=false) (hdn:(n == ("__debug__" : Str))=false) (hdc:(n == ("__classdict__" : Str))=false)
  (hs0:∀ env,swapsWith (.Constant .none j q2) (some (.Name y q1)) q3.line env=pure false) (hs1:∀ env,swapsWith (.Name n q9) (some (.Name y q8)) q10.line env=pure false) (hs2:∀ env,swapsWith (.Call (.Name a q4) [] [] q5) none q6.line env=pure false)
  (hkit:∀ d ∈ Ds,zl K (.ref (G d)) (.ref CS)=some true)
  (hrest:∀ (s:Shared) (H:Hp),QSs (λ_:Unit=>(cxOf CX0 X.prog X.w X.K X.mg X.base [a,y,n,z4] x sg g cdg X.A X.stack s H E0).nox) K G X0 rs m) :
  GivesTo X [a,y,n,z4] x sg g cdg (.Assign [.Name y q1] (.Constant .none j q2) q3 :: .Try [.Expr (.Call (.Name a q4) [] [] q5) q6] [.ExceptHandler (some (.Name e q7)) (some n) [.Assign [.Name y q8] (.Name n q9) q10] q11] [] [] q12 :: rs) a q (TTm K G Ds (IH m)):=by
 intro f c' s H Q tl act hco hTT
 obtain⟨r,ρ,S,rel,htl,gd⟩:=hTT
 obtain⟨trest,p3,r3⟩:=(hrest s H).ex
 let Y:Cx:=(cxOf CX0 X.prog X.w X.K X.mg X.base [a,y,n,z4] x sg g cdg X.A X.stack s H E0).nox
 let tb:WX->TS:=λW D σ H=>∃ Ech:XK,(∀ cls d σ' H',Ech cls d H'->W cls d σ' H')/\σ[0]? = some (some (.ref f))/\H c'=some (CodeO c' q)/\tl Ech H λ_ H'=>D.nx σ H'
 have ptry:PS Y (.Try [.Expr (.Call (.Name a q4) [] [] q5) q6] [.ExceptHandler (some (.Name e q7)) (some n) [.Assign [.Name y q8] (.Name n q9) q10] q11] [] [] q12) (λD σ H=>tb (tX Y.K (.ref CS) Y.N.length 2 1 D) D σ H):=by
  refine dVH (X:=Y) rfl rfl rfl nd rfl kn rfl ky ⟨hge,hde,.inl hme⟩ (hs1 _) hdn hdc λW pn xe tk _=>⟨?_⟩
  rintro pins s' σ H' D I ⟨Ech,hW,h1,h2,h3⟩
  exact(pss_one (ps_expr (act W pn xe Ech q4 q5 tk hW) (hs2 _))).run pins s' σ H' D I ⟨h1,h2,h3⟩
 refine⟨_,pss_cons (ps_set (X:=Y) (i:=1) nd rfl (.inl ky) pe_non (hs0 _) (.inl rfl)) (pss_cons ptry (p3 ())),?_⟩
 let D0:Ends:={ nx:=λ_ H'=>Q .non H',rt:=Q }
 let Dt:Ends:={ D0 with nx:=trest D0 }
 show tb (tX Y.K (.ref CS) Y.N.length 2 1 Dt) Dt [some (.ref f),some .non,none,none] H
 have run:∀ {w:W} {S':Sto} {ρ':Rho} {H':Hp} {v:V} {σ:L2.St},Ext ρ H ρ' H'->Rel K G ρ' H' S'->Good K G X0 ρ' H' (IH m w S') (KL K G Q)->σ.length=4->σ[1]? = some (some v)->RV K G ρ' H' w v->trest D0 σ H':=λex rel' g' hl h1 rv=>MHw r3 rel' (sDl hl h1 rv) g'
 refine⟨λcls d H'=>∀ σ',tX Y.K (.ref CS) Y.N.length 2 1 Dt cls d σ' H',λ_ _ σ' _ z=>z σ',rfl,hco,htl _ _ ?_⟩
 cases r with
 | none=>exact gd.elim
 | some r=>
  obtain⟨r,S'⟩:=r
  cases r with
  | ok w=>
   intro ρ' H' ex rel' v _
   have gd:Good K G X0 ρ H (y9 (IH m .non S')) (KL K G Q):=gd
   have g':Good K G X0 ρ H (IH m .non S') (KL K G Q):=sO gd
   exact run ex rel' (g'.at ex) rfl rfl .non
  | er w=>
   cases w with
   | exc c fs ws=>
    have gd:Good K G X0 ρ H (if c ∈ Ds then y9 (IH m (.exc c fs ws) S') else none) (KL K G Q):=gd
    split at gd
    ·rename_i hc
     have gd:=sO gd
     intro ρ' H' ex rel' dx vs hd off hl rvs σ' len'
     refine⟨hK ▸ hkit c hc,G c,dx,rfl,rfl,λz hz=>?_⟩
     have same:Same H' (upd H' z (X8 z (G c) dx)):=λb o hb=>by
      rw[upd_ne (ne_of_none hb hz)]
      exact hb
     have len3:σ'.length=4:=len'
     refine run (v:=.ref z) (ex.trans (.same same)) (rel'.same same) (gd.at (ex.trans (.same same))) (by rw[jq,jq,jq];exact len3) ?_ (.exc upd_same (rel'.new hz) (same _ _ hd) off hl (rvs.mono (.same same)))
     rw[jm qg,jj (by rw[jq,len3];decide)]
    ·exact gd.elim
   | _=>exact gd.elim
end
theorem V5 {m:Lo->M Oc} {w:W} {S:Sto} {Q:W->Sto->Prop} (h:Ev (m [none,some w,none,none] S) λo S'=>Ev (oU o S') Q):Ev (IH m w S) Q:=evB h
end
end Mi
namespace Mi
open PySem PySem.Spec
open PyProof.Rows L2 Cp
noncomputable section
structure pYw (K:qk) (G:Str->Addr) (mg:Str->Option Value) where
 EE:Addr
 z7:FuncData
 CN:Fun K "__init__" "TooMany.__init__" jR EE z7
 HQ:Binds K z7 xW []
 lY:Addr
 CI:FuncData
 WC:Fun K "__init__" "NoHouse.__init__" bS lY CI
 oT:Binds K CI G8 []
 L8:Addr
 tA:FuncData
 DW:Fun K "__init__" "NoChoice.__init__" n7 L8 tA
 SM:Binds K tA mR []
 O3:Addr
 eR:FuncData
 WK:Fun K "__init__" "NoFirst.__init__" P2 O3 eR
 K1:Binds K eR LH []
 mH:Addr
 XU:FuncData
 Z9j:Fun K "_law_begun" "_law_begun" YM mH XU
 wI:Binds K XU rT []
 Z73:mg "_law_begun" = some (.ref mH)
 HM:Addr
 CY:FuncData
 Z99:Fun K "_law_take" "_law_take" D9 HM CY
 JV:Binds K CY zQ []
 Z9V:mg "_law_take" = some (.ref HM)
 hH:Addr
 eW:FuncData
 Z90:Fun K "_law_pick" "_law_pick" EB hH eW
 sY:Binds K eW BI []
 Z9n:mg "_law_pick" = some (.ref hH)
 GF:Addr
 ID:FuncData
 Z96:Fun K "is_number" "is_number" sW GF ID
 BD:Binds K ID BR []
 Z9r:mg "is_number" = some (.ref GF)
 HK:Addr
 qD:FuncData
 Z9P:Fun K "is_worth" "is_worth" iX HK qD
 WF:Binds K qD MH []
 Z9c:mg "is_worth" = some (.ref HK)
 JF:Addr
 CP:FuncData
 Z9Q:Fun K "is_name" "is_name" JD JF CP
 UQ:Binds K CP nX []
 Z9e:mg "is_name" = some (.ref JF)
 HZ:Addr
 KF:FuncData
 Z9O:Fun K "__init__" "House.__init__" SO HZ KF
 cU:Binds K KF zJ []
 F9:Addr
 Z4:FuncData
 Z9S:Fun K "cells_in" "cells_in" mU F9 Z4
 A2:Binds K Z4 M7 []
 Z9b:mg "cells_in" = some (.ref F9)
 SL:Addr
 ZH:FuncData
 Z9E:Fun K "_law_worth" "_law_worth" bT SL ZH
 LR:Binds K ZH gY []
 Z8G:mg "_law_worth" = some (.ref SL)
 PR:Addr
 gR:FuncData
 Z9x:Fun K "_law_words" "_law_words" iG PR gR
 F0:Binds K gR kA []
 Z8F:mg "_law_words" = some (.ref PR)
 kQ:Addr
 zE:FuncData
 Z9d:Fun K "_law_sum" "_law_sum" pF kQ zE
 I9:Binds K zE EJ []
 Z75:mg "_law_sum" = some (.ref kQ)
 OP:Addr
 wF:FuncData
 Z9I:Fun K "reckoned" "reckoned" LJ OP wF
 eU:Binds K wF uB []
 Z8U:mg "reckoned" = some (.ref OP)
 Z8:Addr
 VP:FuncData
 Z9A:Fun K "cells_of" "cells_of" wM Z8 VP
 uN:Binds K VP hC []
 Z8J:mg "cells_of" = some (.ref Z8)
 dA:Addr
 WQ:FuncData
 Z9R:Fun K "all_steps" "all_steps" DP dA WQ
 aG:Binds K WQ pE []
 Z9o:mg "all_steps" = some (.ref dA)
 m8:Addr
 U4:FuncData
 Z9t:Fun K "is_send" "is_send" SI m8 U4
 Q5:Binds K U4 cF []
 Z8w:mg "is_send" = some (.ref m8)
structure vLq (K:qk) (G:Str->Addr) (mg:Str->Option Value) extends pYw K G mg where
 E8:Addr
 wO:FuncData
 Z9Y:Fun K "flaw_of_house" "flaw_of_house" V2 E8 wO
 SK:Binds K wO K7 []
 Z9p:mg "flaw_of_house" = some (.ref E8)
 nE:Addr
 lX:FuncData
 Z9N:Fun K "__init__" "Plan.__init__" cX nE lX
 FU:Binds K lX rA []
 X7:Addr
 FG:FuncData
 Z80:Fun K "names" "names" zM X7 FG
 C9:Binds K FG NK []
 Z68:mg "names" = some (.ref X7)
 M6:Addr
 MB:FuncData
 Z8k:Fun K "order" "order" tI M6 MB
 D1:Binds K MB nG []
 Z69:mg "order" = some (.ref M6)
 YS:Addr
 pA:FuncData
 Z9B:Fun K "is_first" "is_first" pU YS pA
 N8:Binds K pA uW []
 Z8K:mg "is_first" = some (.ref YS)
 yN:Addr
 qB:FuncData
 Z9C:Fun K "firsts" "firsts" GA yN qB
 yM:Binds K qB QY []
 Z8u:mg "firsts" = some (.ref yN)
 gU:Addr
 eS:FuncData
 Z9J:Fun K "steps_for" "steps_for" P1 gU eS
 zW:Binds K eS XG []
 Z8S:mg "steps_for" = some (.ref gU)
 T2:Addr
 AW:FuncData
 Z9F:Fun K "__init__" "Doing.__init__" kY T2 AW
 gB:Binds K AW VN []
 PY:Addr
 LC:FuncData
 Z92:Fun K "reckon" "Doing.reckon" GO PY LC
 oC:Binds K LC sV []
 x6:Addr
 LM:FuncData
 Z9z:Fun K "put" "Doing.put" rB x6 LM
 UG:Binds K LM gK []
 e9:Addr
 TH:FuncData
 Z9y:Fun K "add" "Doing.add" CH e9 TH
 nB:Binds K TH qH []
 kH:Addr
 VA:FuncData
 Z9T:Fun K "change" "Doing.change" NQ kH VA
 HD:Binds K VA gF []
 G3:Addr
 NV:FuncData
 Z9v:Fun K "way" "Doing.way" SN G3 NV
 eQ:Binds K NV JE []
 DF:Addr
 cO:FuncData
 Z9G:Fun K "send" "Doing.send" mD DF cO
 OL:Binds K cO JR []
 kM:Addr
 CK:FuncData
 Z91:Fun K "do_all" "Doing.do_all" gN kM CK
 XT:Binds K CK bY []
 P4:Addr
 qQ:FuncData
 Z9L:Fun K "found" "Doing.found" QX P4 qQ
 RQ:Binds K qQ nM []
 f6:Addr
 RG:FuncData
 Z9w:Fun K "reaction" "reaction" y8 f6 RG
 c7:Binds K RG NZ []
 Z8L:mg "reaction" = some (.ref f6)
 vP:Addr
 ZX:FuncData
 Z9H:Fun K "is_until" "is_until" BE vP ZX
 N7:Binds K ZX YB []
 Z8T:mg "is_until" = some (.ref vP)
 BA:Addr
 dR:FuncData
 Z9Z:Fun K "__init__" "Plain.__init__" lI BA dR
 fP:∃ g,KBn K dR XN 3 ["until"] g (gMk [0,1,2] [])
 bJ:∃ g,KBn K dR XN 3 [] g (gMk [0,1,2] [.int 60])
 fJ:Addr
 vT:FuncData
 Z9U:Fun K "place_of" "Plain.place_of" QV fJ vT
 OD:Binds K vT jB []
 xU:Addr
structure J2z (K:qk) (G:Str->Addr) (mg:Str->Option Value) extends vLq K G mg where
 y6:FuncData
 Z9X:Fun K "next_time" "Plain.next_time" AE xU y6
 TY:Binds K y6 KO []
 EO:Addr
 sC:FuncData
 Z9W:Fun K "step" "Plain.step" gH EO sC
 dC:Binds K sC PH []
 DK:Addr
 z8:FuncData
 Z9M:Fun K "run" "Plain.run" U2 DK z8
 UZ:Binds K z8 FH []
 bE:Addr
 uC:FuncData
 Z98:Fun K "cells_of" "Plain.cells_of" OG bE uC
 bQ:Binds K uC WV []
 Z9h:KBinds K uC WV ["house"] gK1 gK1
 J7:Addr
 fG:FuncData
 Z9K:Fun K "done" "Plain.done" Y9 J7 fG
 pW:Binds K fG u6 []
 OJ:Addr
 BH:FuncData
 Z9l:Fun K "_law_send" "_law_send" NE OJ BH
 gC:Binds K BH V1 []
 Z7L:mg "_law_send" = some (.ref OJ)
 US:Addr
 lN:FuncData
 Z9q:Fun K "_law_steps" "_law_steps" Q1 US lN
 uD:Binds K lN wB []
 Z8N:mg "_law_steps" = some (.ref US)
 fQ:Addr
 BS:FuncData
 Z8P:Fun K "_law_step" "_law_step" IY fQ BS
 VM:Binds K BS Q6 []
 Z7M:mg "_law_step" = some (.ref fQ)
 yA:Addr
 G5:FuncData
 Z9k:Fun K "_law_rules" "_law_rules" VJ yA G5
 dP:Binds K G5 UE []
 Z74:mg "_law_rules" = some (.ref yA)
 AL:Addr
 W2:FuncData
 Z8H:Fun K "_law_net" "_law_net" NA AL W2
 S0:Binds K W2 j8 []
 Z59:mg "_law_net" = some (.ref AL)
 tD:Addr
 Y4:FuncData
 Z9u:Fun K "_law_built" "_law_built" dM tD Y4
 wW:Binds K Y4 zX []
 Z8t:mg "_law_built" = some (.ref tD)
 zP:Addr
 TQ:FuncData
 VW:Fun K "_law_refused" "_law_refused" HJ zP TQ
 aF:Binds K TQ qM []
 mE:mg "_law_refused" = some (.ref zP)
 eB:Addr
 vE:FuncData
 Z9D:Fun K "_law_spoilt" "_law_spoilt" JC eB vE
 OV:Binds K vE K9 []
 Z8I:mg "_law_spoilt" = some (.ref eB)
 vX:Addr
 WU:FuncData
 Z9s:Fun K "_law_begins" "_law_begins" K8 vX WU
 B0:Binds K WU qS []
 Z8v:mg "_law_begins" = some (.ref vX)
 cB:Addr
 F2:FuncData
 Z9a:Fun K "_law_long" "_law_long" DY cB F2
 ZU:Binds K F2 CT []
 Z67:mg "_law_long" = some (.ref cB)
 FQ:Addr
 JI:FuncData
 Z7q:Fun K "law" "law" vN FQ JI
 zRA:Binds K JI N6 []
 cD:mg "law" = some (.ref FQ)
 KN:Cls K (G "House")
 Y3:mg "House" = some (.ref (G "House"))
 Z8W:NoAttr K (G "House") "name"
 Z85:NoAttr K (G "House") "cells"
 Z86:NoAttr K (G "House") "rules"
 BP:Mk K (G "House") HZ
 tL:Cls K (G "Plan")
 uH:mg "Plan" = some (.ref (G "Plan"))
 Z89:NoAttr K (G "Plan") "houses"
 cJ:Mk K (G "Plan") nE
 iR:Cls K (G "Doing")
 cE:mg "Doing" = some (.ref (G "Doing"))
 Z9f:NoAttr K (G "Doing") "letter"
 Z81:NoAttr K (G "Doing") "cells"
 Z82:NoAttr K (G "Doing") "place"
structure s6y (K:qk) (G:Str->Addr) (mg:Str->Option Value) extends J2z K G mg where
 Z83:NoAttr K (G "Doing") "sends"
 Z84:NoAttr K (G "Doing") "tells"
 jQ:Mk K (G "Doing") T2
 ZF:Meth K (G "Doing") "reckon" PY
 yS:Meth K (G "Doing") "put" x6
 bA:Meth K (G "Doing") "add" e9
 XA:Meth K (G "Doing") "change" kH
 hO:Meth K (G "Doing") "way" G3
 iC:Meth K (G "Doing") "send" DF
 lR:Meth K (G "Doing") "do_all" kM
 pC:Meth K (G "Doing") "found" P4
 c3:Cls K (G "Plain")
 gG:mg "Plain" = some (.ref (G "Plain"))
 Z9g:NoAttr K (G "Plain") "left"
 Z8Z:NoAttr K (G "Plain") "plan"
 Z88:NoAttr K (G "Plain") "until"
 Z8X:NoAttr K (G "Plain") "kept"
 Z8Y:NoAttr K (G "Plain") "past"
 Z87:NoAttr K (G "Plain") "heard"
 j7:Mk K (G "Plain") BA
 SE:Meth K (G "Plain") "place_of" fJ
 K3:Meth K (G "Plain") "next_time" xU
 kR:Meth K (G "Plain") "step" EO
 wG:Meth K (G "Plain") "run" DK
 yZ:Meth K (G "Plain") "cells_of" bE
 u0:Meth K (G "Plain") "done" J7
 u_MODULUS:Value
 E7:mg "MODULUS" = some u_MODULUS
 r_MODULUS:RelV (.int 1000003) u_MODULUS
 u_LETTERS:Value
 A5:mg "LETTERS" = some u_LETTERS
 r_LETTERS:RelV (.str "abcdefghijklmnopqrstuvwxyz") u_LETTERS
 u_LONGEST:Value
 WN:mg "LONGEST" = some u_LONGEST
 r_LONGEST:RelV (.int 6) u_LONGEST
 u_MOST_CELLS:Value
 c5:mg "MOST_CELLS" = some u_MOST_CELLS
 r_MOST_CELLS:RelV (.int 4) u_MOST_CELLS
 u_MOST_HOUSES:Value
 I4:mg "MOST_HOUSES" = some u_MOST_HOUSES
 r_MOST_HOUSES:RelV (.int 6) u_MOST_HOUSES
 u_MOST_DELAY:Value
 rJ:mg "MOST_DELAY" = some u_MOST_DELAY
 r_MOST_DELAY:RelV (.int 20) u_MOST_DELAY
 u_MOST_TIME:Value
 sS:mg "MOST_TIME" = some u_MOST_TIME
 r_MOST_TIME:RelV (.int 1000) u_MOST_TIME
 u_UNTIL:Value
 A9:mg "UNTIL" = some u_UNTIL
 r_UNTIL:RelV (.int 60) u_UNTIL
 u_MOST:Value
 SY:mg "MOST" = some u_MOST
 r_MOST:RelV (.int 300) u_MOST
 u_LATEST:Value
 yE:mg "LATEST" = some u_LATEST
 r_LATEST:RelV (.int 1000) u_LATEST
 p_TWO_PARTS:Addr
 Z0:mg "TWO_PARTS" = some (.ref p_TWO_PARTS)
 q_TWO_PARTS:∀ H:Hp,SqT K H p_TWO_PARTS [.str "plus",.str "less",.str "times",.str "under",.str "same"]
 jD:mg "len" = none
 hY:mg "range" = none
 KW:mg "min" = none
 WM:mg "max" = none
 R6:mg "isinstance" = none
 DR:mg "all" = none
 yP:mg "int" = none
 xQ:mg "str" = none
 R9:mg "bool" = none
 YD:mg "list" = none
 DQ:mg "tuple" = none
 CG:mg "set" = none
 NT:mg "sorted" = none
 aT:mg "enumerate" = none
 AA:mg "ValueError" = none
 JG:mg "NoFirst" = some (.ref (G "NoFirst"))
 MK:mg "NoChoice" = some (.ref (G "NoChoice"))
 tR:mg "NoHouse" = some (.ref (G "NoHouse"))
 pM:mg "TooMany" = some (.ref (G "TooMany"))
 kN:mg "Idle" = some (.ref (G "Idle"))
 DH:mg "NoLog" = some (.ref (G "NoLog"))
 jZ:mg "NoPlace" = some (.ref (G "NoPlace"))
 AD:mg "NoPlan" = some (.ref (G "NoPlan"))
 sR:mg "NoRoom" = some (.ref (G "NoRoom"))
 lD:mg "NoText" = some (.ref (G "NoText"))
 JH:mg "TooFar" = some (.ref (G "TooFar"))
 FY:mg "PostError" = some (.ref (G "PostError"))
 nU:OexC K (G "NoFirst")
 uE:∀ g ∈ (["at"]:List Str),ql K (.ref (G "NoFirst")) g=some none
 aM:ql K (.ref (G "NoFirst")) "__init__" = some (some (.ref O3))
 NG:jo K (.ref O3)=some (.type "function")
structure Txt (K:qk) (G:Str->Addr) (mg:Str->Option Value) extends s6y K G mg where
 lV:OexC K (G "NoChoice")
 JW:∀ g ∈ (["word"]:List Str),ql K (.ref (G "NoChoice")) g=some none
 I3:ql K (.ref (G "NoChoice")) "__init__" = some (some (.ref L8))
 wQ:jo K (.ref L8)=some (.type "function")
 DG:OexC K (G "NoHouse")
 u9:∀ g ∈ (["name"]:List Str),ql K (.ref (G "NoHouse")) g=some none
 vW:ql K (.ref (G "NoHouse")) "__init__" = some (some (.ref lY))
 uR:jo K (.ref lY)=some (.type "function")
 D7:OexC K (G "TooMany")
 JP:∀ g ∈ (["most"]:List Str),ql K (.ref (G "TooMany")) g=some none
 AY:ql K (.ref (G "TooMany")) "__init__" = some (some (.ref EE))
 ET:jo K (.ref EE)=some (.type "function")
 nfx_at:∀ d ∈ (["NoFirst", "NoChoice", "NoHouse", "TooMany"]:List Str),ql K (.ref (G d)) "at" = some none
 nfx_word:∀ d ∈ (["NoFirst", "NoChoice", "NoHouse", "TooMany"]:List Str),ql K (.ref (G d)) "word" = some none
 nfx_name:∀ d ∈ (["NoFirst", "NoChoice", "NoHouse", "TooMany"]:List Str),ql K (.ref (G d)) "name" = some none
 nfx_most:∀ d ∈ (["NoFirst", "NoChoice", "NoHouse", "TooMany"]:List Str),ql K (.ref (G d)) "most" = some none
 isx:IsX K G ["NoFirst", "NoChoice", "NoHouse", "TooMany"] ["NoFirst", "NoChoice", "NoHouse", "TooMany", "Idle", "NoLog", "NoPlace", "NoPlan", "NoRoom", "NoText", "TooFar"]
 exm:∀ d ∈ (["NoFirst", "NoChoice", "NoHouse", "TooMany"]:List Str),zl K (.ref (G d)) (.ref (G "PostError"))=some true
 Z6D:G (gO "_law_begins.<locals>.<lambda>")=Cp.tabA K (KQ K)
 Z6E:G (gO "_law_begins.<locals>.<lambda>") ≠ 0
 Z7E:WU.code = .ref (Cp.codeA K (KQ K))
 Z5e:G (gO "_law_long.<locals>.<lambda>")=Cp.tabA K (lM K)
 Z6r:G (gO "_law_long.<locals>.<lambda>") ≠ 0
 Z6t:F2.code = .ref (Cp.codeA K (lM K))
 Z3c:G (gO "law.<locals>.<lambda>")=Cp.tabA K (JS K)
 Z3d:G (gO "law.<locals>.<lambda>") ≠ 0
 Z5c:JI.code = .ref (Cp.codeA K (JS K))
 tabI:TabI G
 tabv:∀ q ∈ AG,G (gO q)=0 \/ ∃ a ∈ hta K,G (gO q)=Cp.tabA K a
theorem UW {K:qk} {G:Str->Addr} {mg:Str->Option Value} {base:Heap} [t:TabsB base mg (NJ K)] (T:Txt K G mg):LamX.TabB base mg (Cp.codeA K (KQ K)) (G (gO "_law_begins.<locals>.<lambda>")):=by
 rw[T.Z6D]
 exact t.out _ (jc.mpr ⟨_,by simp [hta],rfl⟩)
theorem zN {K:qk} {G:Str->Addr} {mg:Str->Option Value} {base:Heap} [t:TabsB base mg (NJ K)] (T:Txt K G mg):LamX.TabB base mg (Cp.codeA K (lM K)) (G (gO "_law_long.<locals>.<lambda>")):=by
 rw[T.Z5e]
 exact t.out _ (jc.mpr ⟨_,by simp [hta],rfl⟩)
theorem dBd {K:qk} {G:Str->Addr} {mg:Str->Option Value} {base:Heap} [t:TabsB base mg (NJ K)] (T:Txt K G mg):LamX.TabB base mg (Cp.codeA K (JS K)) (G (gO "law.<locals>.<lambda>")):=by
 rw[T.Z3c]
 exact t.out _ (jc.mpr ⟨_,by simp [hta],rfl⟩)
section
variable {P:Program} {w:World} {K:qk} {G:Str->Addr} {mg:Str->Option Value} {base:Heap} [TabsB base mg (NJ K)]
theorem YY (T:Txt K G mg):FnOk P w K mg base CX0 1 T.EE T.z7 xW (oZC K ["most"]):=P5 T.CN qF λ_ _ _ _ _ _=>pss_one (ps_ost (pe_var (i:=0) rfl (.inl rfl)) (pe_var (i:=1) rfl (.inl rfl)))
theorem vM (T:Txt K G mg):FnOk P w K mg base CX0 1 T.lY T.CI G8 (oZC K ["name"]):=P5 T.WC MS λ_ _ _ _ _ _=>pss_one (ps_ost (pe_var (i:=0) rfl (.inl rfl)) (pe_var (i:=1) rfl (.inl rfl)))
theorem lO (T:Txt K G mg):FnOk P w K mg base CX0 1 T.L8 T.tA mR (oZC K ["word"]):=P5 T.DW vK λ_ _ _ _ _ _=>pss_one (ps_ost (pe_var (i:=0) rfl (.inl rfl)) (pe_var (i:=1) rfl (.inl rfl)))
theorem DZ (T:Txt K G mg):FnOk P w K mg base CX0 1 T.O3 T.eR LH (oZC K ["at"]):=P5 T.WK mG λ_ _ _ _ _ _=>pss_one (ps_ost (pe_var (i:=0) rfl (.inl rfl)) (pe_var (i:=1) rfl (.inl rfl)))
def Z73  : Lo->M Oc:=
 (iE (xG [((mC (.str "great")),(wK jYA (MQ (uV 0)) (fU 1) (tW (mOp (opS λ_=>geW) (uV 1) (mOp (opS λ_=>sE) (mC (.int 10)) (mC (.int 18))))) (uV 1) [1])),((mC (.str "rest")),(mC (.int 0))),((mC (.str "turn")),(mC (.int 0))),((mC (.str "seed")),(mC (.int 7))),((mC (.str "cells")),(mOp (opS MY) (wK VR (MQ (uV 0)) (fU 1) dJ (mOp (opS λ_=>YE) (uV 1) (mC (.int 2147483629))) [1]) (fD aW (O9 (mC (.int 77)) JN))))]))
def Z9j:List W->M W:=IU G7 1 Z73
theorem BX (T:Txt K G mg):FnOk P w K mg base CX0 1 T.mH T.XU rT (spF K G 1 Z9j):=
 xK T.Z9j uF λ_ _ _ _ _ _ hr cx nd=>(G9 (kC (UZc (VD WO (KB (own:=[("_law_cell",1)]) YZS cx (λ_=>uF.nd) (cTu cx (jW 0)) (λ_=>blkOk_by (own:=[("_law_cell",1)]) (N:=G7) (sc:=defScope YM) qf) (EW (i:=1) λ_=>uF.nd) (WH (cK (λ_=>op_ge) nKq (jW 1) (YH (λ_=>op_pow) EU JX JX) (nomark _))) (jW 1) qg) (VD WO JX (VD WO JX (VD WO JX (VD WO (YH cx.add eH (KB (own:=[("_law_cell",1)]) qL cx (λ_=>uF.nd) (cTu cx (jW 0)) (λ_=>blkOk_by (own:=[("_law_cell",1)]) (N:=G7) (sc:=defScope YM) qf) (EW (i:=1) λ_=>uF.nd) fE (YH (λ_=>op_mod) aU (jW 1) JX) qg) (CB (W4 JX R5))) D4))))) (by rfl) (by rfl) (λz=>by cases z) qg)))
def Z9V  : Lo->M Oc:=
 (kO (mIf (KP (tW (mOp (opS λS x y=>(eqW S x y).map W.bl) (mOp sT (uV 0) (mC (.str "rest"))) (mC (.int 0)))) (tW (mOp (opS λS x y=>(eqW S x y).map λb=>W.bl (!b)) (mOp sT (uV 0) (mC (.str "great"))) (fD aW JN))))
 (cA (uV 0) (mC (.str "rest")) (mBM oX QR (mOp sT (uV 0) (mC (.str "great"))) (O9 (mC (.int 0)) JN)))
 dF)
 (kO (mIf (tW (mOp (opS λ_=>gtW) (mOp sT (uV 0) (mC (.str "rest"))) (mC (.int 0))))
 (kO (O0 (mOp (opS λ_=>YE) (mOp sT (uV 0) (mC (.str "rest"))) (uV 1)) (fU 2))
 (kO (cA (uV 0) (mC (.str "rest")) (mOp (opS λ_=>NL) (mOp sT (uV 0) (mC (.str "rest"))) (uV 1)))
 (iE (uV 2))))
 dF)
 (kO (O0 (mOp sT (uV 0) (mC (.str "turn"))) (fU 3))
 (kO (cA (uV 0) (mC (.str "turn")) (mOp (opS MY) (uV 3) (mC (.int 1))))
 (kO (O0 (mOp ixM (mOp sT (uV 0) (mC (.str "cells"))) (mOp (opS λ_=>YE) (uV 3) (fD (MI eP) (O9 (mOp sT (uV 0) (mC (.str "cells"))) JN)))) (fU 4))
 (kO (O0 (mOp (opS λ_=>YE) (mOp (opS MY) (mOp (opS MY) (mOp (opS λ_=>N9) (mOp sT (uV 0) (mC (.str "seed"))) (mC (.int 48271))) (mOp (opS λ_=>N9) (uV 4) (mOp (opS MY) (mOp (opS λ_=>N9) (mC (.int 2)) (uV 3)) (mC (.int 3))))) (mOp (opS λ_=>sE) (uV 3) (mC (.int 3)))) (mC (.int 2147483647))) (fU 5))
 (kO (cA (uV 0) (mC (.str "seed")) (uV 5))
 (kO (O0 (mOp (opS MY) (mOp (opS λ_=>N9) (mOp (opS λ_=>YE) (mOp (opS λ_=>sE) (uV 5) (mC (.int 2))) (mC (.int 2147483629))) (mC (.int 2147483587))) (mOp (opS λ_=>YE) (mOp (opS λ_=>sE) (uV 5) (mC (.int 3))) (mC (.int 2147483579)))) (fU 6))
 (iE (mOp (opS λ_=>YE) (mOp (opS λ_=>NL) (uV 6) (mC (.int 7))) (uV 1)))))))))))
def Z99:List W->M W:=IU gS 2 Z9V
theorem x9 (T:Txt K G mg):FnOk P w K mg base CX0 1 T.HM T.CY zQ (spF K G 2 Z99):=
 xK T.Z99 IR λ_ _ _ _ _ _ hr cx nd=>(CJ (hV (QW.qt (UF (cK cx.eq SZ (XI cx (jW 0) WO (λ_ _=>rfl)) JX (nomark _)) (mM (cK cx.ne QM (XI cx (jW 0) WO (λ_ _=>rfl)) (CB R5) (nomark _)))))
 (G9 (iW cx (jW 0) WO (XM jp PySem.F.slot_list_pop PySem.F.type_list_pop (λ_=>mt_popAt) zZ cx (XI cx (jW 0) WO (λ_ _=>rfl)) (W4 JX R5))))
 YK)
 (CJ (hV (cK (λ_=>op_gt) pT (XI cx (jW 0) WO (λ_ _=>rfl)) JX (nomark _))
 (CJ (gT (i:=2) nd (YH (λ_=>op_mod) aU (XI cx (jW 0) WO (λ_ _=>rfl)) (jW 1)))
 (CJ (iW cx (jW 0) WO (YH (λ_=>op_fdiv) N4M (XI cx (jW 0) WO (λ_ _=>rfl)) (jW 1)))
 (G9 (kC (jW 2)))))
 YK)
 (CJ (gT (i:=3) nd (XI cx (jW 0) WO (λ_ _=>rfl)))
 (CJ (iW cx (jW 0) WO (YH cx.add eH (jW 3) JX))
 (CJ (gT (i:=4) nd (N4 cx (XI cx (jW 0) WO (λ_ _=>rfl)) (YH (λ_=>op_mod) aU (jW 3) (bK cx.len Y8 (λ_=>rfl) (λ_=>T.jD) qf (W4 (XI cx (jW 0) WO (λ_ _=>rfl)) R5))) (λ_ _=>rfl)))
 (CJ (gT (i:=5) nd (YH (λ_=>op_mod) aU (YH cx.add eH (YH cx.add eH (YH (λ_=>op_mul) XD (XI cx (jW 0) WO (λ_ _=>rfl)) JX) (YH (λ_=>op_mul) XD (jW 4) (YH cx.add eH (YH (λ_=>op_mul) XD JX (jW 3)) JX))) (YH (λ_=>op_pow) EU (jW 3) JX)) JX))
 (CJ (iW cx (jW 0) WO (jW 5))
 (CJ (gT (i:=6) nd (YH cx.add eH (YH (λ_=>op_mul) XD (YH (λ_=>op_mod) aU (YH (λ_=>op_pow) EU (jW 5) JX) JX) JX) (YH (λ_=>op_mod) aU (YH (λ_=>op_pow) EU (jW 5) JX) JX)))
 (G9 (kC (YH (λ_=>op_mod) aU (YH (λ_=>op_fdiv) N4M (jW 6) JX) (jW 1))))))))))))
end
section
variable {P:Program} {w:World} {K:qk} {G:Str->Addr} {mg:Str->Option Value} {base:Heap} [TabsB base mg (NJ K)]
def Z9n  : Lo->M Oc:=
 (iE (mOp ixM (uV 1) (fD (mN 2 Z99) (O9 (uV 0) (O9 (fD (MI eP) (O9 (uV 1) JN)) JN)))))
def Z90:List W->M W:=IU oH 2 Z9n
theorem D3 (T:Txt K G mg):FnOk P w K mg base CX0 2 T.hH T.eW BI (spF K G 2 Z90):=
 xK T.Z90 oI λ_ _ _ _ _ _ hr cx nd=>(G9 (kC (N4 cx (jW 1) (I0 (λ_=>(x9 (base:=base) T)) JY (λ_=>rmo hr) (λ_=>rfl) (λ_=>T.Z9V) (λ_=>T.Z99.kp) (λ_=>T.JV) (W4 (jW 0) (W4 (bK cx.len Y8 (λ_=>rfl) (λ_=>T.jD) qf (W4 (jW 1) R5)) R5))) (λ_ _=>rfl))))
def Z9r  : Lo->M Oc:=
 (iE (HS (fD (MI iQ) (O9 (uV 0) (O9 (mC (.ty "int")) JN))) (HS (SJ (fD (MI iQ) (O9 (uV 0) (O9 (mC (.ty "bool")) JN)))) (cG (opS λ_=>leW) (opS λ_=>leW) (uV 1) (uV 0) (uV 2)))))
def Z96:List W->M W:=IU AS 3 Z9r
theorem QZ (T:Txt K G mg):FnOk P w K mg base CX0 1 T.GF T.ID BR (spF K G 3 Z96):=
 xK T.Z96 tP λ_ _ _ _ _ _ hr cx nd=>(G9 (kC (QB (bK cx.isi K5 (λ_=>rfl) (λ_=>T.R6) qf (W4 (jW 0) (W4 (VF (λ_=>rfl) (λ_=>T.yP) qf) R5))) (QB (mDQ (bK cx.isi K5 (λ_=>rfl) (λ_=>T.R6) qf (W4 (jW 0) (W4 (VF (λ_=>rfl) (λ_=>T.R9) qf) R5)))) (XB (gW (λ_=>op_le) (λ_=>op_le) tY tY (jW 1) (jW 0) (jW 2) (λi _ _ _ h1 h2 h3=>pe_chain ((λ_=>op_le) i) ((λ_=>op_le) i) h1 h2 h3)))))))
def Z9c  : Lo->M Oc:=
 (iE (fD (H0 3 Z96) (O9 (uV 0) (O9 (mC (.int 0)) (O9 (mOp (opS λ_=>k6) (mC (.int 1000003)) (mC (.int 1))) JN)))))
def Z9P:List W->M W:=IU mQ 1 Z9c
theorem jH (T:Txt K G mg):FnOk P w K mg base CX0 2 T.HK T.qD MH (spF K G 1 Z9P):=
 xK T.Z9P wY λ_ _ _ _ _ _ hr cx nd=>(G9 (kC (I0 (λ_=>(QZ (base:=base) T)) iF (λ_=>rmo hr) (λ_=>rfl) (λ_=>T.Z9r) (λ_=>T.Z96.kp) (λ_=>T.BD) (W4 (jW 0) (W4 JX (W4 (YH (λ_=>op_sub) HH (NX (λ_=>rfl) (λ_=>T.E7) T.r_MODULUS (λ_ _=>.int _)) JX) R5))))))
def Z9e  : Lo->M Oc:=
 (iE (HS (fD (MI iQ) (O9 (uV 0) (O9 (mC (.ty "str")) JN))) (HS (cG (opS λ_=>leW) (opS λ_=>leW) (mC (.int 1)) (fD (MI eP) (O9 (uV 0) JN)) (mC (.int 6))) (fD (MI qO) (O9 (wK VR (Y7 (uV 0)) (fU 1) dJ (mOp (opS λS x y=>(inW S x y).map W.bl) (uV 1) (mC (.str "abcdefghijklmnopqrstuvwxyz"))) [1]) JN)))))
def Z9Q:List W->M W:=IU GD 1 Z9e
theorem MX (T:Txt K G mg):FnOk P w K mg base CX0 1 T.JF T.CP nX (spF K G 1 Z9Q):=
 xK T.Z9Q nO λ_ _ _ _ _ _ hr cx nd=>(G9 (kC (QB (bK cx.isi K5 (λ_=>rfl) (λ_=>T.R6) qf (W4 (jW 0) (W4 (VF (λ_=>rfl) (λ_=>T.xQ) qf) R5))) (QB (gW (λ_=>op_le) (λ_=>op_le) tY tY JX (bK cx.len Y8 (λ_=>rfl) (λ_=>T.jD) qf (W4 (jW 0) R5)) (NX (λ_=>rfl) (λ_=>T.WN) T.r_LONGEST (λ_ _=>.int _)) (λi _ _ _ h1 h2 h3=>pe_chain ((λ_=>op_le) i) ((λ_=>op_le) i) h1 h2 h3)) (XB (bK cx.all JB (λ_=>rfl) (λ_=>T.DR) qf (W4 (KB (own:=[("sign",1)]) qL cx (λ_=>nO.nd) (jMS (jW 0)) (λ_=>blkOk_by (own:=[("sign",1)]) (N:=GD) (sc:=defScope JD) qf) (EW (i:=1) λ_=>nO.nd) fE (xR (Ctx.blk cx).in_ oP (jW 1) (NX (λ_=>rfl) (λ_=>T.A5) T.r_LETTERS (λ_ _=>.str _)) (by rfl)) qg) R5)))))))
def fK  : Lo->M Oc:=
 (kO (mB ["House"] "name" (uV 0) (uV 1))
 (kO (mB ["House"] "cells" (uV 0) (uV 2))
 (mB ["House"] "rules" (uV 0) (uV 3))))
def Z9O:List W->M W:=IU dY 4 fK
theorem jE (T:Txt K G mg):FnOk P w K mg base CX0 1 T.HZ T.KF zJ (spF K G 4 Z9O):=
 xK T.Z9O oK λ_ _ _ _ _ _ hr cx nd=>(CJ (eA cx (by intro n hn;rw[qp.mp hn];exact T.Z8W) (jW 0) (jW 1))
 (CJ (eA cx (by intro n hn;rw[qp.mp hn];exact T.Z85) (jW 0) (jW 2))
 (G9 (eA cx (by intro n hn;rw[qp.mp hn];exact T.Z86) (jW 0) (jW 3)))))
def Z9b (Z4r:List W->M W):Lo->M Oc:=
 (kO (O0 (uV 0) (gSt 2 1 (gCo (fU 1) (gCo (fU 2) gNo))))
 (kO (mIf (tW (mOp (opS λS x y=>(eqW S x y).map W.bl) (uV 1) (mC (.str "cell"))))
 (iE (uV 2))
 dF)
 (iE (oF (tW (mOp (opS λS x y=>(inW S x y).map W.bl) (uV 1) (mC (.kt [.str "plus",.str "less",.str "times",.str "under",.str "same"])))) (YZ VR (pD (uV 2)) (fU 3) dJ (pD (fD (H0 1 (Z4r)) (O9 (uV 3) JN))) (fU 4) dJ (uV 4) [3,4] [4]) (fD aW JN)))))
def Z9S:Nat->List W->M W
 | 0=>λ_=>GG
 | k+1=>IU CO 1 (Z9b (Z9S k))
theorem Z6 (T:Txt K G mg):∀ k:Nat,FnOk P w K mg base CX0 (0+k) T.F9 T.Z4 M7 (spF K G 1 (Z9S k))
 | 0=>⟨λvs H Q E q=>MG q,λA outer s H args us vs Q E _ _ _ _ ⟨_,_,_,_,_,_,z⟩=>z.elim⟩
 | k+1=>by
  have Z5n:=Z6 T k
  exact xK T.Z9S nH λcdv A outer s H E hr cx nd=>by
   have hr:Room (0+k) _:=hr
   exact(CJ (eJ (jW 0) (V7 (n:=2) (i:=1) cx (AF (EW (i:=1) nd) (d9 (EW (i:=2) nd) y7))))
 (CJ (hV (cK cx.eq SZ (jW 1) WO (nomark _))
 (G9 (kC (jW 2)))
 YK)
 (G9 (kC (nR (cK cx.in_ oP (jW 1) (NX (λ_=>rfl) (λ_=>T.Z0) (v:=.ref T.p_TWO_PARTS) rfl (λ_ _=>.kt (T.q_TWO_PARTS _) (.cons (.str _) (.cons (.str _) (.cons (.str _) (.cons (.str _) (.cons (.str _) .nil))))))) (by rfl)) (MTB (own:=[("part",3),("k",4)]) (vs1:=[4]) qL cx (λ_=>nH.nd) (n8 cx (jW 2)) (λ_=>blkOk_by (own:=[("part",3),("k",4)]) (N:=CO) (sc:=defScope mU) qf) qg (EW (i:=3) λ_=>nH.nd) fE (n8 (Ctx.blk cx) (I0 (λ_=>Z5n) iF (λ_=>rmo hr) (λ_=>rfl) (λ_=>T.Z9b) (λ_=>T.Z9S.kp) (λ_=>T.A2) (W4 (jW 3) R5))) (EW (i:=4) λ_=>nH.nd) fE (jW 4) qg qg (λ_ _ _ _ _ _ _ _ h1 h2 h3 h4 h5 h6 h7=>pe_lc2 (own:=[("part",3),("k",4)]) (vs1:=[4]) rfl nH.nd h1 (blkOk_by (own:=[("part",3),("k",4)]) (N:=CO) (sc:=defScope mU) qf) qg h2 h3 h4 h5 h6 h7)) (CB R5))))))
end
section
variable {P:Program} {w:World} {K:qk} {G:Str->Addr} {mg:Str->Option Value} {base:Heap} [TabsB base mg (NJ K)]
def Z8G  : Lo->M Oc:=
 (iE (mOp ixM (fD aW (O9 (mC (.int 0)) (O9 (mC (.int 1)) (O9 (fD (mN 2 Z99) (O9 (uV 0) (O9 (mC (.int 9)) JN))) (O9 (mOp (opS λ_=>k6) (mC (.int 1000003)) (mC (.int 1))) (O9 (fD (mN 2 Z99) (O9 (uV 0) (O9 (mC (.int 1000003)) JN))) JN)))))) (fD (mN 2 Z99) (O9 (uV 0) (O9 (mC (.int 5)) JN)))))
def Z9E:List W->M W:=IU yW 1 Z8G
theorem kI (T:Txt K G mg):FnOk P w K mg base CX0 2 T.SL T.ZH gY (spF K G 1 Z9E):=
 xK T.Z9E DB λ_ _ _ _ _ _ hr cx nd=>(G9 (kC (N4 cx (CB (W4 JX (W4 JX (W4 (I0 (λ_=>(x9 (base:=base) T)) JY (λ_=>rmo hr) (λ_=>rfl) (λ_=>T.Z9V) (λ_=>T.Z99.kp) (λ_=>T.JV) (W4 (jW 0) (W4 JX R5))) (W4 (YH (λ_=>op_sub) HH (NX (λ_=>rfl) (λ_=>T.E7) T.r_MODULUS (λ_ _=>.int _)) JX) (W4 (I0 (λ_=>(x9 (base:=base) T)) JY (λ_=>rmo hr) (λ_=>rfl) (λ_=>T.Z9V) (λ_=>T.Z99.kp) (λ_=>T.JV) (W4 (jW 0) (W4 (NX (λ_=>rfl) (λ_=>T.E7) T.r_MODULUS (λ_ _=>.int _)) R5))) R5)))))) (I0 (λ_=>(x9 (base:=base) T)) JY (λ_=>rmo hr) (λ_=>rfl) (λ_=>T.Z9V) (λ_=>T.Z99.kp) (λ_=>T.JV) (W4 (jW 0) (W4 JX R5))) (λ_ _=>rfl))))
def Z8F  : Lo->M Oc:=
 (kO (O0 (mC (.str "house on end put add swap tell send if else cell handed time plus less times under same first choice do")) (fU 2))
 (kO (O0 (fD LU JN) (fU 3))
 (kO (GN (itR1 (O9 (uV 1) JN)) (fU 4)
 (kO (O0 (fD (mN 2 Z90) (O9 (uV 0) (O9 (mBM eF FF (uV 2) (O9 (mC (.str " ")) JN)) JN))) (fU 5))
 (kO (mIf (tW (mOp (opS λ_=>gtW) (fD (mN 2 Z99) (O9 (uV 0) (O9 (mC (.int 3)) JN))) (mC (.int 0))))
 (kO (O0 (mC (.str "")) (fU 5))
 (GN (itR1 (O9 (mOp (opS MY) (mC (.int 1)) (fD (mN 2 Z99) (O9 (uV 0) (O9 (mC (.int 6)) JN)))) JN)) (fU 6)
 (O0 (mOp (opS MY) (uV 5) (fD (mN 2 Z90) (O9 (uV 0) (O9 (mC (.str "abcdefghijklmnopqrstuvwxyz")) JN)))) (fU 5))))
 dF)
 (kO (O0 (mOp (opS MY) (fD aW (O9 (uV 5) JN)) (wK VR (Y7 (mC (.str "abcdefghijklmnopqrstuvwxyz"))) (fU 6) dJ (mOp (opS MY) (mSl (uV 5) JA (dZ (mC (.int 5)))) (uV 6)) [6])) (fU 7))
 (fX (mBM oX O4 (uV 3) (O9 (mOp ixM (wK VR (pD (uV 7)) (fU 8) (tW (mOp (opS λS x y=>(inW S x y).map λb=>W.bl (!b)) (uV 8) (uV 3))) (uV 8) [8]) (mC (.int 0))) JN)))))))
 (iE (uV 3)))))
def Z9x:List W->M W:=IU XJ 2 Z8F
theorem vG (T:Txt K G mg):FnOk P w K mg base CX0 3 T.PR T.gR kA (spF K G 2 Z9x):=
 xK T.Z9x EF λ_ _ _ _ _ _ hr cx nd=>(CJ (gT (i:=2) nd WO)
 (CJ (gT (i:=3) nd (X2 R5))
 (CJ (lQ cx (λ_=>PassesOwn.never) (x7 (λ_=>rfl) (λ_=>T.hY) (W4 (jW 1) R5)) (EW (i:=4) nd)
 (CJ (gT (i:=5) nd (I0 (λ_=>(D3 (base:=base) T)) JY (λ_=>rmo hr) (λ_=>rfl) (λ_=>T.Z9n) (λ_=>T.Z90.kp) (λ_=>T.sY) (W4 (jW 0) (W4 (XM PySem.F.plainAttrs_str PySem.F.slot_str_split PySem.F.type_str_split (λ_=>mt_split) pN cx (jW 2) (W4 WO R5)) R5))))
 (CJ (hV (cK (λ_=>op_gt) pT (I0 (λ_=>(x9 (base:=base) T)) JY (λ_=>rmo hr) (λ_=>rfl) (λ_=>T.Z9V) (λ_=>T.Z99.kp) (λ_=>T.JV) (W4 (jW 0) (W4 JX R5))) JX (nomark _))
 (CJ (gT (i:=5) nd WO)
 (G9 (lQ cx (λ_=>PassesOwn.never) (x7 (λ_=>rfl) (λ_=>T.hY) (W4 (YH cx.add eH JX (I0 (λ_=>(x9 (base:=base) T)) JY (λ_=>rmo hr) (λ_=>rfl) (λ_=>T.Z9V) (λ_=>T.Z99.kp) (λ_=>T.JV) (W4 (jW 0) (W4 JX R5)))) R5)) (EW (i:=6) nd)
 (G9 (gT (i:=5) nd (YH cx.add eH (jW 5) (I0 (λ_=>(D3 (base:=base) T)) JY (λ_=>rmo hr) (λ_=>rfl) (λ_=>T.Z9n) (λ_=>T.Z90.kp) (λ_=>T.sY) (W4 (jW 0) (W4 WO R5)))))) (λ_ _ _ _ h1 h2 h3=>ps_for PassesOwn.never rfl h1 h2 h3))))
 YK)
 (CJ (gT (i:=7) nd (YH cx.add eH (CB (W4 (jW 5) R5)) (KB (own:=[("_law_sign",6)]) qL cx (λ_=>EF.nd) (jMS WO) (λ_=>blkOk_by (own:=[("_law_sign",6)]) (N:=XJ) (sc:=defScope iG) qf) (EW (i:=6) λ_=>EF.nd) fE (YH (Ctx.blk cx).add eH (D2 (Ctx.blk cx) (jW 5) BW (fH JX)) (jW 6)) qg)))
 (G9 (wR (XM jp zb za (λ_=>mt_append) RB cx (jW 3) (W4 (N4 cx (KB (own:=[("_law_one",8)]) qL cx (λ_=>EF.nd) (n8 cx (jW 7)) (λ_=>blkOk_by (own:=[("_law_one",8)]) (N:=XJ) (sc:=defScope iG) qf) (EW (i:=8) λ_=>EF.nd) (WH (cK (Ctx.blk cx).notIn V0 (jW 8) (jW 3) (by rfl))) (jW 8) qg) JX (λ_ _=>rfl)) R5))))))) (λ_ _ _ _ h1 h2 h3=>ps_for PassesOwn.never rfl h1 h2 h3))
 (G9 (kC (jW 3))))))
def Z75 (Z28:List W->M W):Lo->M Oc:=
 (kO (O0 (fD (mN 2 Z99) (O9 (uV 0) (O9 (mC (.int 9)) JN))) (fU 3))
 (kO (mIf (MU (tW (mOp (opS λ_=>ltW) (uV 2) (mC (.int 2)))) (tW (mOp (opS λ_=>ltW) (uV 3) (mC (.int 3)))))
 (kO (O0 (fD TZ (O9 (mC (.str "cell")) (O9 (fD (mN 2 Z99) (O9 (uV 0) (O9 (uV 1) JN))) JN))) (fU 4))
 (iE (mOp ixM (fD aW (O9 (fD TZ (O9 (mC (.str "number")) (O9 (fD (mN 1 Z9E) (O9 (uV 0) JN)) JN))) (O9 (uV 4) (O9 (uV 4) (O9 (fD TZ (O9 (mC (.str "handed")) JN)) (O9 (fD TZ (O9 (mC (.str "time")) JN)) JN)))))) (fD (mN 2 Z99) (O9 (uV 0) (O9 (mC (.int 5)) JN))))))
 dF)
 (kO (O0 (fD (mN 3 (Z28)) (O9 (uV 0) (O9 (uV 1) (O9 (mOp (opS λ_=>k6) (uV 2) (mC (.int 1))) JN)))) (fU 5))
 (iE (fD TZ (O9 (fD (mN 2 Z90) (O9 (uV 0) (O9 (fD aW (O9 (mC (.str "plus")) (O9 (mC (.str "less")) (O9 (mC (.str "times")) (O9 (mC (.str "under")) (O9 (mC (.str "same")) JN)))))) JN))) (O9 (uV 5) (O9 (fD (mN 3 (Z28)) (O9 (uV 0) (O9 (uV 1) (O9 (mOp (opS λ_=>k6) (uV 2) (mC (.int 1))) JN)))) JN))))))))
def Z9d:Nat->List W->M W
 | 0=>λ_=>GG
 | k+1=>IU uG 3 (Z75 (Z9d k))
theorem NC (T:Txt K G mg):∀ k:Nat,FnOk P w K mg base CX0 (2+k) T.kQ T.zE EJ (spF K G 3 (Z9d k))
 | 0=>⟨λvs H Q E q=>MG q,λA outer s H args us vs Q E _ _ _ _ ⟨_,_,_,_,_,_,z⟩=>z.elim⟩
 | k+1=>by
  have Z34:=NC T k
  exact xK T.Z9d wJY λcdv A outer s H E hr cx nd=>by
   have hr:Room (2+k) _:=hr
   exact(CJ (gT (i:=3) nd (I0 (λ_=>(x9 (base:=base) T)) JY (λ_=>rmo hr) (λ_=>rfl) (λ_=>T.Z9V) (λ_=>T.Z99.kp) (λ_=>T.JV) (W4 (jW 0) (W4 JX R5))))
 (CJ (hV (QW.qt (lK (cK (λ_=>op_lt) nQ (jW 2) JX (nomark _)) (OU (cK (λ_=>op_lt) nQ (jW 3) JX (nomark _)))))
 (CJ (gT (i:=4) nd (CC (W4 WO (W4 (I0 (λ_=>(x9 (base:=base) T)) JY (λ_=>rmo hr) (λ_=>rfl) (λ_=>T.Z9V) (λ_=>T.Z99.kp) (λ_=>T.JV) (W4 (jW 0) (W4 (jW 1) R5))) R5))))
 (G9 (kC (N4 cx (CB (W4 (CC (W4 WO (W4 (I0 (λ_=>(kI (base:=base) T)) JY (λ_=>rmo hr) (λ_=>rfl) (λ_=>T.Z8G) (λ_=>T.Z9E.kp) (λ_=>T.LR) (W4 (jW 0) R5)) R5))) (W4 (jW 4) (W4 (jW 4) (W4 (CC (W4 WO R5)) (W4 (CC (W4 WO R5)) R5)))))) (I0 (λ_=>(x9 (base:=base) T)) JY (λ_=>rmo hr) (λ_=>rfl) (λ_=>T.Z9V) (λ_=>T.Z99.kp) (λ_=>T.JV) (W4 (jW 0) (W4 JX R5))) (λ_ _=>rfl)))))
 YK)
 (CJ (gT (i:=5) nd (I0 (λ_=>Z34) JY (λ_=>rmo hr) (λ_=>rfl) (λ_=>T.Z75) (λ_=>T.Z9d.kp) (λ_=>T.I9) (W4 (jW 0) (W4 (jW 1) (W4 (YH (λ_=>op_sub) HH (jW 2) JX) R5)))))
 (G9 (kC (CC (W4 (I0 (λ_=>(D3 (base:=base) T)) JY (λ_=>rmo hr) (λ_=>rfl) (λ_=>T.Z9n) (λ_=>T.Z90.kp) (λ_=>T.sY) (W4 (jW 0) (W4 (CB (W4 WO (W4 WO (W4 WO (W4 WO (W4 WO R5)))))) R5))) (W4 (jW 5) (W4 (I0 (λ_=>Z34) JY (λ_=>rmo hr) (λ_=>rfl) (λ_=>T.Z75) (λ_=>T.Z9d.kp) (λ_=>T.I9) (W4 (jW 0) (W4 (jW 1) (W4 (YH (λ_=>op_sub) HH (jW 2) JX) R5)))) R5)))))))))
def Z8U (Z4s:List W->M W):Lo->M Oc:=
 (kO (O0 (uV 0) (gSt 2 1 (gCo (fU 3) (gCo (fU 4) gNo))))
 (kO (mIf (tW (mOp (opS λS x y=>(eqW S x y).map W.bl) (uV 3) (mC (.str "number"))))
 (iE (mOp ixM (uV 4) (mC (.int 0))))
 dF)
 (kO (mIf (tW (mOp (opS λS x y=>(eqW S x y).map W.bl) (uV 3) (mC (.str "cell"))))
 (iE (mOp ixM (uV 2) (mOp ixM (uV 4) (mC (.int 0)))))
 dF)
 (kO (mIf (tW (mOp (opS λS x y=>(eqW S x y).map W.bl) (uV 3) (mC (.str "handed"))))
 (iE (mOp ixM (uV 1) (mC (.int 3))))
 dF)
 (kO (mIf (tW (mOp (opS λS x y=>(eqW S x y).map W.bl) (uV 3) (mC (.str "time"))))
 (iE (mOp (opS λ_=>YE) (mOp ixM (uV 1) (mC (.int 0))) (mC (.int 1000003))))
 dF)
 (kO (O0 (wK VR (pD (uV 4)) (fU 7) dJ (fD (AT 3 (Z4s)) (O9 (uV 7) (O9 (uV 1) (O9 (uV 2) JN)))) [7]) (gLs 2 (gCo (fU 5) (gCo (fU 6) gNo))))
 (kO (mIf (tW (mOp (opS λS x y=>(eqW S x y).map W.bl) (uV 3) (mC (.str "under"))))
 (iE (fD (MI λ_=>MSr) (O9 (mOp (opS λ_=>ltW) (uV 5) (uV 6)) JN)))
 dF)
 (kO (mIf (tW (mOp (opS λS x y=>(eqW S x y).map W.bl) (uV 3) (mC (.str "same"))))
 (iE (fD (MI λ_=>MSr) (O9 (mOp (opS λS x y=>(eqW S x y).map W.bl) (uV 5) (uV 6)) JN)))
 dF)
 (iE (mOp (opS λ_=>YE) (mOp sT (KZ [((mC (.str "plus")),(mOp (opS MY) (uV 5) (uV 6))),((mC (.str "less")),(mOp (opS λ_=>k6) (uV 5) (uV 6))),((mC (.str "times")),(mOp (opS λ_=>N9) (uV 5) (uV 6)))]) (uV 3)) (mC (.int 1000003))))))))))))
def Z9I:Nat->List W->M W
 | 0=>λ_=>GG
 | k+1=>IU UH 3 (Z8U (Z9I k))
theorem f7 (T:Txt K G mg):∀ k:Nat,FnOk P w K mg base CX0 (0+k) T.OP T.wF uB (spF K G 3 (Z9I k))
 | 0=>⟨λvs H Q E q=>MG q,λA outer s H args us vs Q E _ _ _ _ ⟨_,_,_,_,_,_,z⟩=>z.elim⟩
 | k+1=>by
  have Z5o:=f7 T k
  exact xK T.Z9I C8 λcdv A outer s H E hr cx nd=>by
   have hr:Room (0+k) _:=hr
   exact(CJ (eJ (jW 0) (V7 (n:=2) (i:=1) cx (AF (EW (i:=3) nd) (d9 (EW (i:=4) nd) y7))))
 (CJ (hV (cK cx.eq SZ (jW 3) WO (nomark _))
 (G9 (kC (N4 cx (jW 4) JX (λ_ _=>rfl))))
 YK)
 (CJ (hV (cK cx.eq SZ (jW 3) WO (nomark _))
 (G9 (kC (N4 cx (jW 2) (N4 cx (jW 4) JX (λ_ _=>rfl)) (λ_ _=>rfl))))
 YK)
 (CJ (hV (cK cx.eq SZ (jW 3) WO (nomark _))
 (G9 (kC (N4 cx (jW 1) JX (λ_ _=>rfl))))
 YK)
 (CJ (hV (cK cx.eq SZ (jW 3) WO (nomark _))
 (G9 (kC (YH (λ_=>op_mod) aU (N4 cx (jW 1) JX (λ_ _=>rfl)) (NX (λ_=>rfl) (λ_=>T.E7) T.r_MODULUS (λ_ _=>.int _)))))
 YK)
 (CJ (eJ (KB (own:=[("part",7)]) qL cx (λ_=>C8.nd) (n8 cx (jW 4)) (λ_=>blkOk_by (own:=[("part",7)]) (N:=UH) (sc:=defScope LJ) qf) (EW (i:=7) λ_=>C8.nd) fE (I0 (λ_=>Z5o) FB (λ_=>rmo hr) (λ_=>rfl) (λ_=>T.Z8U) (λ_=>T.Z9I.kp) (λ_=>T.eU) (W4 (jW 7) (W4 (jW 1) (W4 (jW 2) R5)))) qg) (qI cx (AF (EW (i:=5) nd) (AF (EW (i:=6) nd) y7))))
 (CJ (hV (cK cx.eq SZ (jW 3) WO (nomark _))
 (G9 (kC (MR (λ_=>call_int1) d8u (λ_=>rfl) (λ_=>T.yP) qf (W4 (xR (λ_=>op_lt) nQ (jW 5) (jW 6) (nomark _)) R5))))
 YK)
 (CJ (hV (cK cx.eq SZ (jW 3) WO (nomark _))
 (G9 (kC (MR (λ_=>call_int1) d8u (λ_=>rfl) (λ_=>T.yP) qf (W4 (xR cx.eq SZ (jW 5) (jW 6) (nomark _)) R5))))
 YK)
 (G9 (kC (YH (λ_=>op_mod) aU (XI cx (AX (VD WO (YH cx.add eH (jW 5) (jW 6)) (VD WO (YH (λ_=>op_sub) HH (jW 5) (jW 6)) (VD WO (YH (λ_=>op_mul) XD (jW 5) (jW 6)) D4))) (by rfl) (by rfl) (λz=>by cases z) qg) (jW 3) (λ_ _=>rfl)) (NX (λ_=>rfl) (λ_=>T.E7) T.r_MODULUS (λ_ _=>.int _)))))))))))))
def Z8J  : Lo->M Oc:=
 (kO (O0 (uV 0) (gSt 2 1 (gCo (fU 1) (gCo (fU 2) gNo))))
 (kO (mIf (tW (mOp (opS λS x y=>(eqW S x y).map W.bl) (uV 1) (mC (.str "swap"))))
 (iE (uV 2))
 dF)
 (kO (mIf (MU (tW (mOp (opS λS x y=>(eqW S x y).map W.bl) (uV 1) (mC (.str "put")))) (tW (mOp (opS λS x y=>(eqW S x y).map W.bl) (uV 1) (mC (.str "add")))))
 (iE (mOp (opS MY) (mSl (uV 2) JA (dZ (mC (.int 1)))) (fD (H0 1 (Z9S 6)) (O9 (mOp ixM (uV 2) (mC (.int 1))) JN))))
 dF)
 (iE (fD (H0 1 (Z9S 6)) (O9 (oF (tW (mOp (opS λS x y=>(eqW S x y).map W.bl) (uV 1) (mC (.str "send")))) (mOp ixM (uV 2) (mC (.int 3))) (mOp ixM (uV 2) (mC (.int 0)))) JN))))))
def Z9A:List W->M W:=IU JU 1 Z8J
theorem YQ (T:Txt K G mg):FnOk P w K mg base CX0 7 T.Z8 T.VP hC (spF K G 1 Z9A):=
 xK T.Z9A eV λ_ _ _ _ _ _ hr cx nd=>(CJ (eJ (jW 0) (V7 (n:=2) (i:=1) cx (AF (EW (i:=1) nd) (d9 (EW (i:=2) nd) y7))))
 (CJ (hV (cK cx.eq SZ (jW 1) WO (nomark _))
 (G9 (kC (jW 2)))
 YK)
 (CJ (hV (QW.qt (lK (cK cx.eq SZ (jW 1) WO (nomark _)) (OU (cK cx.eq SZ (jW 1) WO (nomark _)))))
 (G9 (kC (YH cx.add eH (D2 cx (jW 2) BW (fH JX)) (I0 (λ_=>(Z6 (base:=base) T 6)) iF (λ_=>rmo hr) (λ_=>rfl) (λ_=>T.Z9b) (λ_=>T.Z9S.kp) (λ_=>T.A2) (W4 (N4 cx (jW 2) JX (λ_ _=>rfl)) R5)))))
 YK)
 (G9 (kC (I0 (λ_=>(Z6 (base:=base) T 6)) iF (λ_=>rmo hr) (λ_=>rfl) (λ_=>T.Z9b) (λ_=>T.Z9S.kp) (λ_=>T.A2) (W4 (nR (cK cx.eq SZ (jW 1) WO (nomark _)) (N4 cx (jW 2) JX (λ_ _=>rfl)) (N4 cx (jW 2) JX (λ_ _=>rfl))) R5)))))))
def Z9o (Z61:List W->M W):Lo->M Oc:=
 (kO (O0 (fD LU JN) (fU 1))
 (kO (GN (pD (uV 0)) (fU 2)
 (kO (fX (mBM oX O4 (uV 1) (O9 (uV 2) JN)))
 (mIf (tW (mOp (opS λS x y=>(eqW S x y).map W.bl) (mOp ixM (uV 2) (mC (.int 0))) (mC (.str "if"))))
 (fX (mBM oX KJ (uV 1) (O9 (mOp (opS MY) (fD (H0 1 (Z61)) (O9 (mOp ixM (uV 2) (mC (.int 2))) JN)) (fD (H0 1 (Z61)) (O9 (mOp ixM (uV 2) (mC (.int 3))) JN))) JN)))
 dF)))
 (iE (uV 1))))
def Z9R:Nat->List W->M W
 | 0=>λ_=>GG
 | k+1=>IU FV 1 (Z9o (Z9R k))
theorem MM (T:Txt K G mg):∀ k:Nat,FnOk P w K mg base CX0 (0+k) T.dA T.WQ pE (spF K G 1 (Z9R k))
 | 0=>⟨λvs H Q E q=>MG q,λA outer s H args us vs Q E _ _ _ _ ⟨_,_,_,_,_,_,z⟩=>z.elim⟩
 | k+1=>by
  have Z7D:=MM T k
  exact xK T.Z9R o9 λcdv A outer s H E hr cx nd=>by
   have hr:Room (0+k) _:=hr
   exact(CJ (gT (i:=1) nd (X2 R5))
 (CJ (lQ cx (λ_=>PassesOwn.never) (n8 cx (jW 0)) (EW (i:=2) nd)
 (CJ (wR (XM jp zb za (λ_=>mt_append) RB cx (jW 1) (W4 (jW 2) R5)))
 (G9 (hV (cK cx.eq SZ (N4 cx (jW 2) JX (λ_ _=>rfl)) WO (nomark _))
 (G9 (wR (XM jp PySem.F.slot_list_extend PySem.F.type_list_extend (λ_=>mt_extend) AB cx (jW 1) (W4 (YH cx.add eH (I0 (λ_=>Z7D) iF (λ_=>rmo hr) (λ_=>rfl) (λ_=>T.Z9o) (λ_=>T.Z9R.kp) (λ_=>T.aG) (W4 (N4 cx (jW 2) JX (λ_ _=>rfl)) R5)) (I0 (λ_=>Z7D) iF (λ_=>rmo hr) (λ_=>rfl) (λ_=>T.Z9o) (λ_=>T.Z9R.kp) (λ_=>T.aG) (W4 (N4 cx (jW 2) JX (λ_ _=>rfl)) R5))) R5))))
 YK))) (λ_ _ _ _ h1 h2 h3=>ps_for PassesOwn.never rfl h1 h2 h3))
 (G9 (kC (jW 1)))))
end
section
variable {P:Program} {w:World} {K:qk} {G:Str->Addr} {mg:Str->Option Value} {base:Heap} [TabsB base mg (NJ K)]
def Z8w  : Lo->M Oc:=
 (kO (O0 (uV 0) (gTu 5 (gCo (fU 2) (gCo (fU 3) (gCo (fU 4) (gCo (fU 5) (gCo (fU 6) gNo)))))))
 (iE (HS (mOp (opS λS x y=>(inW S x y).map W.bl) (uV 3) (uV 1)) (HS (fD (H0 1 Z9Q) (O9 (uV 4) JN)) (fD (H0 3 Z96) (O9 (uV 5) (O9 (mC (.int 1)) (O9 (mC (.int 20)) JN))))))))
def Z9t:List W->M W:=IU kP 2 Z8w
theorem K2 (T:Txt K G mg):FnOk P w K mg base CX0 2 T.m8 T.U4 cF (spF K G 2 Z9t):=
 xK T.Z9t FA λ_ _ _ _ _ _ hr cx nd=>(CJ (eJ (jW 0) (oR cx (AF (EW (i:=2) nd) (AF (EW (i:=3) nd) (AF (EW (i:=4) nd) (AF (EW (i:=5) nd) (AF (EW (i:=6) nd) y7)))))))
 (G9 (kC (QB (xR cx.in_ oP (jW 3) (jW 1) (by rfl)) (QB (I0 (λ_=>(MX (base:=base) T)) iF (λ_=>rmo hr) (λ_=>rfl) (λ_=>T.Z9e) (λ_=>T.Z9Q.kp) (λ_=>T.UQ) (W4 (jW 4) R5)) (XB (I0 (λ_=>(QZ (base:=base) T)) iF (λ_=>rmo hr) (λ_=>rfl) (λ_=>T.Z9r) (λ_=>T.Z96.kp) (λ_=>T.BD) (W4 (jW 5) (W4 JX (W4 (NX (λ_=>rfl) (λ_=>T.rJ) T.r_MOST_DELAY (λ_ _=>.int _)) R5))))))))))
def Z9p  : Lo->M Oc:=
 (kO (mIf (MU (o0 (YG (fD (H0 1 Z9Q) (O9 (xI "name" (uV 0)) JN)))) (tW (mOp (opS λS x y=>(inW S x y).map W.bl) (xI "name" (uV 0)) (uV 1))))
 (iE (mC (.str "name")))
 dF)
 (kO (O0 (oF (YG (fD (MI iQ) (O9 (xI "cells" (uV 0)) (O9 (mC (.ty "tuple")) JN)))) (fD (MI eP) (O9 (xI "cells" (uV 0)) JN)) (mC (.int 0))) (fU 3))
 (kO (mIf (MU (o0 (tW (cG (opS λ_=>leW) (opS λ_=>leW) (mC (.int 1)) (uV 3) (mC (.int 4))))) (o0 (YG (fD (MI qO) (O9 (wK VR (pD (xI "cells" (uV 0))) (fU 4) dJ (fD (H0 1 Z9P) (O9 (uV 4) JN)) [4]) JN)))))
 (iE (mC (.str "cells")))
 dF)
 (kO (O0 (wK VR (pD (xI "rules" (uV 0))) (gTu 2 (gCo (fU 6) (gCo (fU 7) gNo))) dJ (uV 6) [6,7]) (fU 5))
 (kO (mIf (MU (o0 (YG (fD (MI qO) (O9 (wK VR (pD (uV 5)) (fU 6) dJ (fD (H0 1 Z9Q) (O9 (uV 6) JN)) [6]) JN)))) (tW (mOp (opS λ_=>ltW) (sZ (uV 5)) (fD (MI eP) (O9 (uV 5) JN)))))
 (iE (mC (.str "kind")))
 dF)
 (kO (GN (pD (YZ VR (pD (xI "rules" (uV 0))) (gTu 2 (gCo (fU 6) (gCo (fU 7) gNo))) dJ (pD (fD (H0 1 (Z9R 6)) (O9 (uV 7) JN))) (fU 8) dJ (uV 8) [6,7,8] [8])) (fU 8)
 (kO (mIf (o0 (YG (fD (MI qO) (O9 (wK VR (pD (fD (H0 1 Z9A) (O9 (uV 8) JN))) (fU 9) dJ (fD (H0 3 Z96) (O9 (uV 9) (O9 (mC (.int 0)) (O9 (mOp (opS λ_=>k6) (uV 3) (mC (.int 1))) JN)))) [9]) JN))))
 (iE (mC (.str "cell")))
 dF)
 (mIf (KP (tW (mOp (opS λS x y=>(eqW S x y).map W.bl) (mOp ixM (uV 8) (mC (.int 0))) (mC (.str "send")))) (o0 (YG (fD (H0 2 Z9t) (O9 (uV 8) (O9 (uV 2) JN))))))
 (iE (mC (.str "send")))
 dF)))
 (iE (mC .non))))))))
def Z9Y:List W->M W:=IU qJ 3 Z9p
theorem mP (T:Txt K G mg):FnOk P w K mg base CX0 8 T.E8 T.wO K7 (spF K G 3 Z9Y):=
 xK T.Z9Y LW λ_ _ _ _ _ _ hr cx nd=>(CJ (hV (QW.qt (lK (n0 (jG cx (I0 (λ_=>(MX (base:=base) T)) iF (λ_=>rmo hr) (λ_=>rfl) (λ_=>T.Z9e) (λ_=>T.Z9Q.kp) (λ_=>T.UQ) (W4 (IC cx (jW 0)) R5)) (λ_ _=>rfl))) (OU (cK cx.in_ oP (IC cx (jW 0)) (jW 1) (by rfl)))))
 (G9 (kC WO))
 YK)
 (CJ (gT (i:=3) nd (nR (jG cx (bK cx.isi K5 (λ_=>rfl) (λ_=>T.R6) qf (W4 (IC cx (jW 0)) (W4 (VF (λ_=>rfl) (λ_=>T.DQ) qf) R5))) (λ_ _=>rfl)) (bK cx.len Y8 (λ_=>rfl) (λ_=>T.jD) qf (W4 (IC cx (jW 0)) R5)) JX))
 (CJ (hV (QW.qt (lK (n0 (zA tY tY JX (jW 3) (NX (λ_=>rfl) (λ_=>T.c5) T.r_MOST_CELLS (λ_ _=>.int _)) (λi _ _ _ h1 h2 h3=>pt_chain ((λ_=>op_le) i) ((λ_=>op_le) i) h1 h2 h3))) (OU (n0 (jG cx (bK cx.all JB (λ_=>rfl) (λ_=>T.DR) qf (W4 (KB (own:=[("cell",4)]) qL cx (λ_=>LW.nd) (n8 cx (IC cx (jW 0))) (λ_=>blkOk_by (own:=[("cell",4)]) (N:=qJ) (sc:=defScope V2) qf) (EW (i:=4) λ_=>LW.nd) fE (I0 (λ_=>(jH (base:=base) T)) iF (λ_=>rmo hr) (λ_=>rfl) (λ_=>T.Z9c) (λ_=>T.Z9P.kp) (λ_=>T.WF) (W4 (jW 4) R5)) qg) R5)) (λ_ _=>rfl))))))
 (G9 (kC WO))
 YK)
 (CJ (bG (i:=5) (own:=[("kind",6),("steps",7)]) qL cx (λ_=>LW.nd) (λ_=>rfl) (λ_=>rfl) (λ_=>sw_true rfl rfl rfl qf) (n8 cx (IC cx (jW 0))) (λ_=>blkOk_by (own:=[("kind",6),("steps",7)]) (N:=qJ) (sc:=defScope V2) qf) (oR (Ctx.blk cx) (AF (EW (i:=6) λ_=>LW.nd) (AF (EW (i:=7) λ_=>LW.nd) y7))) fE (jW 6) qg)
 (CJ (hV (QW.qt (lK (n0 (jG cx (bK cx.all JB (λ_=>rfl) (λ_=>T.DR) qf (W4 (KB (own:=[("kind",6)]) qL cx (λ_=>LW.nd) (n8 cx (jW 5)) (λ_=>blkOk_by (own:=[("kind",6)]) (N:=qJ) (sc:=defScope V2) qf) (EW (i:=6) λ_=>LW.nd) fE (I0 (λ_=>(MX (base:=base) T)) iF (λ_=>rmo hr) (λ_=>rfl) (λ_=>T.Z9e) (λ_=>T.Z9Q.kp) (λ_=>T.UQ) (W4 (jW 6) R5)) qg) R5)) (λ_ _=>rfl))) (OU (cK (λ_=>op_lt) nQ (BF cx (λ_=>rfl) (λ_=>T.jD) (λ_=>rfl) (λ_=>T.CG) (jW 5)) (bK cx.len Y8 (λ_=>rfl) (λ_=>T.jD) qf (W4 (jW 5) R5)) (nomark _)))))
 (G9 (kC WO))
 YK)
 (CJ (lQ cx (λ_=>PassesOwn.never) (n8 cx (MTB (own:=[("kind",6),("steps",7),("step",8)]) (vs1:=[8]) qL cx (λ_=>LW.nd) (n8 cx (IC cx (jW 0))) (λ_=>blkOk_by (own:=[("kind",6),("steps",7),("step",8)]) (N:=qJ) (sc:=defScope V2) qf) qg (oR (Ctx.blk cx) (AF (EW (i:=6) λ_=>LW.nd) (AF (EW (i:=7) λ_=>LW.nd) y7))) fE (n8 (Ctx.blk cx) (I0 (λ_=>(MM (base:=base) T 6)) iF (λ_=>rmo hr) (λ_=>rfl) (λ_=>T.Z9o) (λ_=>T.Z9R.kp) (λ_=>T.aG) (W4 (jW 7) R5))) (EW (i:=8) λ_=>LW.nd) fE (jW 8) qg qg (λ_ _ _ _ _ _ _ _ h1 h2 h3 h4 h5 h6 h7=>pe_lc2 (own:=[("kind",6),("steps",7),("step",8)]) (vs1:=[8]) rfl LW.nd h1 (blkOk_by (own:=[("kind",6),("steps",7),("step",8)]) (N:=qJ) (sc:=defScope V2) qf) qg h2 h3 h4 h5 h6 h7))) (EW (i:=8) nd)
 (CJ (hV (n0 (jG cx (bK cx.all JB (λ_=>rfl) (λ_=>T.DR) qf (W4 (KB (own:=[("k",9)]) qL cx (λ_=>LW.nd) (n8 cx (I0 (λ_=>(YQ (base:=base) T)) iF (λ_=>rmo hr) (λ_=>rfl) (λ_=>T.Z8J) (λ_=>T.Z9A.kp) (λ_=>T.uN) (W4 (jW 8) R5))) (λ_=>blkOk_by (own:=[("k",9)]) (N:=qJ) (sc:=defScope V2) qf) (EW (i:=9) λ_=>LW.nd) fE (I0 (λ_=>(QZ (base:=base) T)) iF (λ_=>rmo hr) (λ_=>rfl) (λ_=>T.Z9r) (λ_=>T.Z96.kp) (λ_=>T.BD) (W4 (jW 9) (W4 JX (W4 (YH (λ_=>op_sub) HH (jW 3) JX) R5)))) qg) R5)) (λ_ _=>rfl)))
 (G9 (kC WO))
 YK)
 (G9 (hV (QW.qt (UF (cK cx.eq SZ (N4 cx (jW 8) JX (λ_ _=>rfl)) WO (nomark _)) (mM (n0 (jG cx (I0 (λ_=>(K2 (base:=base) T)) iF (λ_=>rmo hr) (λ_=>rfl) (λ_=>T.Z8w) (λ_=>T.Z9t.kp) (λ_=>T.Q5) (W4 (jW 8) (W4 (jW 2) R5))) (λ_ _=>rfl))))))
 (G9 (kC WO))
 YK))) (λ_ _ _ _ h1 h2 h3=>ps_for PassesOwn.never rfl h1 h2 h3))
 (G9 (kC LS))))))))
def dI  : Lo->M Oc:=
 (kO (O0 (wK VR (pD (uV 1)) (fU 3) dJ (xI "name" (uV 3)) [3]) (fU 2))
 (kO (GN (TC (O9 (uV 1) JN)) (gTu 2 (gCo (fU 4) (gCo (fU 3) gNo)))
 (kO (O0 (fD (H0 3 Z9Y) (O9 (uV 3) (O9 (mSl (uV 2) JA (dZ (uV 4))) (O9 (uV 2) JN)))) (fU 5))
 (mIf (tW (mOp (opS λ_ x y=>match y with | .non=>RX x | _=>none) (uV 5) (mC .non)))
 CA
 dF)))
 (kO (mIf (o0 (tW (cG (opS λ_=>leW) (opS λ_=>leW) (mC (.int 1)) (fD (MI eP) (O9 (uV 1) JN)) (mC (.int 6)))))
 CA
 dF)
 (mB ["Plan"] "houses" (uV 0) (fD (MI qY) (O9 (uV 1) JN))))))
def Z9N:List W->M W:=IU E1 2 dI
theorem hE (T:Txt K G mg):FnOk P w K mg base CX0 9 T.nE T.lX rA (spF K G 2 Z9N):=
 xK T.Z9N IO λ_ _ _ _ _ _ hr cx nd=>(CJ (bG (i:=2) (own:=[("house",3)]) qL cx (λ_=>IO.nd) (λ_=>rfl) (λ_=>rfl) (λ_=>sw_true rfl rfl rfl qf) (n8 cx (jW 1)) (λ_=>blkOk_by (own:=[("house",3)]) (N:=E1) (sc:=defScope cX) qf) (EW (i:=3) λ_=>IO.nd) fE (IC (Ctx.blk cx) (jW 3)) qg)
 (CJ (lQ cx (λ_=>PassesOwn.never) (DI2 cx (λ_=>rfl) (λ_=>T.aT) (W4 (jW 1) R5)) (oR cx (AF (EW (i:=4) nd) (AF (EW (i:=3) nd) y7)))
 (CJ (gT (i:=5) nd (I0 (λ_=>(mP (base:=base) T)) iF (λ_=>rmo hr) (λ_=>rfl) (λ_=>T.Z9p) (λ_=>T.Z9Y.kp) (λ_=>T.SK) (W4 (jW 3) (W4 (D2 cx (jW 2) BW (fH (jW 4))) (W4 (jW 2) R5)))))
 (G9 (hV (cK (λ_=>op_notN) G0 (jW 5) LS (nomark _))
 (G9 L7)
 YK))) (λ_ _ _ _ h1 h2 h3=>ps_for PassesOwn.never rfl h1 h2 h3))
 (CJ (hV (n0 (zA tY tY JX (bK cx.len Y8 (λ_=>rfl) (λ_=>T.jD) qf (W4 (jW 1) R5)) (NX (λ_=>rfl) (λ_=>T.I4) T.r_MOST_HOUSES (λ_ _=>.int _)) (λi _ _ _ h1 h2 h3=>pt_chain ((λ_=>op_le) i) ((λ_=>op_le) i) h1 h2 h3)))
 (G9 L7)
 YK)
 (G9 (eA cx (by intro n hn;rw[qp.mp hn];exact T.Z89) (jW 0) (MR cx.tuple X3 (λ_=>rfl) (λ_=>T.DQ) qf (W4 (jW 1) R5)))))))
def Z68  : Lo->M Oc:=
 (iE (wK VR (pD (xI "houses" (uV 0))) (fU 1) dJ (xI "name" (uV 1)) [1]))
def Z80:List W->M W:=IU FR 1 Z68
theorem AN (T:Txt K G mg):FnOk P w K mg base CX0 1 T.X7 T.FG NK (spF K G 1 Z80):=
 xK T.Z80 vQ λ_ _ _ _ _ _ hr cx nd=>(G9 (kC (KB (own:=[("house",1)]) qL cx (λ_=>vQ.nd) (n8 cx (IC cx (jW 0))) (λ_=>blkOk_by (own:=[("house",1)]) (N:=FR) (sc:=defScope zM) qf) (EW (i:=1) λ_=>vQ.nd) fE (IC (Ctx.blk cx) (jW 1)) qg)))
def Z69  : Lo->M Oc:=
 (kO (O0 (uV 0) (gTu 8 (gCo (fU 1) (gCo (fU 2) (gCo (fU 3) (gCo (fU 4) (gCo (fU 5) (gCo (fU 6) (gCo (fU 7) (gCo (fU 8) gNo))))))))))
 (iE (fD TZ (O9 (uV 1) (O9 (uV 2) (O9 (uV 5) (O9 (uV 6) (O9 (uV 7) (O9 (uV 8) (O9 (uV 3) (O9 (uV 4) JN)))))))))))
def Z8k:List W->M W:=IU iIW 1 Z69
theorem bO (T:Txt K G mg):oG P w K T.M6:=by
 intro A E s p v0 v1 v2 v3 v4 v5 v6 v7 hr kin lim ht
 have binds:=T.D1 s [.ref p] kin rfl
 obtain⟨_,_,_,_,_,_,cdv,_,_,efd,known,coded⟩:=T.Z8k.ex
 rw[efd] at binds known
 apply wpAny_call
 apply codeAny_call_function hr.depth (kin _ _ known) rfl rfl rfl rfl (PySem.W.codeRec_of kin coded)
 apply binds
 apply wpAny_newFunctionEnv_cells rfl (λy there=>by
  cases there with
  | head=>exact Or.inl rfl
  | tail _ r=>cases r)
 rintro env rfl s1 made
 refine⟨lim.keeps made.toInCall.keep,codeAny_func ?_⟩
 obtain⟨h1,tk1,e1,keep1⟩:=made.done
 have l0:Lc _ _ s s1:=⟨h1,tk1,e1,by have:=made.toInCall.ns;rw[e1] at this;exact this,λb o _ e=>keep1 b o e⟩
 have ht1:IsTup s1.heap p #[v0,v1,v2,v3,v4,v5,v6,v7]:=by
  rw[e1]
  obtain⟨o,there,r⟩:=ht
  exact⟨o,keep1 p o there,r⟩
 refine wpAny_execs_cons (wpAny_Assign_stores (l0.load rfl rfl rfl ?_) rfl rfl)
 refine OYi (assign_Tuple_tuple hr.hd ht1 rfl rfl λh2 ext=>?_)
 have l1:=l0.grow (h':=h2) (tk:=s1.toks) λb o e=>ext b o (zj (Heap.lt_size e)) e
 refine assignInOrder_cons (l1.store rfl rfl λs3 l2=>?_)
 refine assignInOrder_cons (l2.store rfl rfl λs4 l3=>?_)
 refine assignInOrder_cons (l3.store rfl rfl λs5 l4=>?_)
 refine assignInOrder_cons (l4.store rfl rfl λs6 l5=>?_)
 refine assignInOrder_cons (l5.store rfl rfl λs7 l6=>?_)
 refine assignInOrder_cons (l6.store rfl rfl λs8 l7=>?_)
 refine assignInOrder_cons (l7.store rfl rfl λs9 l8=>?_)
 refine assignInOrder_cons (l8.store rfl rfl λs10 l9=>?_)
 refine assignInOrder_nil ?_
 refine wpAny_execs_cons (wpAny_Return_some (wpAny_Tuple_spliced ?_))
 refine spl (l9.load rfl rfl rfl ?_)
 refine spl (l9.load rfl rfl rfl ?_)
 refine spl (l9.load rfl rfl rfl ?_)
 refine spl (l9.load rfl rfl rfl ?_)
 refine spl (l9.load rfl rfl rfl ?_)
 refine spl (l9.load rfl rfl rfl ?_)
 refine spl (l9.load rfl rfl rfl ?_)
 refine spl (l9.load rfl rfl rfl ?_)
 refine Calls.spliced_nil ⟨(by decide:(8:Nat)<=16777216),?_⟩
 obtain⟨h9,t9,rfl,_,kp⟩:=l9
 refine⟨_,t9,h9.objs.size,rfl,rfl,λb o e=>Heap.get?_push_of_some _ (kp b o (zj (Heap.lt_size e)) e),?_,?_⟩
 ·cases e:s.heap.get? h9.objs.size with
  | none=>rfl
  | some o=>exact absurd (Heap.lt_size (kp _ o (zj (Heap.lt_size e)) e)) (Nat.lt_irrefl _)
 exact⟨_,Heap.get?_push_size _ rfl,rfl,_,rfl⟩
def Z8K  : Lo->M Oc:=
 (kO (mIf (MU (o0 (YG (fD (MI iQ) (O9 (uV 1) (O9 (mC (.ty "tuple")) JN))))) (tW (mOp (opS λS x y=>(eqW S x y).map λb=>W.bl (!b)) (fD (MI eP) (O9 (uV 1) JN)) (mC (.int 4)))))
 (iE (mC (.bl false)))
 dF)
 (kO (O0 (uV 1) (gTu 4 (gCo (fU 2) (gCo (fU 3) (gCo (fU 4) (gCo (fU 5) gNo))))))
 (kO (mIf (MU (o0 (YG (fD (H0 3 Z96) (O9 (uV 2) (O9 (mC (.int 1)) (O9 (mC (.int 1000)) JN)))))) (MU (o0 (YG (fD (MI iQ) (O9 (uV 3) (O9 (mC (.ty "str")) JN))))) (tW (mOp (opS λS x y=>(inW S x y).map λb=>W.bl (!b)) (uV 3) (fD (H0 1 Z80) (O9 (uV 0) JN))))))
 (iE (mC (.bl false)))
 dF)
 (iE (HS (fD (H0 1 Z9Q) (O9 (uV 4) JN)) (fD (H0 1 Z9P) (O9 (uV 5) JN)))))))
def Z9B:List W->M W:=IU FW 2 Z8K
theorem R8 (T:Txt K G mg):FnOk P w K mg base CX0 3 T.YS T.pA uW (spF K G 2 Z9B):=
 xK T.Z9B KS λ_ _ _ _ _ _ hr cx nd=>(CJ (hV (QW.qt (lK (n0 (jG cx (bK cx.isi K5 (λ_=>rfl) (λ_=>T.R6) qf (W4 (jW 1) (W4 (VF (λ_=>rfl) (λ_=>T.DQ) qf) R5))) (λ_ _=>rfl))) (OU (cK cx.ne QM (bK cx.len Y8 (λ_=>rfl) (λ_=>T.jD) qf (W4 (jW 1) R5)) JX (nomark _)))))
 (G9 (kC O5))
 YK)
 (CJ (eJ (jW 1) (oR cx (AF (EW (i:=2) nd) (AF (EW (i:=3) nd) (AF (EW (i:=4) nd) (AF (EW (i:=5) nd) y7))))))
 (CJ (hV (QW.qt (lK (n0 (jG cx (I0 (λ_=>(QZ (base:=base) T)) iF (λ_=>rmo hr) (λ_=>rfl) (λ_=>T.Z9r) (λ_=>T.Z96.kp) (λ_=>T.BD) (W4 (jW 2) (W4 JX (W4 (NX (λ_=>rfl) (λ_=>T.sS) T.r_MOST_TIME (λ_ _=>.int _)) R5)))) (λ_ _=>rfl))) (lK (n0 (jG cx (bK cx.isi K5 (λ_=>rfl) (λ_=>T.R6) qf (W4 (jW 3) (W4 (VF (λ_=>rfl) (λ_=>T.xQ) qf) R5))) (λ_ _=>rfl))) (OU (cK cx.notIn V0 (jW 3) (I0 (λ_=>(AN (base:=base) T)) iF (λ_=>rmo hr) (λ_=>rfl) (λ_=>T.Z68) (λ_=>T.Z80.kp) (λ_=>T.C9) (W4 (jW 0) R5)) (by rfl))))))
 (G9 (kC O5))
 YK)
 (G9 (kC (QB (I0 (λ_=>(MX (base:=base) T)) iF (λ_=>rmo hr) (λ_=>rfl) (λ_=>T.Z9e) (λ_=>T.Z9Q.kp) (λ_=>T.UQ) (W4 (jW 4) R5)) (XB (I0 (λ_=>(jH (base:=base) T)) iF (λ_=>rmo hr) (λ_=>rfl) (λ_=>T.Z9c) (λ_=>T.Z9P.kp) (λ_=>T.WF) (W4 (jW 5) R5)))))))))
end
section
variable {P:Program} {w:World} {K:qk} {G:Str->Addr} {mg:Str->Option Value} {base:Heap} [TabsB base mg (NJ K)]
def Z8u  : Lo->M Oc:=
 (kO (mIf (o0 (YG (fD (MI iQ) (O9 (uV 1) (O9 (fD TZ (O9 (mC (.ty "list")) (O9 (mC (.ty "tuple")) JN))) JN)))))
 (U9 "NoFirst" ["at"] (O9 (mC (.int 0)) JN))
 dF)
 (kO (GN (BN (O9 (uV 1) JN)) (gTu 2 (gCo (fU 2) (gCo (fU 3) gNo)))
 (mIf (o0 (YG (fD (H0 2 Z9B) (O9 (uV 0) (O9 (uV 3) JN)))))
 (U9 "NoFirst" ["at"] (O9 (uV 2) JN))
 dF))
 (iE (wK VR (BN (O9 (uV 1) JN)) (gTu 2 (gCo (fU 2) (gCo (fU 3) gNo))) dJ (mOp (opS MY) (uV 3) (fD TZ (O9 (mC (.str "")) (O9 (mC (.int 0)) (O9 (mC (.int 0)) (O9 (uV 2) JN)))))) [2,3]))))
def Z9C:List W->M W:=IU V4 2 Z8u
theorem rE (T:Txt K G mg):FnOk P w K mg base (L2.CX P w) 4 T.yN T.qB QY (spX K G 2 Z9C):=
 ZN T.Z9C aA λcdv A outer s H E hr=>by
  have cx:=zNd (P:=P) (w:=w) (K:=K) (mg:=mg) (base:=base) (N:=V4) (outer:=outer) (H:=H) (E:=E) hr
  exact(CJ (hV (n0 (jG cx (bK cx.isi K5 (λ_=>rfl) (λ_=>T.R6) qf (W4 (jW 1) (W4 (CC (W4 (VF (λ_=>rfl) (λ_=>T.YD) qf) (W4 (VF (λ_=>rfl) (λ_=>T.DQ) qf) R5))) R5))) (λ_ _=>rfl)))
 (G9 (KD cx HA T.nU T.uE T.aM T.NG (λ_=>DZ (base:=base) T) (λ_=>rmo hr) (λ_=>rfl) (λ_=>T.JG) (λ_=>T.K1) qg (W4 JX R5)))
 YK)
 (CJ (lQ cx DIf (v9 cx (λ_=>rfl) (λ_=>T.aT) (W4 (jW 1) R5)) (oR cx (AF (EW (i:=2) (λ_=>aA.nd)) (AF (EW (i:=3) (λ_=>aA.nd)) y7)))
 (G9 (hV (n0 (jG cx (I0 (λ_=>(R8 (base:=base) T)) iF (λ_=>rmo hr) (λ_=>rfl) (λ_=>T.Z8K) (λ_=>T.Z9B.kp) (λ_=>T.N8) (W4 (jW 0) (W4 (jW 3) R5))) (λ_ _=>rfl)))
 (G9 (KD cx HA T.nU T.uE T.aM T.NG (λ_=>DZ (base:=base) T) (λ_=>rmo hr) (λ_=>rfl) (λ_=>T.JG) (λ_=>T.K1) qg (W4 (jW 2) R5)))
 YK)) (λ_ _ _ _ h1 h2 h3=>ps_for (DIf _) rfl h1 h2 h3))
 (G9 (kC (KB (own:=[("at",2),("thing",3)]) qL cx (λ_=>aA.nd) (v9 cx (λ_=>rfl) (λ_=>T.aT) (W4 (jW 1) R5)) (λ_=>blkOk_by (own:=[("at",2),("thing",3)]) (N:=V4) (sc:=defScope GA) qf) (oR (Ctx.blk cx) (AF (EW (i:=2) λ_=>aA.nd) (AF (EW (i:=3) λ_=>aA.nd) y7))) fE (YH (Ctx.blk cx).add eH (jW 3) (CC (W4 WO (W4 JX (W4 JX (W4 (jW 2) R5)))))) qg)))))
def Z8S  : Lo->M Oc:=
 (kO (O0 (uV 1) (gSt 4 3 (gCo (fU 2) (gCo (fU 3) (gCo (fU 4) (gCo (fU 5) gNo))))))
 (kO (O0 (ZUV (pD (xI "houses" (uV 0))) (fU 7) (tW (mOp (opS λS x y=>(eqW S x y).map W.bl) (xI "name" (uV 7)) (uV 3))) (pD (xI "rules" (uV 7))) (gTu 2 (gCo (fU 8) (gCo (fU 9) gNo))) dJ (uV 8) (uV 9) [7,8,9] [8,9]) (fU 6))
 (iE (sX (uV 6) (uV 4) (fD TZ JN)))))
def Z9J:List W->M W:=IU UV 2 Z8S
theorem L5 (T:Txt K G mg):FnOk P w K mg base CX0 1 T.gU T.eS XG (spF K G 2 Z9J):=
 xK T.Z9J iD λ_ _ _ _ _ _ hr cx nd=>(CJ (eJ (jW 1) (V7 (n:=4) (i:=3) cx (AF (EW (i:=2) nd) (AF (EW (i:=3) nd) (AF (EW (i:=4) nd) (d9 (EW (i:=5) nd) y7))))))
 (CJ (oD (i:=6) (own:=[("house",7),("word",8),("steps",9)]) (vs1:=[8,9]) cx (λ_=>iD.nd) (λ_=>rfl) (λ_=>rfl) (λ_=>oJ rfl rfl rfl qf) (n8 cx (IC cx (jW 0))) (λ_=>blkOk_by (own:=[("house",7),("word",8),("steps",9)]) (N:=UV) (sc:=defScope P1) qf) qg (EW (i:=7) λ_=>iD.nd) (WH (cK (Ctx.blk cx).eq SZ (IC (Ctx.blk cx) (jW 7)) (jW 3) (nomark _))) (n8 (Ctx.blk cx) (IC (Ctx.blk cx) (jW 7))) (oR (Ctx.blk cx) (AF (EW (i:=8) λ_=>iD.nd) (AF (EW (i:=9) λ_=>iD.nd) y7))) fE (jW 8) (jW 9) qg qg)
 (G9 (kC (J0O cx (jW 6) (jW 4) (CC R5) (λ_=>⟨rfl,rfl,rfl,rfl⟩))))))
def rV  : Lo->M Oc:=
 (kO (mB ["Doing"] "letter" (uV 0) (uV 1))
 (kO (mB ["Doing"] "cells" (uV 0) (fD aV (O9 (uV 2) JN)))
 (kO (mB ["Doing"] "place" (uV 0) (uV 3))
 (kO (mB ["Doing"] "sends" (uV 0) (fD LU JN))
 (mB ["Doing"] "tells" (uV 0) (fD LU JN))))))
def Z9F:List W->M W:=IU T8 4 rV
theorem U3 (T:Txt K G mg):FnOk P w K mg base CX0 1 T.T2 T.AW VN (spF K G 4 Z9F):=
 xK T.Z9F lJ λ_ _ _ _ _ _ hr cx nd=>(CJ (eA cx (by intro n hn;rw[qp.mp hn];exact T.Z9f) (jW 0) (jW 1))
 (CJ (eA cx (by intro n hn;rw[qp.mp hn];exact T.Z81) (jW 0) (MR cx.list O2 (λ_=>rfl) (λ_=>T.YD) qf (W4 (jW 2) R5)))
 (CJ (eA cx (by intro n hn;rw[qp.mp hn];exact T.Z82) (jW 0) (jW 3))
 (CJ (eA cx (by intro n hn;rw[qp.mp hn];exact T.Z83) (jW 0) (X2 R5))
 (G9 (eA cx (by intro n hn;rw[qp.mp hn];exact T.Z84) (jW 0) (X2 R5)))))))
def EX  : Lo->M Oc:=
 (iE (fD (AT 3 (Z9I 6)) (O9 (uV 1) (O9 (xI "letter" (uV 0)) (O9 (xI "cells" (uV 0)) JN)))))
def Z92:List W->M W:=IU jV 2 EX
theorem cZ (T:Txt K G mg):FnOk P w K mg base CX0 7 T.PY T.LC sV (spF K G 2 Z92):=
 xK T.Z92 GQ λ_ _ _ _ _ _ hr cx nd=>(G9 (kC (I0 (λ_=>(f7 (base:=base) T 6)) FB (λ_=>rmo hr) (λ_=>rfl) (λ_=>T.Z8U) (λ_=>T.Z9I.kp) (λ_=>T.eU) (W4 (jW 1) (W4 (IC cx (jW 0)) (W4 (IC cx (jW 0)) R5))))))
def eC  : Lo->M Oc:=
 (O0 (PL "Doing" "reckon" (AT 2 Z92) (uV 0) (O9 (uV 2) JN)) (gIt (xI "cells" (uV 0)) (uV 1)))
def Z9z:List W->M W:=IU aI 3 eC
theorem pQ (T:Txt K G mg):FnOk P w K mg base CX0 8 T.x6 T.LM gK (spF K G 3 Z9z):=
 xK T.Z9z ER λ_ _ _ _ _ _ hr cx nd=>(G9 (eJ (J2 T.iR cx (λ_=>T.ZF) (λ_=>(cZ (base:=base) T)) FB (λ_=>rmo hr) (λ_=>T.oC) (jW 0) (W4 (jW 2) R5)) (MZ (IC cx (jW 0)) (jW 1))))
def dW  : Lo->M Oc:=
 (O0 (mOp (opS λ_=>YE) (mOp (opS MY) (mOp ixM (xI "cells" (uV 0)) (uV 1)) (PL "Doing" "reckon" (AT 2 Z92) (uV 0) (O9 (uV 2) JN))) (mC (.int 1000003))) (gIt (xI "cells" (uV 0)) (uV 1)))
def Z9y:List W->M W:=IU EK 3 dW
theorem xA (T:Txt K G mg):FnOk P w K mg base CX0 8 T.e9 T.TH qH (spF K G 3 Z9y):=
 xK T.Z9y UJ λ_ _ _ _ _ _ hr cx nd=>(G9 (eJ (YH (λ_=>op_mod) aU (YH cx.add eH (N4 cx (IC cx (jW 0)) (jW 1) (λ_ _=>rfl)) (J2 T.iR cx (λ_=>T.ZF) (λ_=>(cZ (base:=base) T)) FB (λ_=>rmo hr) (λ_=>T.oC) (jW 0) (W4 (jW 2) R5))) (NX (λ_=>rfl) (λ_=>T.E7) T.r_MODULUS (λ_ _=>.int _))) (MZ (IC cx (jW 0)) (jW 1))))
end
section
variable {P:Program} {w:World} {K:qk} {G:Str->Addr} {mg:Str->Option Value} {base:Heap} [TabsB base mg (NJ K)]
def tN  : Lo->M Oc:=
 (mIf (tW (mOp (opS λS x y=>(eqW S x y).map W.bl) (uV 1) (mC (.str "swap"))))
 (O0 (fD TZ (O9 (mOp ixM (xI "cells" (uV 0)) (uV 3)) (O9 (mOp ixM (xI "cells" (uV 0)) (uV 2)) JN))) (gTu 2 (gCo (gIt (xI "cells" (uV 0)) (uV 2)) (gCo (gIt (xI "cells" (uV 0)) (uV 3)) gNo))))
 (mIf (tW (mOp (opS λS x y=>(eqW S x y).map W.bl) (uV 1) (mC (.str "put"))))
 (fX (PL "Doing" "put" (AT 3 Z9z) (uV 0) (O9 (uV 2) (O9 (uV 3) JN))))
 (fX (PL "Doing" "add" (AT 3 Z9y) (uV 0) (O9 (uV 2) (O9 (uV 3) JN))))))
def Z9T:List W->M W:=IU lG 4 tN
theorem ZV (T:Txt K G mg):FnOk P w K mg base CX0 9 T.kH T.VA gF (spF K G 4 Z9T):=
 xK T.Z9T E6 λ_ _ _ _ _ _ hr cx nd=>(G9 (hV (cK cx.eq SZ (jW 1) WO (nomark _))
 (G9 (eJ (CC (W4 (N4 cx (IC cx (jW 0)) (jW 3) (λ_ _=>rfl)) (W4 (N4 cx (IC cx (jW 0)) (jW 2) (λ_ _=>rfl)) R5))) (oR cx (AF (MZ (IC cx (jW 0)) (jW 2)) (AF (MZ (IC cx (jW 0)) (jW 3)) y7)))))
 (G9 (hV (cK cx.eq SZ (jW 1) WO (nomark _))
 (G9 (wR (J2 T.iR cx (λ_=>T.yS) (λ_=>(pQ (base:=base) T)) FB (λ_=>rmo hr) (λ_=>T.UG) (jW 0) (W4 (jW 2) (W4 (jW 3) R5)))))
 (G9 (wR (J2 T.iR cx (λ_=>T.bA) (λ_=>(xA (base:=base) T)) FB (λ_=>rmo hr) (λ_=>T.nB) (jW 0) (W4 (jW 2) (W4 (jW 3) R5)))))))))
def bM  : Lo->M Oc:=
 (iE (oF (tW (mOp (opS λS x y=>(eqW S x y).map λb=>W.bl (!b)) (PL "Doing" "reckon" (AT 2 Z92) (uV 0) (O9 (uV 1) JN)) (mC (.int 0)))) (uV 2) (uV 3)))
def Z9v:List W->M W:=IU RW 4 bM
theorem BV (T:Txt K G mg):FnOk P w K mg base CX0 8 T.G3 T.NV JE (spF K G 4 Z9v):=
 xK T.Z9v J6 λ_ _ _ _ _ _ hr cx nd=>(G9 (kC (nR (cK cx.ne QM (J2 T.iR cx (λ_=>T.ZF) (λ_=>(cZ (base:=base) T)) FB (λ_=>rmo hr) (λ_=>T.oC) (jW 0) (W4 (jW 1) R5)) JX (nomark _)) (jW 2) (jW 3))))
def CL  : Lo->M Oc:=
 (kO (O0 (uV 1) (gLs 4 (gCo (fU 2) (gCo (fU 3) (gCo (fU 4) (gCo (fU 5) gNo))))))
 (kO (O0 (xI "letter" (uV 0)) (gSt 3 2 (gCo (fU 6) (gCo (fU 7) (gCo (fU 8) gNo)))))
 (fX (mBM oX O4 (xI "sends" (uV 0)) (O9 (fD TZ (O9 (mOp (opS MY) (uV 6) (uV 4)) (O9 (uV 2) (O9 (uV 3) (O9 (PL "Doing" "reckon" (AT 2 Z92) (uV 0) (O9 (uV 5) JN)) (O9 (uV 7) (O9 (uV 6) (O9 (xI "place" (uV 0)) (O9 (fD (MI eP) (O9 (xI "sends" (uV 0)) JN)) JN))))))))) JN)))))
def Z9G:List W->M W:=IU sA 2 CL
theorem y0 (T:Txt K G mg):FnOk P w K mg base CX0 8 T.DF T.cO JR (spF K G 2 Z9G):=
 xK T.Z9G kS λ_ _ _ _ _ _ hr cx nd=>(CJ (eJ (jW 1) (qI cx (AF (EW (i:=2) nd) (AF (EW (i:=3) nd) (AF (EW (i:=4) nd) (AF (EW (i:=5) nd) y7))))))
 (CJ (eJ (IC cx (jW 0)) (V7 (n:=3) (i:=2) cx (AF (EW (i:=6) nd) (AF (EW (i:=7) nd) (d9 (EW (i:=8) nd) y7)))))
 (G9 (wR (XM jp zb za (λ_=>mt_append) RB cx (IC cx (jW 0)) (W4 (CC (W4 (YH cx.add eH (jW 6) (jW 4)) (W4 (jW 2) (W4 (jW 3) (W4 (J2 T.iR cx (λ_=>T.ZF) (λ_=>(cZ (base:=base) T)) FB (λ_=>rmo hr) (λ_=>T.oC) (jW 0) (W4 (jW 5) R5)) (W4 (jW 7) (W4 (jW 6) (W4 (IC cx (jW 0)) (W4 (bK cx.len Y8 (λ_=>rfl) (λ_=>T.jD) qf (W4 (IC cx (jW 0)) R5)) R5))))))))) R5))))))
def EN (Z6G:List W->M W):Lo->M Oc:=
 (GN (pD (uV 1)) (gSt 2 1 (gCo (fU 2) (gCo (fU 3) gNo)))
 (mIf (tW (mOp (opS λS x y=>(eqW S x y).map W.bl) (uV 2) (mC (.str "if"))))
 (kO (O0 (uV 3) (gLs 3 (gCo (fU 4) (gCo (fU 5) (gCo (fU 6) gNo)))))
 (fX (PL "Doing" "do_all" (AT 2 (Z6G)) (uV 0) (O9 (PL "Doing" "way" (AT 4 Z9v) (uV 0) (O9 (uV 4) (O9 (uV 5) (O9 (uV 6) JN)))) JN))))
 (mIf (tW (mOp (opS λS x y=>(eqW S x y).map W.bl) (uV 2) (mC (.str "send"))))
 (fX (PL "Doing" "send" (AT 2 Z9G) (uV 0) (O9 (uV 3) JN)))
 (mIf (tW (mOp (opS λS x y=>(eqW S x y).map W.bl) (uV 2) (mC (.str "tell"))))
 (fX (mBM oX O4 (xI "tells" (uV 0)) (O9 (PL "Doing" "reckon" (AT 2 Z92) (uV 0) (O9 (mOp ixM (uV 3) (mC (.int 0))) JN)) JN)))
 (kO (O0 (uV 3) (gLs 2 (gCo (fU 7) (gCo (fU 8) gNo))))
 (fX (PL "Doing" "change" (AT 4 Z9T) (uV 0) (O9 (uV 2) (O9 (uV 7) (O9 (uV 8) JN))))))))))
def Z91:Nat->List W->M W
 | 0=>λ_=>GG
 | k+1=>IU UN 2 (EN (Z91 k))
theorem ZD (T:Txt K G mg):∀ k:Nat,FnOk P w K mg base CX0 (9+k) T.kM T.CK bY (spF K G 2 (Z91 k))
 | 0=>⟨λvs H Q E q=>MG q,λA outer s H args us vs Q E _ _ _ _ ⟨_,_,_,_,_,_,z⟩=>z.elim⟩
 | k+1=>by
  have Z60:=ZD T k
  exact xK T.Z91 eT λcdv A outer s H E hr cx nd=>by
   have hr:Room (9+k) _:=hr
   exact(G9 (lQ cx (λ_=>PassesOwn.never) (n8 cx (jW 1)) (V7 (n:=2) (i:=1) cx (AF (EW (i:=2) nd) (d9 (EW (i:=3) nd) y7)))
 (G9 (hV (cK cx.eq SZ (jW 2) WO (nomark _))
 (CJ (eJ (jW 3) (qI cx (AF (EW (i:=4) nd) (AF (EW (i:=5) nd) (AF (EW (i:=6) nd) y7)))))
 (G9 (wR (J2 T.iR cx (λ_=>T.lR) (λ_=>Z60) FB (λ_=>rmo hr) (λ_=>T.XT) (jW 0) (W4 (J2 T.iR cx (λ_=>T.hO) (λ_=>(BV (base:=base) T)) FB (λ_=>rmo hr) (λ_=>T.eQ) (jW 0) (W4 (jW 4) (W4 (jW 5) (W4 (jW 6) R5)))) R5)))))
 (G9 (hV (cK cx.eq SZ (jW 2) WO (nomark _))
 (G9 (wR (J2 T.iR cx (λ_=>T.iC) (λ_=>(y0 (base:=base) T)) FB (λ_=>rmo hr) (λ_=>T.OL) (jW 0) (W4 (jW 3) R5))))
 (G9 (hV (cK cx.eq SZ (jW 2) WO (nomark _))
 (G9 (wR (XM jp zb za (λ_=>mt_append) RB cx (IC cx (jW 0)) (W4 (J2 T.iR cx (λ_=>T.ZF) (λ_=>(cZ (base:=base) T)) FB (λ_=>rmo hr) (λ_=>T.oC) (jW 0) (W4 (N4 cx (jW 3) JX (λ_ _=>rfl)) R5)) R5))))
 (CJ (eJ (jW 3) (qI cx (AF (EW (i:=7) nd) (AF (EW (i:=8) nd) y7))))
 (G9 (wR (J2 T.iR cx (λ_=>T.XA) (λ_=>(ZV (base:=base) T)) FB (λ_=>rmo hr) (λ_=>T.HD) (jW 0) (W4 (jW 2) (W4 (jW 7) (W4 (jW 8) R5))))))))))))) (λ_ _ _ _ h1 h2 h3=>ps_for PassesOwn.never rfl h1 h2 h3)))
def qA  : Lo->M Oc:=
 (iE (fD TZ (O9 (fD (MI qY) (O9 (xI "cells" (uV 0)) JN)) (O9 (fD (MI qY) (O9 (xI "sends" (uV 0)) JN)) (O9 (fD (MI qY) (O9 (xI "tells" (uV 0)) JN)) JN)))))
def Z9L:List W->M W:=IU zG 1 qA
theorem oL (T:Txt K G mg):FnOk P w K mg base CX0 1 T.P4 T.qQ nM (spF K G 1 Z9L):=
 xK T.Z9L ZO λ_ _ _ _ _ _ hr cx nd=>(G9 (kC (CC (W4 (MR cx.tuple X3 (λ_=>rfl) (λ_=>T.DQ) qf (W4 (IC cx (jW 0)) R5)) (W4 (MR cx.tuple X3 (λ_=>rfl) (λ_=>T.DQ) qf (W4 (IC cx (jW 0)) R5)) (W4 (MR cx.tuple X3 (λ_=>rfl) (λ_=>T.DQ) qf (W4 (IC cx (jW 0)) R5)) R5))))))
def Z8L  : Lo->M Oc:=
 (kO (O0 (fD (zV "Doing" 4 Z9F) (O9 (uV 1) (O9 (uV 2) (O9 (uV 3) JN)))) (fU 4))
 (kO (fX (PL "Doing" "do_all" (AT 2 (Z91 6)) (uV 4) (O9 (fD (H0 2 Z9J) (O9 (uV 0) (O9 (uV 1) JN))) JN)))
 (iE (PL "Doing" "found" (AT 1 Z9L) (uV 4) JN))))
def Z9w:List W->M W:=IU Z5 4 Z8L
theorem GV (T:Txt K G mg):FnOk P w K mg base CX0 16 T.f6 T.RG NZ (spF K G 4 Z9w):=
 xK T.Z9w O8 λ_ _ _ _ _ _ hr cx nd=>(CJ (gT (i:=4) nd (UI T.iR (λ_=>T.jQ) (λ_=>(U3 (base:=base) T)) (VU T.iR) (λ_=>rmo hr) (λ_=>rfl) (λ_=>T.cE) (λ_=>T.gB) (W4 (jW 1) (W4 (jW 2) (W4 (jW 3) R5)))))
 (CJ (wR (J2 T.iR cx (λ_=>T.lR) (λ_=>(ZD (base:=base) T 6)) FB (λ_=>rmo hr) (λ_=>T.XT) (jW 4) (W4 (I0 (λ_=>(L5 (base:=base) T)) iF (λ_=>rmo hr) (λ_=>rfl) (λ_=>T.Z8S) (λ_=>T.Z9J.kp) (λ_=>T.zW) (W4 (jW 0) (W4 (jW 1) R5))) R5)))
 (G9 (kC (oZ T.iR cx (λ_=>T.pC) (λ_=>(oL (base:=base) T)) FB (λ_=>rmo hr) (λ_=>T.RQ) (jW 4))))))
end
section
variable {P:Program} {w:World} {K:qk} {G:Str->Addr} {mg:Str->Option Value} {base:Heap} [TabsB base mg (NJ K)]
def Z8T  : Lo->M Oc:=
 (iE (HS (fD (MI iQ) (O9 (uV 0) (O9 (mC (.ty "int")) JN))) (HS (SJ (fD (MI iQ) (O9 (uV 0) (O9 (mC (.ty "bool")) JN)))) (cG (opS λ_=>leW) (opS λ_=>leW) (mC (.int 1)) (uV 0) (mC (.int 1000))))))
def Z9H:List W->M W:=IU FD 1 Z8T
theorem KM (T:Txt K G mg):FnOk P w K mg base CX0 1 T.vP T.ZX YB (spF K G 1 Z9H):=
 xK T.Z9H SG λ_ _ _ _ _ _ hr cx nd=>(G9 (kC (QB (bK cx.isi K5 (λ_=>rfl) (λ_=>T.R6) qf (W4 (jW 0) (W4 (VF (λ_=>rfl) (λ_=>T.yP) qf) R5))) (QB (mDQ (bK cx.isi K5 (λ_=>rfl) (λ_=>T.R6) qf (W4 (jW 0) (W4 (VF (λ_=>rfl) (λ_=>T.R9) qf) R5)))) (XB (gW (λ_=>op_le) (λ_=>op_le) tY tY JX (jW 0) (NX (λ_=>rfl) (λ_=>T.yE) T.r_LATEST (λ_ _=>.int _)) (λi _ _ _ h1 h2 h3=>pe_chain ((λ_=>op_le) i) ((λ_=>op_le) i) h1 h2 h3)))))))
def OA  : Lo->M Oc:=
 (kO (mB ["Plain"] "left" (uV 0) (C7 (fD (NI 2 Z9C) (O9 (uV 1) (O9 (uV 2) JN)))))
 (kO (mIf (o0 (YG (fD (H0 1 Z9H) (O9 (uV 3) JN))))
 (U9 "NoChoice" ["word"] (O9 (mC (.str "until")) JN))
 dF)
 (kO (mB ["Plain"] "plan" (uV 0) (uV 1))
 (kO (mB ["Plain"] "until" (uV 0) (uV 3))
 (kO (mB ["Plain"] "kept" (uV 0) (P0C E7I (pD (xI "houses" (uV 1))) (fU 4) dJ (xI "name" (uV 4)) (xI "cells" (uV 4)) [4]))
 (kO (mB ["Plain"] "past" (uV 0) (fD LU JN))
 (mB ["Plain"] "heard" (uV 0) (fD LU JN))))))))
def Z9Z:List W->M W:=IU YA 4 OA
theorem iZ (T:Txt K G mg):FnOk P w K mg base (L2.CX P w) 5 T.BA T.dR XN (spX K G 4 Z9Z):=
 ZN T.Z9Z M5 λcdv A outer s H E hr=>by
  have cx:=zNd (P:=P) (w:=w) (K:=K) (mg:=mg) (base:=base) (N:=YA) (outer:=outer) (H:=H) (E:=E) hr
  exact(CJ (eA cx (by intro n hn;rw[qp.mp hn];exact T.Z9g) (jW 0) (rD cx (λ_=>bO T) (λ_=>rmo hr) (λ_=>rfl) (λ_=>T.NT) (λ_=>rfl) (λ_=>T.Z69) (UBz HA (λ_=>(rE (base:=base) T)) HW (λ_=>rmo hr) (λ_=>rfl) (λ_=>T.Z8u) (λ_=>T.Z9C.kp) (λ_=>T.yM) (W4 (jW 1) (W4 (jW 2) R5)))))
 (CJ (hV (n0 (jG cx (I0 (λ_=>(KM (base:=base) T)) iF (λ_=>rmo hr) (λ_=>rfl) (λ_=>T.Z8T) (λ_=>T.Z9H.kp) (λ_=>T.N7) (W4 (jW 3) R5)) (λ_ _=>rfl)))
 (G9 (KD cx HA T.lV T.JW T.I3 T.wQ (λ_=>lO (base:=base) T) (λ_=>rmo hr) (λ_=>rfl) (λ_=>T.MK) (λ_=>T.SM) qg (W4 WO R5)))
 YK)
 (CJ (eA cx (by intro n hn;rw[qp.mp hn];exact T.Z8Z) (jW 0) (jW 1))
 (CJ (eA cx (by intro n hn;rw[qp.mp hn];exact T.Z88) (jW 0) (jW 3))
 (CJ (eA cx (by intro n hn;rw[qp.mp hn];exact T.Z8X) (jW 0) (bQ9 (own:=[("house",4)]) PRM cx (λ_=>M5.nd) (n8 cx (IC cx (jW 1))) (λ_=>blkOk_by (own:=[("house",4)]) (N:=YA) (sc:=defScope lI) qf) (EW (i:=4) λ_=>M5.nd) fE (IC (Ctx.blk cx) (jW 4)) (IC (Ctx.blk cx) (jW 4)) qg))
 (CJ (eA cx (by intro n hn;rw[qp.mp hn];exact T.Z8Y) (jW 0) (X2 R5))
 (G9 (eA cx (by intro n hn;rw[qp.mp hn];exact T.Z87) (jW 0) (X2 R5)))))))))
def IX  : Lo->M Oc:=
 (kO (O0 (uV 1) (gSt 3 2 (gCo (fU 2) (gCo (fU 3) (gCo (fU 4) gNo)))))
 (iE (fD (MI eP) (O9 (wK VR (pD (xI "past" (uV 0))) (fU 5) (tW (mOp (opS λS x y=>(eqW S x y).map W.bl) (fD TZ (O9 (mOp ixM (uV 5) (mC (.int 0))) (O9 (mOp ixM (uV 5) (mC (.int 1))) JN))) (fD TZ (O9 (uV 2) (O9 (uV 3) JN))))) (uV 5) [5]) JN))))
def Z9U:List W->M W:=IU LF 2 IX
theorem rC (T:Txt K G mg):FnOk P w K mg base CX0 1 T.fJ T.vT jB (spF K G 2 Z9U):=
 xK T.Z9U qU λ_ _ _ _ _ _ hr cx nd=>(CJ (eJ (jW 1) (V7 (n:=3) (i:=2) cx (AF (EW (i:=2) nd) (AF (EW (i:=3) nd) (d9 (EW (i:=4) nd) y7)))))
 (G9 (kC (bK cx.len Y8 (λ_=>rfl) (λ_=>T.jD) qf (W4 (KB (own:=[("one",5)]) qL cx (λ_=>qU.nd) (n8 cx (IC cx (jW 0))) (λ_=>blkOk_by (own:=[("one",5)]) (N:=LF) (sc:=defScope QV) qf) (EW (i:=5) λ_=>qU.nd) (WH (cK (Ctx.blk cx).eq SZ (CC (W4 (N4 (Ctx.blk cx) (jW 5) JX (λ_ _=>rfl)) (W4 (N4 (Ctx.blk cx) (jW 5) JX (λ_ _=>rfl)) R5))) (CC (W4 (jW 2) (W4 (jW 3) R5))) (nomark _))) (jW 5) qg) R5)))))
def lB  : Lo->M Oc:=
 (kO (O0 (mOp (opS MY) (wK VR (pD (mSl (xI "left" (uV 0)) JA (dZ (mC (.int 1))))) (fU 2) dJ (mOp ixM (uV 2) (mC (.int 0))) [2]) (fD aW (O9 (mOp (opS MY) (xI "until" (uV 0)) (mC (.int 1))) JN))) (fU 1))
 (iE (fD (MI minL) (O9 (uV 1) JN))))
def Z9X:List W->M W:=IU ST 1 lB
theorem wD (T:Txt K G mg):FnOk P w K mg base CX0 1 T.xU T.y6 KO (spF K G 1 Z9X):=
 xK T.Z9X wN λ_ _ _ _ _ _ hr cx nd=>(CJ (gT (i:=1) nd (YH cx.add eH (KB (own:=[("letter",2)]) qL cx (λ_=>wN.nd) (n8 cx (D2 cx (IC cx (jW 0)) BW (fH JX))) (λ_=>blkOk_by (own:=[("letter",2)]) (N:=ST) (sc:=defScope AE) qf) (EW (i:=2) λ_=>wN.nd) fE (N4 (Ctx.blk cx) (jW 2) JX (λ_ _=>rfl)) qg) (CB (W4 (YH cx.add eH (IC cx (jW 0)) JX) R5))))
 (G9 (kC (bK cx.minL V2L (λ_=>rfl) (λ_=>T.KW) qf (W4 (jW 1) R5)))))
def mV  : Lo->M Oc:=
 (kO (mIf (tW (mOp (opS λ_=>gtW) (PL "Plain" "next_time" (AT 1 Z9X) (uV 0) JN) (xI "until" (uV 0))))
 (iE (mC (.bl false)))
 dF)
 (kO (mIf (tW (mOp (opS λS x y=>(eqW S x y).map W.bl) (fD (MI eP) (O9 (xI "past" (uV 0)) JN)) (mC (.int 300))))
 (U9 "TooMany" ["most"] (O9 (mC (.int 300)) JN))
 dF)
 (kO (O0 (mOp ixM (xI "left" (uV 0)) (mC (.int 0))) (fU 1))
 (kO (O0 (uV 1) (gSt 3 2 (gCo (fU 2) (gCo (fU 3) (gCo (fU 4) gNo)))))
 (kO (O0 (fD (H0 4 Z9w) (O9 (xI "plan" (uV 0)) (O9 (uV 1) (O9 (mOp sT (xI "kept" (uV 0)) (uV 3)) (O9 (PL "Plain" "place_of" (AT 2 Z9U) (uV 0) (O9 (uV 1) JN)) JN))))) (gTu 3 (gCo (gDi (xI "kept" (uV 0)) (uV 3)) (gCo (fU 5) (gCo (fU 6) gNo)))))
 (kO (fX (mBM oX O4 (xI "past" (uV 0)) (O9 (uV 1) JN)))
 (kO (mB ["Plain"] "left" (uV 0) (C7 (mOp (opS MY) (mSl (xI "left" (uV 0)) (dZ (mC (.int 1))) JA) (fD (MI ERK) (O9 (uV 5) JN)))))
 (kO (fX (mBM oX KJ (xI "heard" (uV 0)) (O9 (wK VR (pD (uV 6)) (fU 7) dJ (fD TZ (O9 (uV 2) (O9 (uV 3) (O9 (uV 7) JN)))) [7]) JN)))
 (iE (mC (.bl true)))))))))))
def Z9W:List W->M W:=IU eX 1 mV
theorem tT (T:Txt K G mg):FnOk P w K mg base (L2.CX P w) 17 T.EO T.sC PH (spX K G 1 Z9W):=
 ZN T.Z9W x0 λcdv A outer s H E hr=>by
  have cx:=zNd (P:=P) (w:=w) (K:=K) (mg:=mg) (base:=base) (N:=eX) (outer:=outer) (H:=H) (E:=E) hr
  exact(CJ (hV (cK (λ_=>op_gt) pT (oZ T.c3 cx (λ_=>T.K3) (λ_=>(wD (base:=base) T)) FB (λ_=>rmo hr) (λ_=>T.TY) (jW 0)) (IC cx (jW 0)) (nomark _))
 (G9 (kC O5))
 YK)
 (CJ (hV (cK cx.eq SZ (bK cx.len Y8 (λ_=>rfl) (λ_=>T.jD) qf (W4 (IC cx (jW 0)) R5)) (NX (λ_=>rfl) (λ_=>T.SY) T.r_MOST (λ_ _=>.int _)) (nomark _))
 (G9 (KD cx HA T.D7 T.JP T.AY T.ET (λ_=>YY (base:=base) T) (λ_=>rmo hr) (λ_=>rfl) (λ_=>T.pM) (λ_=>T.HQ) qg (W4 (NX (λ_=>rfl) (λ_=>T.SY) T.r_MOST (λ_ _=>.int _)) R5)))
 YK)
 (CJ (gT (i:=1) (λ_=>x0.nd) (N4 cx (IC cx (jW 0)) JX (λ_ _=>rfl)))
 (CJ (eJ (jW 1) (V7 (n:=3) (i:=2) cx (AF (EW (i:=2) (λ_=>x0.nd)) (AF (EW (i:=3) (λ_=>x0.nd)) (d9 (EW (i:=4) (λ_=>x0.nd)) y7)))))
 (CJ (eJ (I0 (λ_=>(GV (base:=base) T)) iF (λ_=>rmo hr) (λ_=>rfl) (λ_=>T.Z8L) (λ_=>T.Z9w.kp) (λ_=>T.c7) (W4 (IC cx (jW 0)) (W4 (jW 1) (W4 (XI cx (IC cx (jW 0)) (jW 3) (λ_ _=>rfl)) (W4 (J2 T.c3 cx (λ_=>T.SE) (λ_=>(rC (base:=base) T)) FB (λ_=>rmo hr) (λ_=>T.OD) (jW 0) (W4 (jW 1) R5)) R5))))) (oR cx (AF (fW cx (IC cx (jW 0)) (jW 3)) (AF (EW (i:=5) (λ_=>x0.nd)) (AF (EW (i:=6) (λ_=>x0.nd)) y7)))))
 (CJ (wR (XM jp zb za (λ_=>mt_append) RB cx (IC cx (jW 0)) (W4 (jW 1) R5)))
 (CJ (eA cx (by intro n hn;rw[qp.mp hn];exact T.Z9g) (jW 0) (rD cx (λ_=>bO T) (λ_=>rmo hr) (λ_=>rfl) (λ_=>T.NT) (λ_=>rfl) (λ_=>T.Z69) (YH cx.add eH (D2 cx (IC cx (jW 0)) (fH JX) BW) (MR cx.list VL (λ_=>rfl) (λ_=>T.YD) qf (W4 (jW 5) R5)))))
 (CJ (wR (XM jp PySem.F.slot_list_extend PySem.F.type_list_extend (λ_=>mt_extend) AB cx (IC cx (jW 0)) (W4 (KB (own:=[("one",7)]) qL cx (λ_=>x0.nd) (n8 cx (jW 6)) (λ_=>blkOk_by (own:=[("one",7)]) (N:=eX) (sc:=defScope gH) qf) (EW (i:=7) λ_=>x0.nd) fE (CC (W4 (jW 2) (W4 (jW 3) (W4 (jW 7) R5)))) qg) R5)))
 (G9 (kC O5))))))))))
def GB  : Lo->M Oc:=
 (eE (YG (PL "Plain" "step" (NI 1 Z9W) (uV 0) JN))
 M5w)
def Z9M:List W->M W:=IU yJ 1 GB
theorem HC (T:Txt K G mg):FnOk P w K mg base (L2.CX P w) 18 T.DK T.z8 FH (spX K G 1 Z9M):=
 ZN T.Z9M dD λcdv A outer s H E hr=>by
  have cx:=zNd (P:=P) (w:=w) (K:=K) (mg:=mg) (base:=base) (N:=yJ) (outer:=outer) (H:=H) (E:=E) hr
  exact(G9 (pP (jG cx (gP HA T.c3 cx (λ_=>T.kR) (λ_=>(tT (base:=base) T)) HW (λ_=>rmo hr) (λ_=>T.dC) (jW 0)) (λ_ _=>rfl))
 (G9 uAW) (λ_ _ _ h1 h2=>ps_while (DIf _) h1 h2)))
end
section
variable {P:Program} {w:World} {K:qk} {G:Str->Addr} {mg:Str->Option Value} {base:Heap} [TabsB base mg (NJ K)]
def IG  : Lo->M Oc:=
 (kO (mIf (MU (o0 (YG (fD (MI iQ) (O9 (uV 1) (O9 (mC (.ty "str")) JN))))) (tW (mOp (rI6 true) (uV 1) (xI "kept" (uV 0)))))
 (U9 "NoHouse" ["name"] (O9 (uV 1) JN))
 dF)
 (iE (mOp sT (xI "kept" (uV 0)) (uV 1))))
def Z98:List W->M W:=IU BC 2 IG
theorem QF (T:Txt K G mg):FnOk P w K mg base (L2.CX P w) 3 T.bE T.uC WV (spX K G 2 Z98):=
 ZN T.Z98 LX λcdv A outer s H E hr=>by
  have cx:=zNd (P:=P) (w:=w) (K:=K) (mg:=mg) (base:=base) (N:=BC) (outer:=outer) (H:=H) (E:=E) hr
  exact(CJ (hV (QW.qt (lK (n0 (jG cx (bK cx.isi K5 (λ_=>rfl) (λ_=>T.R6) qf (W4 (jW 1) (W4 (VF (λ_=>rfl) (λ_=>T.xQ) qf) R5))) (λ_ _=>rfl))) (OU (TD cx (jW 1) (IC cx (jW 0))))))
 (G9 (KD cx HA T.DG T.u9 T.vW T.uR (λ_=>vM (base:=base) T) (λ_=>rmo hr) (λ_=>rfl) (λ_=>T.tR) (λ_=>T.oT) qg (W4 (jW 1) R5)))
 YK)
 (G9 (kC (XI cx (IC cx (jW 0)) (jW 1) (λ_ _=>rfl)))))
def cN  : Lo->M Oc:=
 (iE (fD aV (O9 (xI "past" (uV 0)) JN)))
def Z9K:List W->M W:=IU pB 1 cN
theorem OY (T:Txt K G mg):FnOk P w K mg base CX0 1 T.J7 T.fG u6 (spF K G 1 Z9K):=
 xK T.Z9K pO λ_ _ _ _ _ _ hr cx nd=>(G9 (kC (MR cx.list O2 (λ_=>rfl) (λ_=>T.YD) qf (W4 (IC cx (jW 0)) R5))))
def Z7L  : Lo->M Oc:=
 (kO (O0 (mOp (opS MY) (mC (.int 1)) (mOp ixM (fD aW (O9 (fD (mN 2 Z99) (O9 (uV 0) (O9 (mC (.int 3)) JN))) (O9 (fD (mN 2 Z99) (O9 (uV 0) (O9 (mC (.int 9)) JN))) (O9 (fD (mN 2 Z99) (O9 (uV 0) (O9 (mC (.int 20)) JN))) JN)))) (fD (mN 2 Z99) (O9 (uV 0) (O9 (mC (.int 3)) JN))))) (fU 2))
 (kO (IT 3 4 (O9 (fD (mN 2 Z90) (O9 (uV 0) (O9 (mOp sT (uV 1) (mC (.str "places"))) JN))) (O9 (fD (mN 2 Z90) (O9 (uV 0) (O9 (mOp sT (uV 1) (mC (.str "kinds"))) JN))) JN)))
 (iE (fD TZ (O9 (mC (.str "send")) (O9 (uV 3) (O9 (uV 4) (O9 (uV 2) (O9 (fD (mN 3 (Z9d 6)) (O9 (uV 0) (O9 (mOp sT (uV 1) (mC (.str "many"))) (O9 (mOp (opS MY) (mC (.int 1)) (fD (mN 2 Z99) (O9 (uV 0) (O9 (mC (.int 4)) JN)))) JN)))) JN)))))))))
def Z9l:List W->M W:=IU wH 2 Z7L
theorem PU (T:Txt K G mg):FnOk P w K mg base CX0 9 T.OJ T.BH V1 (spF K G 2 Z9l):=
 xK T.Z9l pG λ_ _ _ _ _ _ hr cx nd=>(CJ (gT (i:=2) nd (YH cx.add eH JX (N4 cx (CB (W4 (I0 (λ_=>(x9 (base:=base) T)) JY (λ_=>rmo hr) (λ_=>rfl) (λ_=>T.Z9V) (λ_=>T.Z99.kp) (λ_=>T.JV) (W4 (jW 0) (W4 JX R5))) (W4 (I0 (λ_=>(x9 (base:=base) T)) JY (λ_=>rmo hr) (λ_=>rfl) (λ_=>T.Z9V) (λ_=>T.Z99.kp) (λ_=>T.JV) (W4 (jW 0) (W4 JX R5))) (W4 (I0 (λ_=>(x9 (base:=base) T)) JY (λ_=>rmo hr) (λ_=>rfl) (λ_=>T.Z9V) (λ_=>T.Z99.kp) (λ_=>T.JV) (W4 (jW 0) (W4 JX R5))) R5)))) (I0 (λ_=>(x9 (base:=base) T)) JY (λ_=>rmo hr) (λ_=>rfl) (λ_=>T.Z9V) (λ_=>T.Z99.kp) (λ_=>T.JV) (W4 (jW 0) (W4 JX R5))) (λ_ _=>rfl))))
 (CJ (D5 (i:=3) (j:=4) cx nd (λ_=>rfl) (λ_=>rfl) qg (λ_=>rfl) (λ_=>rfl) (W4 (I0 (λ_=>(D3 (base:=base) T)) JY (λ_=>rmo hr) (λ_=>rfl) (λ_=>T.Z9n) (λ_=>T.Z90.kp) (λ_=>T.sY) (W4 (jW 0) (W4 (XI cx (jW 1) WO (λ_ _=>rfl)) R5))) (W4 (I0 (λ_=>(D3 (base:=base) T)) JY (λ_=>rmo hr) (λ_=>rfl) (λ_=>T.Z9n) (λ_=>T.Z90.kp) (λ_=>T.sY) (W4 (jW 0) (W4 (XI cx (jW 1) WO (λ_ _=>rfl)) R5))) R5)) (λ_=>rfl))
 (G9 (kC (CC (W4 WO (W4 (jW 3) (W4 (jW 4) (W4 (jW 2) (W4 (I0 (λ_=>(NC (base:=base) T 6)) JY (λ_=>rmo hr) (λ_=>rfl) (λ_=>T.Z75) (λ_=>T.Z9d.kp) (λ_=>T.I9) (W4 (jW 0) (W4 (XI cx (jW 1) WO (λ_ _=>rfl)) (W4 (YH cx.add eH JX (I0 (λ_=>(x9 (base:=base) T)) JY (λ_=>rmo hr) (λ_=>rfl) (λ_=>T.Z9V) (λ_=>T.Z99.kp) (λ_=>T.JV) (W4 (jW 0) (W4 JX R5)))) R5)))) R5))))))))))
def Z8N (Z6m:List W->M W) (Z35:List W->M W):Lo->M Oc:=
 (kO (O0 (fD LU JN) (fU 3))
 (kO (GN (itR1 (O9 (fD (mN 2 Z99) (O9 (uV 0) (O9 (mC (.int 5)) JN))) JN)) (fU 4)
 (mIf (tW (mOp (opS λ_=>gtW) (mOp ixM (mOp sT (uV 1) (mC (.str "left"))) (mC (.int 0))) (mC (.int 0))))
 (kO (O0 (mOp (opS λ_=>k6) (mOp ixM (mOp sT (uV 1) (mC (.str "left"))) (mC (.int 0))) (mC (.int 1))) (gIt (mOp sT (uV 1) (mC (.str "left"))) (mC (.int 0))))
 (fX (mBM oX O4 (uV 3) (O9 (fD (mN 3 (Z35)) (O9 (uV 0) (O9 (uV 1) (O9 (uV 2) JN)))) JN))))
 dF))
 (iE (fD (MI qY) (O9 (uV 3) JN)))))
def Z7M (Z6m:List W->M W) (Z35:List W->M W):Lo->M Oc:=
 (kO (IT 3 4 (O9 (fD (mN 2 Z99) (O9 (uV 0) (O9 (mC (.int 9)) JN))) (O9 (fD (mN 2 Z99) (O9 (uV 0) (O9 (mOp sT (uV 1) (mC (.str "many"))) JN))) JN)))
 (kO (O0 (fD (mN 3 (Z9d 6)) (O9 (uV 0) (O9 (mOp sT (uV 1) (mC (.str "many"))) (O9 (mOp (opS MY) (mC (.int 1)) (fD (mN 2 Z99) (O9 (uV 0) (O9 (mC (.int 4)) JN)))) JN)))) (fU 5))
 (kO (mIf (tW (mOp (opS λ_=>ltW) (uV 3) (mC (.int 4))))
 (iE (mOp ixM (fD aW (O9 (fD TZ (O9 (mC (.str "put")) (O9 (uV 4) (O9 (uV 5) JN)))) (O9 (fD TZ (O9 (mC (.str "add")) (O9 (uV 4) (O9 (uV 5) JN)))) (O9 (fD TZ (O9 (mC (.str "add")) (O9 (uV 4) (O9 (uV 5) JN)))) (O9 (fD TZ (O9 (mC (.str "swap")) (O9 (uV 4) (O9 (fD (mN 2 Z99) (O9 (uV 0) (O9 (mOp sT (uV 1) (mC (.str "many"))) JN))) JN)))) JN))))) (uV 3)))
 dF)
 (kO (mIf (tW (mOp (opS λS x y=>(eqW S x y).map W.bl) (uV 3) (mC (.int 4))))
 (iE (fD TZ (O9 (mC (.str "tell")) (O9 (uV 5) JN))))
 dF)
 (kO (mIf (MU (tW (mOp (opS λS x y=>(eqW S x y).map W.bl) (uV 3) (mC (.int 5)))) (tW (mOp (opS λS x y=>(eqW S x y).map W.bl) (uV 2) (mC (.int 0)))))
 (iE (fD (mN 2 Z9l) (O9 (uV 0) (O9 (uV 1) JN))))
 dF)
 (kO (O0 (fD (mN 3 (Z6m)) (O9 (uV 0) (O9 (uV 1) (O9 (mOp (opS λ_=>k6) (uV 2) (mC (.int 1))) JN)))) (fU 6))
 (iE (fD TZ (O9 (mC (.str "if")) (O9 (uV 5) (O9 (uV 6) (O9 (fD (mN 3 (Z6m)) (O9 (uV 0) (O9 (uV 1) (O9 (mOp (opS λ_=>k6) (uV 2) (mC (.int 1))) JN)))) JN))))))))))))
def ED:Nat->Fin 2->List W->M W
 | 0,_=>λ_=>GG
 | k+1,0=>IU WY 3 (Z8N (ED k 0) (ED k 1))
 | k+1,1=>IU xB 3 (Z7M (ED k 0) (ED k 1))
abbrev Z9q (k:Nat):List W->M W:=ED k 0
abbrev Z8P (k:Nat):List W->M W:=ED k 1
theorem ZT (T:Txt K G mg):∀ k:Nat,FnOk P w K mg base CX0 (9+k) T.US T.lN wB (spF K G 3 (ED k 0))/\FnOk P w K mg base CX0 (9+k) T.fQ T.BS Q6 (spF K G 3 (ED k 1))
 | 0=>⟨⟨λvs H Q E q=>MG q,λA outer s H args us vs Q E _ _ _ _ ⟨_,_,_,_,_,_,z⟩=>z.elim⟩,⟨λvs H Q E q=>MG q,λA outer s H args us vs Q E _ _ _ _ ⟨_,_,_,_,_,_,z⟩=>z.elim⟩⟩
 | k+1=>by
  obtain⟨Z5Z,Z3l⟩:=ZT T k
  refine⟨?_,?_⟩
  ·exact xK T.Z9q DT λcdv A outer s H E hr cx nd=>by
    have hr:Room (9+k) _:=hr
    exact(CJ (gT (i:=3) nd (X2 R5))
 (CJ (lQ cx (λ_=>PassesOwn.never) (x7 (λ_=>rfl) (λ_=>T.hY) (W4 (I0 (λ_=>(x9 (base:=base) T)) JY (λ_=>rmo hr) (λ_=>rfl) (λ_=>T.Z9V) (λ_=>T.Z99.kp) (λ_=>T.JV) (W4 (jW 0) (W4 JX R5))) R5)) (EW (i:=4) nd)
 (G9 (hV (cK (λ_=>op_gt) pT (N4 cx (XI cx (jW 1) WO (λ_ _=>rfl)) JX (λ_ _=>rfl)) JX (nomark _))
 (CJ (eJ (YH (λ_=>op_sub) HH (N4 cx (XI cx (jW 1) WO (λ_ _=>rfl)) JX (λ_ _=>rfl)) JX) (MZ (XI cx (jW 1) WO (λ_ _=>rfl)) JX))
 (G9 (wR (XM jp zb za (λ_=>mt_append) RB cx (jW 3) (W4 (I0 (λ_=>Z3l) JY (λ_=>rmo hr) (λ_=>rfl) (λ_=>T.Z7M) (λ_=>T.Z8P.kp) (λ_=>T.VM) (W4 (jW 0) (W4 (jW 1) (W4 (jW 2) R5)))) R5)))))
 YK)) (λ_ _ _ _ h1 h2 h3=>ps_for PassesOwn.never rfl h1 h2 h3))
 (G9 (kC (MR cx.tuple X3 (λ_=>rfl) (λ_=>T.DQ) qf (W4 (jW 3) R5))))))
  ·exact xK T.Z8P P3 λcdv A outer s H E hr cx nd=>by
    have hr:Room (9+k) _:=hr
    exact(CJ (D5 (i:=3) (j:=4) cx nd (λ_=>rfl) (λ_=>rfl) qg (λ_=>rfl) (λ_=>rfl) (W4 (I0 (λ_=>(x9 (base:=base) T)) JY (λ_=>rmo hr) (λ_=>rfl) (λ_=>T.Z9V) (λ_=>T.Z99.kp) (λ_=>T.JV) (W4 (jW 0) (W4 JX R5))) (W4 (I0 (λ_=>(x9 (base:=base) T)) JY (λ_=>rmo hr) (λ_=>rfl) (λ_=>T.Z9V) (λ_=>T.Z99.kp) (λ_=>T.JV) (W4 (jW 0) (W4 (XI cx (jW 1) WO (λ_ _=>rfl)) R5))) R5)) (λ_=>rfl))
 (CJ (gT (i:=5) nd (I0 (λ_=>(NC (base:=base) T 6)) JY (λ_=>rmo hr) (λ_=>rfl) (λ_=>T.Z75) (λ_=>T.Z9d.kp) (λ_=>T.I9) (W4 (jW 0) (W4 (XI cx (jW 1) WO (λ_ _=>rfl)) (W4 (YH cx.add eH JX (I0 (λ_=>(x9 (base:=base) T)) JY (λ_=>rmo hr) (λ_=>rfl) (λ_=>T.Z9V) (λ_=>T.Z99.kp) (λ_=>T.JV) (W4 (jW 0) (W4 JX R5)))) R5)))))
 (CJ (hV (cK (λ_=>op_lt) nQ (jW 3) JX (nomark _))
 (G9 (kC (N4 cx (CB (W4 (CC (W4 WO (W4 (jW 4) (W4 (jW 5) R5)))) (W4 (CC (W4 WO (W4 (jW 4) (W4 (jW 5) R5)))) (W4 (CC (W4 WO (W4 (jW 4) (W4 (jW 5) R5)))) (W4 (CC (W4 WO (W4 (jW 4) (W4 (I0 (λ_=>(x9 (base:=base) T)) JY (λ_=>rmo hr) (λ_=>rfl) (λ_=>T.Z9V) (λ_=>T.Z99.kp) (λ_=>T.JV) (W4 (jW 0) (W4 (XI cx (jW 1) WO (λ_ _=>rfl)) R5))) R5)))) R5))))) (jW 3) (λ_ _=>rfl))))
 YK)
 (CJ (hV (cK cx.eq SZ (jW 3) JX (nomark _))
 (G9 (kC (CC (W4 WO (W4 (jW 5) R5)))))
 YK)
 (CJ (hV (QW.qt (lK (cK cx.eq SZ (jW 3) JX (nomark _)) (OU (cK cx.eq SZ (jW 2) JX (nomark _)))))
 (G9 (kC (I0 (λ_=>(PU (base:=base) T)) JY (λ_=>rmo hr) (λ_=>rfl) (λ_=>T.Z7L) (λ_=>T.Z9l.kp) (λ_=>T.gC) (W4 (jW 0) (W4 (jW 1) R5)))))
 YK)
 (CJ (gT (i:=6) nd (I0 (λ_=>Z5Z) JY (λ_=>rmo hr) (λ_=>rfl) (λ_=>T.Z8N) (λ_=>T.Z9q.kp) (λ_=>T.uD) (W4 (jW 0) (W4 (jW 1) (W4 (YH (λ_=>op_sub) HH (jW 2) JX) R5)))))
 (G9 (kC (CC (W4 WO (W4 (jW 5) (W4 (jW 6) (W4 (I0 (λ_=>Z5Z) JY (λ_=>rmo hr) (λ_=>rfl) (λ_=>T.Z8N) (λ_=>T.Z9q.kp) (λ_=>T.uD) (W4 (jW 0) (W4 (jW 1) (W4 (YH (λ_=>op_sub) HH (jW 2) JX) R5)))) R5)))))))))))))
theorem hZ (T:Txt K G mg) (k:Nat):FnOk P w K mg base CX0 (9+k) T.US T.lN wB (spF K G 3 (Z9q k)):=(ZT (base:=base) T k).1
def Z74  : Lo->M Oc:=
 (kO (O0 (fD LU JN) (fU 2))
 (kO (GN (pD (mOp sT (uV 1) (mC (.str "kinds")))) (fU 3)
 (mIf (tW (mOp (opS λ_=>gtW) (fD (mN 2 Z99) (O9 (uV 0) (O9 (mC (.int 5)) JN))) (mC (.int 0))))
 (kO (O0 (mC (.int 11)) (gIt (mOp sT (uV 1) (mC (.str "left"))) (mC (.int 0))))
 (kO (O0 (oF (tW (mOp (opS λS x y=>(eqW S x y).map W.bl) (fD (mN 2 Z99) (O9 (uV 0) (O9 (mC (.int 2)) JN))) (mC (.int 0)))) (fD TZ (O9 (fD (mN 2 Z9l) (O9 (uV 0) (O9 (uV 1) JN))) JN)) (fD TZ JN)) (fU 4))
 (fX (mBM oX O4 (uV 2) (O9 (fD TZ (O9 (uV 3) (O9 (mOp (opS MY) (uV 4) (fD (mN 3 (Z9q 10)) (O9 (uV 0) (O9 (uV 1) (O9 (mC (.int 3)) JN))))) JN))) JN)))))
 dF))
 (iE (fD (MI qY) (O9 (uV 2) JN)))))
def Z9k:List W->M W:=IU FM 2 Z74
theorem LO (T:Txt K G mg):FnOk P w K mg base CX0 20 T.yA T.G5 UE (spF K G 2 Z9k):=
 xK T.Z9k pR λ_ _ _ _ _ _ hr cx nd=>(CJ (gT (i:=2) nd (X2 R5))
 (CJ (lQ cx (λ_=>PassesOwn.never) (n8 cx (XI cx (jW 1) WO (λ_ _=>rfl))) (EW (i:=3) nd)
 (G9 (hV (cK (λ_=>op_gt) pT (I0 (λ_=>(x9 (base:=base) T)) JY (λ_=>rmo hr) (λ_=>rfl) (λ_=>T.Z9V) (λ_=>T.Z99.kp) (λ_=>T.JV) (W4 (jW 0) (W4 JX R5))) JX (nomark _))
 (CJ (eJ JX (MZ (XI cx (jW 1) WO (λ_ _=>rfl)) JX))
 (CJ (gT (i:=4) nd (nR (cK cx.eq SZ (I0 (λ_=>(x9 (base:=base) T)) JY (λ_=>rmo hr) (λ_=>rfl) (λ_=>T.Z9V) (λ_=>T.Z99.kp) (λ_=>T.JV) (W4 (jW 0) (W4 JX R5))) JX (nomark _)) (CC (W4 (I0 (λ_=>(PU (base:=base) T)) JY (λ_=>rmo hr) (λ_=>rfl) (λ_=>T.Z7L) (λ_=>T.Z9l.kp) (λ_=>T.gC) (W4 (jW 0) (W4 (jW 1) R5))) R5)) (CC R5)))
 (G9 (wR (XM jp zb za (λ_=>mt_append) RB cx (jW 2) (W4 (CC (W4 (jW 3) (W4 (YH cx.add eH (jW 4) (I0 (λ_=>(hZ (base:=base) T 10)) JY (λ_=>rmo hr) (λ_=>rfl) (λ_=>T.Z8N) (λ_=>T.Z9q.kp) (λ_=>T.uD) (W4 (jW 0) (W4 (jW 1) (W4 JX R5))))) R5))) R5))))))
 YK)) (λ_ _ _ _ h1 h2 h3=>ps_for PassesOwn.never rfl h1 h2 h3))
 (G9 (kC (MR cx.tuple X3 (λ_=>rfl) (λ_=>T.DQ) qf (W4 (jW 2) R5))))))
def Z59  : Lo->M Oc:=
 (kO (IT 2 3 (O9 (fD (mN 2 Z9x) (O9 (uV 0) (O9 (mOp (opS MY) (mC (.int 1)) (fD (mN 2 Z99) (O9 (uV 0) (O9 (uV 1) JN)))) JN))) (O9 (fD (mN 2 Z9x) (O9 (uV 0) (O9 (mOp (opS MY) (mC (.int 2)) (fD (mN 2 Z99) (O9 (uV 0) (O9 (mC (.int 4)) JN)))) JN))) JN)))
 (kO (O0 (fD LU JN) (fU 4))
 (kO (GN (pD (uV 2)) (fU 5)
 (kO (O0 (mOp (opS MY) (mC (.int 1)) (fD (mN 2 Z99) (O9 (uV 0) (O9 (mC (.int 4)) JN)))) (fU 6))
 (kO (O0 (KZ [((mC (.str "many")),(uV 6)),((mC (.str "places")),(uV 2)),((mC (.str "kinds")),(mSl (uV 3) (dZ (mC (.int 1))) JA)),((mC (.str "left")),(fD LU (O9 (mC (.int 0)) JN)))]) (fU 7))
 (fX (mBM oX O4 (uV 4) (O9 (fD TZ (O9 (uV 5) (O9 (fD (MI qY) (O9 (wK VR (itR1 (O9 (uV 6) JN)) (fU 8) dJ (fD (mN 1 Z9E) (O9 (uV 0) JN)) [8]) JN)) (O9 (fD (mN 2 Z9k) (O9 (uV 0) (O9 (uV 7) JN))) JN)))) JN))))))
 (iE (fD TZ (O9 (uV 4) (O9 (uV 3) JN)))))))
def Z8H:List W->M W:=IU OI 2 Z59
theorem xAY (T:Txt K G mg):FnOk P w K mg base CX0 21 T.AL T.W2 j8 (spF K G 2 Z8H):=
 xK T.Z8H zR λ_ _ _ _ _ _ hr cx nd=>(CJ (D5 (i:=2) (j:=3) cx nd (λ_=>rfl) (λ_=>rfl) qg (λ_=>rfl) (λ_=>rfl) (W4 (I0 (λ_=>(vG (base:=base) T)) JY (λ_=>rmo hr) (λ_=>rfl) (λ_=>T.Z8F) (λ_=>T.Z9x.kp) (λ_=>T.F0) (W4 (jW 0) (W4 (YH cx.add eH JX (I0 (λ_=>(x9 (base:=base) T)) JY (λ_=>rmo hr) (λ_=>rfl) (λ_=>T.Z9V) (λ_=>T.Z99.kp) (λ_=>T.JV) (W4 (jW 0) (W4 (jW 1) R5)))) R5))) (W4 (I0 (λ_=>(vG (base:=base) T)) JY (λ_=>rmo hr) (λ_=>rfl) (λ_=>T.Z8F) (λ_=>T.Z9x.kp) (λ_=>T.F0) (W4 (jW 0) (W4 (YH cx.add eH JX (I0 (λ_=>(x9 (base:=base) T)) JY (λ_=>rmo hr) (λ_=>rfl) (λ_=>T.Z9V) (λ_=>T.Z99.kp) (λ_=>T.JV) (W4 (jW 0) (W4 JX R5)))) R5))) R5)) (λ_=>rfl))
 (CJ (gT (i:=4) nd (X2 R5))
 (CJ (lQ cx (λ_=>PassesOwn.never) (n8 cx (jW 2)) (EW (i:=5) nd)
 (CJ (gT (i:=6) nd (YH cx.add eH JX (I0 (λ_=>(x9 (base:=base) T)) JY (λ_=>rmo hr) (λ_=>rfl) (λ_=>T.Z9V) (λ_=>T.Z99.kp) (λ_=>T.JV) (W4 (jW 0) (W4 JX R5)))))
 (CJ (gT (i:=7) nd (AX (VD WO (jW 6) (VD WO (jW 2) (VD WO (D2 cx (jW 3) (fH JX) BW) (VD WO (X2 (W4 JX R5)) D4)))) (by rfl) (by rfl) (λz=>by cases z) qg))
 (G9 (wR (XM jp zb za (λ_=>mt_append) RB cx (jW 4) (W4 (CC (W4 (jW 5) (W4 (MR cx.tuple X3 (λ_=>rfl) (λ_=>T.DQ) qf (W4 (KB (own:=[("_law_k",8)]) qL cx (λ_=>zR.nd) (x7 (λ_=>rfl) (λ_=>T.hY) (W4 (jW 6) R5)) (λ_=>blkOk_by (own:=[("_law_k",8)]) (N:=OI) (sc:=defScope NA) qf) (EW (i:=8) λ_=>zR.nd) fE (I0 (λ_=>(kI (base:=base) T)) JY (λ_=>rmo hr) (λ_=>rfl) (λ_=>T.Z8G) (λ_=>T.Z9E.kp) (λ_=>T.LR) (W4 (jW 0) R5)) qg) R5)) (W4 (I0 (λ_=>(LO (base:=base) T)) JY (λ_=>rmo hr) (λ_=>rfl) (λ_=>T.Z74) (λ_=>T.Z9k.kp) (λ_=>T.dP) (W4 (jW 0) (W4 (jW 7) R5))) R5)))) R5)))))) (λ_ _ _ _ h1 h2 h3=>ps_for PassesOwn.never rfl h1 h2 h3))
 (G9 (kC (CC (W4 (jW 4) (W4 (jW 3) R5))))))))
end
section
variable {P:Program} {w:World} {K:qk} {G:Str->Addr} {mg:Str->Option Value} {base:Heap} [TabsB base mg (NJ K)]
def Z8t  : Lo->M Oc:=
 (iE (fD (nV "Plan" 2 Z9N) (O9 (wK VR (pD (uV 0)) (gTu 3 (gCo (fU 1) (gCo (fU 2) (gCo (fU 3) gNo)))) dJ (fD (nV "House" 4 Z9O) (O9 (uV 1) (O9 (uV 2) (O9 (uV 3) JN)))) [1,2,3]) JN)))
def Z9u:List W->M W:=IU BL 1 Z8t
theorem LA (T:Txt K G mg):FnOk P w K mg base CX0 11 T.tD T.Y4 zX (spF K G 1 Z9u):=
 xK T.Z9u UR λ_ _ _ _ _ _ hr cx nd=>(G9 (kC (UI T.tL (λ_=>T.cJ) (λ_=>(hE (base:=base) T)) (RN T.tL) (λ_=>rmo hr) (λ_=>rfl) (λ_=>T.uH) (λ_=>T.FU) (W4 (KB (own:=[("_law_name",1),("_law_held",2),("_law_rules_here",3)]) qL cx (λ_=>UR.nd) (n8 cx (jW 0)) (λ_=>blkOk_by (own:=[("_law_name",1),("_law_held",2),("_law_rules_here",3)]) (N:=BL) (sc:=defScope dM) qf) (oR (Ctx.blk cx) (AF (EW (i:=1) λ_=>UR.nd) (AF (EW (i:=2) λ_=>UR.nd) (AF (EW (i:=3) λ_=>UR.nd) y7)))) fE (UI T.KN (λ_=>T.BP) (λ_=>(jE (base:=base) T)) (RN T.KN) (λ_=>rmo hr) (λ_=>rfl) (λ_=>T.Y3) (λ_=>T.cU) (W4 (jW 1) (W4 (jW 2) (W4 (jW 3) R5)))) qg) R5))))
def Z8I  : Lo->M Oc:=
 (kO (O0 (uV 1) (gTu 4 (gCo (fU 2) (gCo (fU 3) (gCo (fU 4) (gCo (fU 5) gNo))))))
 (kO (O0 (fD aW (O9 (mSl (uV 1) JA (dZ (mC (.int 3)))) (O9 (mOp (opS MY) (uV 1) (fD TZ (O9 (mC (.int 1)) JN))) (O9 (fD (MI ERK) (O9 (uV 1) JN)) (O9 (mC .non) (O9 (mC (.int 5)) (O9 (mC (.str "")) (O9 (fD TZ JN) (O9 (fD TZ (O9 (mC (.int 0)) (O9 (uV 3) (O9 (uV 4) (O9 (uV 5) JN))))) (O9 (fD TZ (O9 (mC (.int 1001)) (O9 (uV 3) (O9 (uV 4) (O9 (uV 5) JN))))) JN)))))))))) (fU 6))
 (kO (O0 (mOp (opS MY) (uV 6) (fD aW (O9 (fD TZ (O9 (mC (.bl true)) (O9 (uV 3) (O9 (uV 4) (O9 (uV 5) JN))))) (O9 (fD TZ (O9 (fD (MI λ_=>bGV) (O9 (uV 2) JN)) (O9 (uV 3) (O9 (uV 4) (O9 (uV 5) JN))))) (O9 (fD TZ (O9 (uV 2) (O9 (mC (.str "zzzzzzz")) (O9 (uV 4) (O9 (uV 5) JN))))) JN))))) (fU 6))
 (kO (O0 (mOp (opS MY) (uV 6) (fD aW (O9 (fD TZ (O9 (uV 2) (O9 (mC .non) (O9 (uV 4) (O9 (uV 5) JN))))) (O9 (fD TZ (O9 (uV 2) (O9 (fD aW (O9 (uV 3) JN)) (O9 (uV 4) (O9 (uV 5) JN))))) (O9 (fD TZ (O9 (uV 2) (O9 (uV 3) (O9 (mC (.str "")) (O9 (uV 5) JN))))) JN))))) (fU 6))
 (kO (O0 (mOp (opS MY) (uV 6) (fD aW (O9 (fD TZ (O9 (uV 2) (O9 (uV 3) (O9 (mC (.str "abcdefg")) (O9 (uV 5) JN))))) (O9 (fD TZ (O9 (uV 2) (O9 (uV 3) (O9 (mC (.str "Ab")) (O9 (uV 5) JN))))) (O9 (fD TZ (O9 (uV 2) (O9 (uV 3) (O9 (mC (.int 3)) (O9 (uV 5) JN))))) JN))))) (fU 6))
 (kO (O0 (mOp (opS MY) (uV 6) (fD aW (O9 (fD TZ (O9 (uV 2) (O9 (uV 3) (O9 (uV 4) (O9 (mC (.int (-1))) JN))))) (O9 (fD TZ (O9 (uV 2) (O9 (uV 3) (O9 (uV 4) (O9 (mC (.int 1000003)) JN))))) (O9 (fD TZ (O9 (uV 2) (O9 (uV 3) (O9 (uV 4) (O9 (mC (.bl true)) JN))))) JN))))) (fU 6))
 (iE (fD (mN 2 Z90) (O9 (uV 0) (O9 (mOp (opS MY) (uV 6) (fD aW (O9 (fD TZ (O9 (uV 2) (O9 (uV 3) (O9 (uV 4) (O9 (mC .non) JN))))) (O9 (fD TZ (O9 (uV 2) (O9 (uV 3) (O9 (mC (.str "a1")) (O9 (uV 5) JN))))) (O9 (fD TZ (O9 (j6w (uV 2)) (O9 (uV 3) (O9 (uV 4) (O9 (uV 5) JN))))) JN))))) JN))))))))))
def Z9D:List W->M W:=IU X5 2 Z8I
theorem bF (T:Txt K G mg):FnOk P w K mg base CX0 3 T.eB T.vE K9 (spF K G 2 Z9D):=
 xK T.Z9D bR λ_ _ _ _ _ _ hr cx nd=>(CJ (eJ (jW 1) (oR cx (AF (EW (i:=2) nd) (AF (EW (i:=3) nd) (AF (EW (i:=4) nd) (AF (EW (i:=5) nd) y7))))))
 (CJ (gT (i:=6) nd (CB (W4 (D2 cx (jW 1) BW (fH JX)) (W4 (YH cx.add eH (jW 1) (CC (W4 JX R5))) (W4 (MR cx.list VL (λ_=>rfl) (λ_=>T.YD) qf (W4 (jW 1) R5)) (W4 LS (W4 JX (W4 WO (W4 (CC R5) (W4 (CC (W4 JX (W4 (jW 3) (W4 (jW 4) (W4 (jW 5) R5))))) (W4 (CC (W4 JX (W4 (jW 3) (W4 (jW 4) (W4 (jW 5) R5))))) R5)))))))))))
 (CJ (gT (i:=6) nd (YH cx.add eH (jW 6) (CB (W4 (CC (W4 O5 (W4 (jW 3) (W4 (jW 4) (W4 (jW 5) R5))))) (W4 (CC (W4 (MR (λ_=>CFz) PLs (λ_=>rfl) (λ_=>T.xQ) qf (W4 (jW 2) R5)) (W4 (jW 3) (W4 (jW 4) (W4 (jW 5) R5))))) (W4 (CC (W4 (jW 2) (W4 WO (W4 (jW 4) (W4 (jW 5) R5))))) R5))))))
 (CJ (gT (i:=6) nd (YH cx.add eH (jW 6) (CB (W4 (CC (W4 (jW 2) (W4 LS (W4 (jW 4) (W4 (jW 5) R5))))) (W4 (CC (W4 (jW 2) (W4 (CB (W4 (jW 3) R5)) (W4 (jW 4) (W4 (jW 5) R5))))) (W4 (CC (W4 (jW 2) (W4 (jW 3) (W4 WO (W4 (jW 5) R5))))) R5))))))
 (CJ (gT (i:=6) nd (YH cx.add eH (jW 6) (CB (W4 (CC (W4 (jW 2) (W4 (jW 3) (W4 WO (W4 (jW 5) R5))))) (W4 (CC (W4 (jW 2) (W4 (jW 3) (W4 WO (W4 (jW 5) R5))))) (W4 (CC (W4 (jW 2) (W4 (jW 3) (W4 JX (W4 (jW 5) R5))))) R5))))))
 (CJ (gT (i:=6) nd (YH cx.add eH (jW 6) (CB (W4 (CC (W4 (jW 2) (W4 (jW 3) (W4 (jW 4) (W4 XW R5))))) (W4 (CC (W4 (jW 2) (W4 (jW 3) (W4 (jW 4) (W4 (NX (λ_=>rfl) (λ_=>T.E7) T.r_MODULUS (λ_ _=>.int _)) R5))))) (W4 (CC (W4 (jW 2) (W4 (jW 3) (W4 (jW 4) (W4 O5 R5))))) R5))))))
 (G9 (kC (I0 (λ_=>(D3 (base:=base) T)) JY (λ_=>rmo hr) (λ_=>rfl) (λ_=>T.Z9n) (λ_=>T.Z90.kp) (λ_=>T.sY) (W4 (jW 0) (W4 (YH cx.add eH (jW 6) (CB (W4 (CC (W4 (jW 2) (W4 (jW 3) (W4 (jW 4) (W4 LS R5))))) (W4 (CC (W4 (jW 2) (W4 (jW 3) (W4 WO (W4 (jW 5) R5))))) (W4 (CC (W4 (M1f (jW 2)) (W4 (jW 3) (W4 (jW 4) (W4 (jW 5) R5))))) R5))))) R5)))))))))))
def hI:Lo->M Oc:=
 (kO (mIf (tW (mOp (opS λ_ x y=>match y with | .non=>v6j x | _=>none) (uV 1) (mC .non)))
 (iE (mC .non))
 dF)
 (kO (O0 (fD aW (O9 (fD (MI λ_=>rQ ["NoFirst", "NoChoice", "NoHouse", "TooMany"] ["NoFirst", "NoChoice", "NoHouse", "TooMany", "Idle", "NoLog", "NoPlace", "NoPlan", "NoRoom", "NoText", "TooFar"]) (O9 (uV 1) (O9 (mC (.cls "NoFirst")) JN))) (O9 (fD (MI λ_=>rQ ["NoFirst", "NoChoice", "NoHouse", "TooMany"] ["NoFirst", "NoChoice", "NoHouse", "TooMany", "Idle", "NoLog", "NoPlace", "NoPlan", "NoRoom", "NoText", "TooFar"]) (O9 (uV 1) (O9 (mC (.cls "NoChoice")) JN))) (O9 (fD (MI λ_=>rQ ["NoFirst", "NoChoice", "NoHouse", "TooMany"] ["NoFirst", "NoChoice", "NoHouse", "TooMany", "Idle", "NoLog", "NoPlace", "NoPlan", "NoRoom", "NoText", "TooFar"]) (O9 (uV 1) (O9 (mC (.cls "NoHouse")) JN))) (O9 (fD (MI λ_=>rQ ["NoFirst", "NoChoice", "NoHouse", "TooMany"] ["NoFirst", "NoChoice", "NoHouse", "TooMany", "Idle", "NoLog", "NoPlace", "NoPlan", "NoRoom", "NoText", "TooFar"]) (O9 (uV 1) (O9 (mC (.cls "TooMany")) JN))) JN))))) (fU 3))
 (kO (mIf (MU (YG (fD (MI λ_=>rQ ["NoFirst", "NoChoice", "NoHouse", "TooMany"] ["NoFirst", "NoChoice", "NoHouse", "TooMany", "Idle", "NoLog", "NoPlace", "NoPlan", "NoRoom", "NoText", "TooFar"]) (O9 (uV 1) (O9 (fD TZ (O9 (mC (.cls "Idle")) (O9 (mC (.cls "NoLog")) (O9 (mC (.cls "NoPlace")) (O9 (mC (.cls "NoPlan")) (O9 (mC (.cls "NoRoom")) (O9 (mC (.cls "NoText")) (O9 (mC (.cls "TooFar")) JN)))))))) JN)))) (o0 (YG (fD (MI λ_=>rQ ["NoFirst", "NoChoice", "NoHouse", "TooMany"] ["NoFirst", "NoChoice", "NoHouse", "TooMany", "Idle", "NoLog", "NoPlace", "NoPlan", "NoRoom", "NoText", "TooFar"]) (O9 (uV 1) (O9 (mC (.ty "ValueError")) JN))))))
 (iE (fD TZ (O9 (mC (.str "other")) JN)))
 dF)
 (kO (mIf (tW (mOp (opS λS x y=>(eqW S x y).map λb=>W.bl (!b)) (mBM oX RY (uV 3) (O9 (mC (.bl true)) JN)) (mC (.int 1))))
 (iE (fD TZ (O9 (mC (.str "other")) JN)))
 dF)
 (kO (mIf (YG (mOp ixM (uV 3) (mC (.int 0))))
 (iE (fD TZ (O9 (mC (.str "first")) (O9 (RH ["NoFirst", "NoChoice", "NoHouse", "TooMany"] "at" (uV 1)) JN))))
 dF)
 (kO (mIf (YG (mOp ixM (uV 3) (mC (.int 1))))
 (iE (fD TZ (O9 (mC (.str "choice")) (O9 (RH ["NoFirst", "NoChoice", "NoHouse", "TooMany"] "word" (uV 1)) JN))))
 dF)
 (iE (oF (YG (mOp ixM (uV 3) (mC (.int 2)))) (fD TZ (O9 (mC (.str "house")) (O9 (RH ["NoFirst", "NoChoice", "NoHouse", "TooMany"] "name" (uV 1)) JN))) (fD TZ (O9 (mC (.str "many")) (O9 (RH ["NoFirst", "NoChoice", "NoHouse", "TooMany"] "most" (uV 1)) JN)))))))))))
def Z8v  : Lo->M Oc:=
 (kO (O0 (fD LU JN) (fU 3))
 (kO (GN (itR1 (O9 (fD (mN 2 Z99) (O9 (uV 0) (O9 (mC (.int 9)) JN))) JN)) (fU 4)
 (kO (O0 (mOp ixM (fD aW (O9 (mC (.int 1)) (O9 (mC (.int 1000)) (O9 (mOp (opS MY) (mC (.int 1)) (fD (mN 2 Z99) (O9 (uV 0) (O9 (mC (.int 1000)) JN)))) JN)))) (fD (mN 2 Z99) (O9 (uV 0) (O9 (mC (.int 3)) JN)))) (fU 5))
 (fX (mBM oX O4 (uV 3) (O9 (fD TZ (O9 (uV 5) (O9 (mOp ixM (fD (mN 2 Z90) (O9 (uV 0) (O9 (uV 1) JN))) (mC (.int 0))) (O9 (fD (mN 2 Z90) (O9 (uV 0) (O9 (uV 2) JN))) (O9 (fD (mN 1 Z9E) (O9 (uV 0) JN)) JN))))) JN)))))
 (kO (O0 (fD TZ (O9 (mC .non) (O9 (mOp ixM (fD aW (O9 (mC (.int 1)) (O9 (mC (.int 60)) (O9 (mC (.int 1000)) (O9 (mOp (opS MY) (mC (.int 1)) (fD (mN 2 Z99) (O9 (uV 0) (O9 (mC (.int 1000)) JN)))) JN))))) (fD (mN 2 Z99) (O9 (uV 0) (O9 (mC (.int 4)) JN)))) JN))) (gTu 2 (gCo (fU 6) (gCo (fU 7) gNo))))
 (kO (mIf (tW (mOp (opS λS x y=>(eqW S x y).map W.bl) (fD (mN 2 Z99) (O9 (uV 0) (O9 (mC (.int 3)) JN))) (mC (.int 0))))
 (kO (O0 (fD (mN 2 Z90) (O9 (uV 0) (O9 (fD aW (O9 (mC (.int 0)) (O9 (mC (.int 1001)) (O9 (mC (.int (-1))) (O9 (mC (.bl true)) (O9 (mC .non) (O9 (mC (.str "60")) (O9 (fD aW (O9 (mC (.int 60)) JN)) (O9 (mOp (opS λ_=>sE) (mC (.int 10)) (mC (.int 9))) JN))))))))) JN))) (fU 7))
 (O0 (fD TZ (O9 (mC (.str "choice")) (O9 (mC (.str "until")) JN))) (fU 6)))
 dF)
 (kO (mIf (KP (tW (mOp (opS λS x y=>(eqW S x y).map λb=>W.bl (!b)) (uV 3) (fD LU JN))) (tW (mOp (opS λS x y=>(eqW S x y).map W.bl) (fD (mN 2 Z99) (O9 (uV 0) (O9 (mC (.int 2)) JN))) (mC (.int 0)))))
 (kO (IT 8 9 (O9 (fD (mN 2 Z99) (O9 (uV 0) (O9 (fD (MI eP) (O9 (uV 3) JN)) JN))) (O9 (fD (mN 2 Z99) (O9 (uV 0) (O9 (fD (MI eP) (O9 (uV 3) JN)) JN))) JN)))
 (kO (O0 (fD (AT 2 Z9D) (O9 (uV 0) (O9 (mOp ixM (uV 3) (fD (MI λ_=>KH) (O9 (uV 8) (O9 (uV 9) JN)))) JN))) (gIt (uV 3) (fD (MI λ_=>KH) (O9 (uV 8) (O9 (uV 9) JN)))))
 (kO (O0 (oF (tW (mOp (opS λ_=>ltW) (uV 8) (uV 9))) (fD (AT 2 Z9D) (O9 (uV 0) (O9 (mOp ixM (uV 3) (uV 8)) JN))) (mOp ixM (uV 3) (uV 8))) (gIt (uV 3) (uV 8)))
 (O0 (fD TZ (O9 (mC (.str "first")) (O9 (uV 8) JN))) (fU 6)))))
 dF)
 (kO (mIf (tW (mOp (opS λS x y=>(eqW S x y).map W.bl) (fD (mN 2 Z99) (O9 (uV 0) (O9 (mC (.int 6)) JN))) (mC (.int 0))))
 (O0 (fD TZ (O9 (fD (mN 2 Z90) (O9 (uV 0) (O9 (fD aW (O9 (mC .non) (O9 (mC (.int 5)) (O9 (mC (.str "")) (O9 (mC (.dk [] [])) (O9 (mC (.bl true)) JN)))))) JN))) (O9 (fD TZ (O9 (mC (.str "first")) (O9 (mC (.int 0)) JN))) JN))) (gTu 2 (gCo (fU 3) (gCo (fU 6) gNo))))
 dF)
 (iE (mOp (opS λS x y=>(eqW S x y).map W.bl) (vV ["NoFirst", "NoChoice", "NoHouse", "TooMany"] (HN 2 1 [0,1,2] [] (G4 "Plain" 4 Z9Z) (O9 (fD (H0 1 Z9u) (O9 (uV 1) JN)) (O9 (uV 3) JN)) (O9 (uV 7) JN)) (IH hI)) (uV 6)))))))))
def Z9s:List W->M W:=IU LZ 3 Z8v
theorem sK (T:Txt K G mg):FnOk P w K mg base CX0 15 T.vX T.WU qS (spF K G 3 Z9s):=
 bZ T.Z9s T.Z7E vF λA outer s H E hr=>by
  have cx:=lA (P:=P) (w:=w) (K:=K) (mg:=mg) (base:=base) (N:=LZ) (outer:=outer) (H:=H) (E:=E) hr
  exact(CJ (gT (i:=3) (λ_=>vF.nd) (X2 R5))
 (CJ (lQ cx (λ_=>PassesOwn.never) (x7 (λ_=>rfl) (λ_=>T.hY) (W4 (I0 (λ_=>(x9 (base:=base) T)) JY (λ_=>rmo hr) (λ_=>rfl) (λ_=>T.Z9V) (λ_=>T.Z99.kp) (λ_=>T.JV) (W4 (jW 0) (W4 JX R5))) R5)) (EW (i:=4) (λ_=>vF.nd))
 (CJ (gT (i:=5) (λ_=>vF.nd) (N4 cx (CB (W4 JX (W4 JX (W4 (YH cx.add eH JX (I0 (λ_=>(x9 (base:=base) T)) JY (λ_=>rmo hr) (λ_=>rfl) (λ_=>T.Z9V) (λ_=>T.Z99.kp) (λ_=>T.JV) (W4 (jW 0) (W4 JX R5)))) R5)))) (I0 (λ_=>(x9 (base:=base) T)) JY (λ_=>rmo hr) (λ_=>rfl) (λ_=>T.Z9V) (λ_=>T.Z99.kp) (λ_=>T.JV) (W4 (jW 0) (W4 JX R5))) (λ_ _=>rfl)))
 (G9 (wR (XM jp zb za (λ_=>mt_append) RB cx (jW 3) (W4 (CC (W4 (jW 5) (W4 (N4 cx (I0 (λ_=>(D3 (base:=base) T)) JY (λ_=>rmo hr) (λ_=>rfl) (λ_=>T.Z9n) (λ_=>T.Z90.kp) (λ_=>T.sY) (W4 (jW 0) (W4 (jW 1) R5))) JX (λ_ _=>rfl)) (W4 (I0 (λ_=>(D3 (base:=base) T)) JY (λ_=>rmo hr) (λ_=>rfl) (λ_=>T.Z9n) (λ_=>T.Z90.kp) (λ_=>T.sY) (W4 (jW 0) (W4 (jW 2) R5))) (W4 (I0 (λ_=>(kI (base:=base) T)) JY (λ_=>rmo hr) (λ_=>rfl) (λ_=>T.Z8G) (λ_=>T.Z9E.kp) (λ_=>T.LR) (W4 (jW 0) R5)) R5))))) R5))))) (λ_ _ _ _ h1 h2 h3=>ps_for PassesOwn.never rfl h1 h2 h3))
 (CJ (eJ (CC (W4 LS (W4 (N4 cx (CB (W4 JX (W4 JX (W4 JX (W4 (YH cx.add eH JX (I0 (λ_=>(x9 (base:=base) T)) JY (λ_=>rmo hr) (λ_=>rfl) (λ_=>T.Z9V) (λ_=>T.Z99.kp) (λ_=>T.JV) (W4 (jW 0) (W4 JX R5)))) R5))))) (I0 (λ_=>(x9 (base:=base) T)) JY (λ_=>rmo hr) (λ_=>rfl) (λ_=>T.Z9V) (λ_=>T.Z99.kp) (λ_=>T.JV) (W4 (jW 0) (W4 JX R5))) (λ_ _=>rfl)) R5))) (oR cx (AF (EW (i:=6) (λ_=>vF.nd)) (AF (EW (i:=7) (λ_=>vF.nd)) y7))))
 (CJ (hV (cK cx.eq SZ (I0 (λ_=>(x9 (base:=base) T)) JY (λ_=>rmo hr) (λ_=>rfl) (λ_=>T.Z9V) (λ_=>T.Z99.kp) (λ_=>T.JV) (W4 (jW 0) (W4 JX R5))) JX (nomark _))
 (CJ (gT (i:=7) (λ_=>vF.nd) (I0 (λ_=>(D3 (base:=base) T)) JY (λ_=>rmo hr) (λ_=>rfl) (λ_=>T.Z9n) (λ_=>T.Z90.kp) (λ_=>T.sY) (W4 (jW 0) (W4 (CB (W4 JX (W4 JX (W4 XW (W4 O5 (W4 LS (W4 WO (W4 (CB (W4 JX R5)) (W4 (YH (λ_=>op_pow) EU JX JX) R5))))))))) R5))))
 (G9 (gT (i:=6) (λ_=>vF.nd) (CC (W4 WO (W4 WO R5))))))
 YK)
 (CJ (hV (QW.qt (UF (cK cx.ne QM (jW 3) (X2 R5) (nomark _)) (mM (cK cx.eq SZ (I0 (λ_=>(x9 (base:=base) T)) JY (λ_=>rmo hr) (λ_=>rfl) (λ_=>T.Z9V) (λ_=>T.Z99.kp) (λ_=>T.JV) (W4 (jW 0) (W4 JX R5))) JX (nomark _)))))
 (CJ (D5 (i:=8) (j:=9) cx (λ_=>vF.nd) (λ_=>rfl) (λ_=>rfl) qg (λ_=>rfl) (λ_=>rfl) (W4 (I0 (λ_=>(x9 (base:=base) T)) JY (λ_=>rmo hr) (λ_=>rfl) (λ_=>T.Z9V) (λ_=>T.Z99.kp) (λ_=>T.JV) (W4 (jW 0) (W4 (bK cx.len Y8 (λ_=>rfl) (λ_=>T.jD) qf (W4 (jW 3) R5)) R5))) (W4 (I0 (λ_=>(x9 (base:=base) T)) JY (λ_=>rmo hr) (λ_=>rfl) (λ_=>T.Z9V) (λ_=>T.Z99.kp) (λ_=>T.JV) (W4 (jW 0) (W4 (bK cx.len Y8 (λ_=>rfl) (λ_=>T.jD) qf (W4 (jW 3) R5)) R5))) R5)) (λ_=>rfl))
 (CJ (eJ (I0 (λ_=>(bF (base:=base) T)) FB (λ_=>rmo hr) (λ_=>rfl) (λ_=>T.Z8I) (λ_=>T.Z9D.kp) (λ_=>T.OV) (W4 (jW 0) (W4 (N4 cx (jW 3) (bK cx.max2 aS (λ_=>rfl) (λ_=>T.WM) qf (W4 (jW 8) (W4 (jW 9) R5))) (λ_ _=>rfl)) R5))) (MZ (jW 3) (bK cx.max2 aS (λ_=>rfl) (λ_=>T.WM) qf (W4 (jW 8) (W4 (jW 9) R5)))))
 (CJ (eJ (nR (cK (λ_=>op_lt) nQ (jW 8) (jW 9) (nomark _)) (I0 (λ_=>(bF (base:=base) T)) FB (λ_=>rmo hr) (λ_=>rfl) (λ_=>T.Z8I) (λ_=>T.Z9D.kp) (λ_=>T.OV) (W4 (jW 0) (W4 (N4 cx (jW 3) (jW 8) (λ_ _=>rfl)) R5))) (N4 cx (jW 3) (jW 8) (λ_ _=>rfl))) (MZ (jW 3) (jW 8)))
 (G9 (gT (i:=6) (λ_=>vF.nd) (CC (W4 WO (W4 (jW 8) R5))))))))
 YK)
 (CJ (hV (cK cx.eq SZ (I0 (λ_=>(x9 (base:=base) T)) JY (λ_=>rmo hr) (λ_=>rfl) (λ_=>T.Z9V) (λ_=>T.Z99.kp) (λ_=>T.JV) (W4 (jW 0) (W4 JX R5))) JX (nomark _))
 (G9 (eJ (CC (W4 (I0 (λ_=>(D3 (base:=base) T)) JY (λ_=>rmo hr) (λ_=>rfl) (λ_=>T.Z9n) (λ_=>T.Z90.kp) (λ_=>T.sY) (W4 (jW 0) (W4 (CB (W4 LS (W4 JX (W4 WO (W4 PIa (W4 O5 R5)))))) R5))) (W4 (CC (W4 WO (W4 JX R5))) R5))) (oR cx (AF (EW (i:=3) (λ_=>vF.nd)) (AF (EW (i:=6) (λ_=>vF.nd)) y7)))))
 YK)
 (G9 (kC (xR cx.eq SZ (U7 (k:=12) (a := "_law_work") (N:=NO) T.VW (λ_=>rfl) (λ_=>rfl) (λ_=>T.mE) T.aF jS rfl (.inl rfl) (λi cdv=>iH rfl jS.nd rfl rfl rfl T.FY qg qg qg (λ_=>rfl) (λ_=>rfl) (λ_=>rfl) T.exm λs2 H2=>by(have hr2:=hr.deeper (envOfC "_law_refused" (defScope HJ) s2.heap.objs.size T.zP cdv);have cx:=lA (P:=P) (w:=w) (K:=K) (mg:=mg) (base:=base) (N:=NO) (outer:=(cx1 P w K mg base LZ "_law_begins" K8 T.vX (.ref (Cp.codeA K (KQ K))) A outer s H E i).stack) (H:=H2) (E:=E0) hr2;have hr:=hr2;exact(CJ (hV (cK (λ_=>op_isN) B7 (jW 1) LS (nomark _))
 (G9 (kC LS))
 YK)
 (CJ (gT (i:=3) (λ_=>jS.nd) (CB (W4 (bK (λi=>cx.isX i) (zF T.isx) (λ_=>rfl) (λ_=>T.R6) qf (W4 (jW 1) (W4 (NX (λ_=>rfl) (λ_=>T.JG) (v:=.ref (G "NoFirst")) rfl (λ_ _=>.cls "NoFirst")) R5))) (W4 (bK (λi=>cx.isX i) (zF T.isx) (λ_=>rfl) (λ_=>T.R6) qf (W4 (jW 1) (W4 (NX (λ_=>rfl) (λ_=>T.MK) (v:=.ref (G "NoChoice")) rfl (λ_ _=>.cls "NoChoice")) R5))) (W4 (bK (λi=>cx.isX i) (zF T.isx) (λ_=>rfl) (λ_=>T.R6) qf (W4 (jW 1) (W4 (NX (λ_=>rfl) (λ_=>T.tR) (v:=.ref (G "NoHouse")) rfl (λ_ _=>.cls "NoHouse")) R5))) (W4 (bK (λi=>cx.isX i) (zF T.isx) (λ_=>rfl) (λ_=>T.R6) qf (W4 (jW 1) (W4 (NX (λ_=>rfl) (λ_=>T.pM) (v:=.ref (G "TooMany")) rfl (λ_ _=>.cls "TooMany")) R5))) R5))))))
 (CJ (hV (QW.qt (lK (jG cx (bK (λi=>cx.isX i) (zF T.isx) (λ_=>rfl) (λ_=>T.R6) qf (W4 (jW 1) (W4 (CC (W4 (NX (λ_=>rfl) (λ_=>T.kN) (v:=.ref (G "Idle")) rfl (λ_ _=>.cls "Idle")) (W4 (NX (λ_=>rfl) (λ_=>T.DH) (v:=.ref (G "NoLog")) rfl (λ_ _=>.cls "NoLog")) (W4 (NX (λ_=>rfl) (λ_=>T.jZ) (v:=.ref (G "NoPlace")) rfl (λ_ _=>.cls "NoPlace")) (W4 (NX (λ_=>rfl) (λ_=>T.AD) (v:=.ref (G "NoPlan")) rfl (λ_ _=>.cls "NoPlan")) (W4 (NX (λ_=>rfl) (λ_=>T.sR) (v:=.ref (G "NoRoom")) rfl (λ_ _=>.cls "NoRoom")) (W4 (NX (λ_=>rfl) (λ_=>T.lD) (v:=.ref (G "NoText")) rfl (λ_ _=>.cls "NoText")) (W4 (NX (λ_=>rfl) (λ_=>T.JH) (v:=.ref (G "TooFar")) rfl (λ_ _=>.cls "TooFar")) R5)))))))) R5))) (λ_ _=>rfl)) (OU (n0 (jG cx (bK (λi=>cx.isX i) (zF T.isx) (λ_=>rfl) (λ_=>T.R6) qf (W4 (jW 1) (W4 (VF (λ_=>rfl) (λ_=>T.AA) qf) R5))) (λ_ _=>rfl))))))
 (G9 (kC (CC (W4 WO R5))))
 YK)
 (CJ (hV (cK cx.ne QM (XM jp yw yu (λi=>cx.countB i) TR cx (jW 3) (W4 O5 R5)) JX (nomark _))
 (G9 (kC (CC (W4 WO R5))))
 YK)
 (CJ (hV (jG cx (N4 cx (jW 3) JX (λ_ _=>rfl)) (λ_ _=>rfl))
 (G9 (kC (CC (W4 WO (W4 (V9 cx T.isx T.nfx_at (jW 1)) R5)))))
 YK)
 (CJ (hV (jG cx (N4 cx (jW 3) JX (λ_ _=>rfl)) (λ_ _=>rfl))
 (G9 (kC (CC (W4 WO (W4 (V9 cx T.isx T.nfx_word (jW 1)) R5)))))
 YK)
 (G9 (kC (nR (jG cx (N4 cx (jW 3) JX (λ_ _=>rfl)) (λ_ _=>rfl)) (CC (W4 WO (W4 (V9 cx T.isx T.nfx_name (jW 1)) R5))) (CC (W4 WO (W4 (V9 cx T.isx T.nfx_most (jW 1)) R5)))))))))))))) (λ_=>UW (base:=base) (mg:=mg) T) T.tabI qf T.Z6E (λ_=>rfl) (λ_=>rfl) (λ_=>rmo hr) (λ_=>LamX.lamS_by (sc:=defScope K8) qf) (λ_=>rfl) (λ_ _ _ _ _=>rfl) (λE=>(W9 N5 (λ_=>T.j7) (λ_=>(iZ (base:=base) T)) (lW T.c3) (λi=>(tE (E:=E) i).mono (by first|decide|omega)) (λ_=>rfl) (λ_=>T.gG) (λ_=>T.fP.choose_spec) (λ_ _=>.nil) rfl (W4 (I0 (λ_=>(LA (base:=base) T)) iF (λi=>(tE (E:=E) i).mono (by first|decide|omega)) (λ_=>rfl) (λ_=>T.Z8t) (λ_=>T.Z9u.kp) (λ_=>T.wW) (W4 (jW 1) R5)) (W4 (jW 3) R5)) (qN (jW 7) ZR)))) (jW 6) (nomark _))))))))))
def Z67  : Lo->M Oc:=
 (kO (IT 1 2 (O9 (fD (mN 2 Z99) (O9 (uV 0) (O9 (mC (.int 2)) JN))) (O9 (fD (mN 2 Z90) (O9 (uV 0) (O9 (fD aW (O9 (mC (.int 299)) (O9 (mC (.int 300)) (O9 (mC (.int 301)) (O9 (mC (.int 999)) JN))))) JN))) JN)))
 (kO (O0 (fD (mN 2 Z9x) (O9 (uV 0) (O9 (mC (.int 2)) JN))) (gLs 2 (gCo (fU 3) (gCo (fU 4) gNo))))
 (kO (O0 (fD TZ (O9 (mC (.str "send")) (O9 (uV 3) (O9 (uV 4) (O9 (mC (.int 1)) (O9 (fD TZ (O9 (mC (.str "handed")) JN)) JN)))))) (fU 5))
 (kO (O0 (mOp (opS MY) (fD TZ (O9 (fD TZ (O9 (mC (.str "add")) (O9 (mC (.int 0)) (O9 (fD TZ (O9 (mC (.str "number")) (O9 (mC (.int 1)) JN))) JN)))) JN)) (mOp (opS λ_=>F1) (fD TZ (O9 (uV 5) JN)) (mOp (opS MY) (mC (.int 1)) (uV 1)))) (fU 6))
 (kO (O0 (HN 2 1 [0,1,2] [] (zV "Plain" 4 Z9Z) (O9 (fD (nV "Plan" 2 Z9N) (O9 (fD aW (O9 (fD (nV "House" 4 Z9O) (O9 (uV 3) (O9 (fD TZ (O9 (mC (.int 0)) JN)) (O9 (fD TZ (O9 (fD TZ (O9 (uV 4) (O9 (uV 6) JN))) JN)) JN)))) JN)) JN)) (O9 (fD aW (O9 (fD TZ (O9 (mC (.int 1)) (O9 (uV 3) (O9 (uV 4) (O9 (mC (.int 5)) JN))))) JN)) JN)) (O9 (uV 2) JN)) (fU 7))
 (kO (O0 (oF (MU (tW (mOp (opS λS x y=>(eqW S x y).map W.bl) (uV 1) (mC (.int 1)))) (tW (mOp (opS λ_=>gtW) (uV 2) (mC (.int 300))))) (fD TZ (O9 (mC (.str "many")) (O9 (mC (.int 300)) JN))) (mC .non)) (fU 8))
 (kO (GN (itR1 (O9 (mC (.int 2)) JN)) (fU 9)
 (kO (mIf (MU (tW (mOp (opS λS x y=>(eqW S x y).map λb=>W.bl (!b)) (vV ["NoFirst", "NoChoice", "NoHouse", "TooMany"] (PL "Plain" "run" (NI 1 Z9M) (uV 7) JN) (IH hI)) (uV 8))) (tW (mOp (opS λS x y=>(eqW S x y).map λb=>W.bl (!b)) (PL "Plain" "cells_of" (AT 2 Z98) (uV 7) (O9 (uV 3) JN)) (fD TZ (O9 (oF (tW (mOp (opS λS x y=>(eqW S x y).map W.bl) (uV 1) (mC (.int 0)))) (fD (MI λ_=>fY) (O9 (uV 2) (O9 (mC (.int 300)) JN))) (mC (.int 300))) JN)))))
 (iE (mC (.bl false)))
 dF)
 (mIf (MU (tW (mOp (opS λS x y=>(eqW S x y).map λb=>W.bl (!b)) (fD (MI eP) (O9 (PL "Plain" "done" (AT 1 Z9K) (uV 7) JN) JN)) (mOp ixM (PL "Plain" "cells_of" (AT 2 Z98) (uV 7) (O9 (uV 3) JN)) (mC (.int 0))))) (KP (tW (mOp (opS λ_ x y=>match y with | .non=>RX x | _=>none) (uV 8) (mC .non))) (tW (mOp (opS λS x y=>(eqW S x y).map λb=>W.bl (!b)) (vV ["NoFirst", "NoChoice", "NoHouse", "TooMany"] (PL "Plain" "step" (NI 1 Z9W) (uV 7) JN) (IH hI)) (uV 8)))))
 (iE (mC (.bl false)))
 dF)))
 (iE (mOp (opS λS x y=>(eqW S x y).map W.bl) (mC (.int 300)) (mC (.int 300)))))))))))
def Z9a:List W->M W:=IU sB 1 Z67
theorem JQ (T:Txt K G mg):FnOk P w K mg base CX0 22 T.cB T.F2 CT (spF K G 1 Z9a):=
 bZ T.Z9a T.Z6t iO λA outer s H E hr=>by
  have cx:=lA (P:=P) (w:=w) (K:=K) (mg:=mg) (base:=base) (N:=sB) (outer:=outer) (H:=H) (E:=E) hr
  exact(CJ (D5 (i:=1) (j:=2) cx (λ_=>iO.nd) (λ_=>rfl) (λ_=>rfl) qg (λ_=>rfl) (λ_=>rfl) (W4 (I0 (λ_=>(x9 (base:=base) T)) JY (λ_=>rmo hr) (λ_=>rfl) (λ_=>T.Z9V) (λ_=>T.Z99.kp) (λ_=>T.JV) (W4 (jW 0) (W4 JX R5))) (W4 (I0 (λ_=>(D3 (base:=base) T)) JY (λ_=>rmo hr) (λ_=>rfl) (λ_=>T.Z9n) (λ_=>T.Z90.kp) (λ_=>T.sY) (W4 (jW 0) (W4 (CB (W4 JX (W4 JX (W4 JX (W4 JX R5))))) R5))) R5)) (λ_=>rfl))
 (CJ (eJ (I0 (λ_=>(vG (base:=base) T)) JY (λ_=>rmo hr) (λ_=>rfl) (λ_=>T.Z8F) (λ_=>T.Z9x.kp) (λ_=>T.F0) (W4 (jW 0) (W4 JX R5))) (qI cx (AF (EW (i:=3) (λ_=>iO.nd)) (AF (EW (i:=4) (λ_=>iO.nd)) y7))))
 (CJ (gT (i:=5) (λ_=>iO.nd) (CC (W4 WO (W4 (jW 3) (W4 (jW 4) (W4 JX (W4 (CC (W4 WO R5)) R5)))))))
 (CJ (gT (i:=6) (λ_=>iO.nd) (YH cx.add eH (CC (W4 (CC (W4 WO (W4 JX (W4 (CC (W4 WO (W4 JX R5))) R5)))) R5)) (YH cx.mulT YT4 (CC (W4 (jW 5) R5)) (YH cx.add eH JX (jW 1)))))
 (CJ (gT (i:=7) (λ_=>iO.nd) (aZ (λ_=>T.j7) (λ_=>(OS (iZ (base:=base) T))) (VU T.c3) (λ_=>rmo hr) (λ_=>rfl) (λ_=>T.gG) (λ_=>T.fP.choose_spec) (λ_ _=>.nil) rfl (W4 (UI T.tL (λ_=>T.cJ) (λ_=>(hE (base:=base) T)) (RN T.tL) (λ_=>rmo hr) (λ_=>rfl) (λ_=>T.uH) (λ_=>T.FU) (W4 (CB (W4 (UI T.KN (λ_=>T.BP) (λ_=>(jE (base:=base) T)) (RN T.KN) (λ_=>rmo hr) (λ_=>rfl) (λ_=>T.Y3) (λ_=>T.cU) (W4 (jW 3) (W4 (CC (W4 JX R5)) (W4 (CC (W4 (CC (W4 (jW 4) (W4 (jW 6) R5))) R5)) R5)))) R5)) R5)) (W4 (CB (W4 (CC (W4 JX (W4 (jW 3) (W4 (jW 4) (W4 JX R5))))) R5)) R5)) (qN (jW 2) ZR)))
 (CJ (gT (i:=8) (λ_=>iO.nd) (nR (QW.qt (lK (cK cx.eq SZ (jW 1) JX (nomark _)) (OU (cK (λ_=>op_gt) pT (jW 2) JX (nomark _))))) (CC (W4 WO (W4 JX R5))) LS))
 (CJ (lQ cx (λ_=>PassesOwn.never) (x7 (λ_=>rfl) (λ_=>T.hY) (W4 JX R5)) (EW (i:=9) (λ_=>iO.nd))
 (CJ (hV (QW.qt (lK (cK cx.ne QM (U7 (k:=19) (a := "_law_work") (N:=NO) T.VW (λ_=>rfl) (λ_=>rfl) (λ_=>T.mE) T.aF jS rfl (.inl rfl) (λi cdv=>iH rfl jS.nd rfl rfl rfl T.FY qg qg qg (λ_=>rfl) (λ_=>rfl) (λ_=>rfl) T.exm λs2 H2=>by(have hr2:=hr.deeper (envOfC "_law_refused" (defScope HJ) s2.heap.objs.size T.zP cdv);have cx:=lA (P:=P) (w:=w) (K:=K) (mg:=mg) (base:=base) (N:=NO) (outer:=(cx1 P w K mg base sB "_law_long" DY T.cB (.ref (Cp.codeA K (lM K))) A outer s H E i).stack) (H:=H2) (E:=E0) hr2;have hr:=hr2;exact(CJ (hV (cK (λ_=>op_isN) B7 (jW 1) LS (nomark _))
 (G9 (kC LS))
 YK)
 (CJ (gT (i:=3) (λ_=>jS.nd) (CB (W4 (bK (λi=>cx.isX i) (zF T.isx) (λ_=>rfl) (λ_=>T.R6) qf (W4 (jW 1) (W4 (NX (λ_=>rfl) (λ_=>T.JG) (v:=.ref (G "NoFirst")) rfl (λ_ _=>.cls "NoFirst")) R5))) (W4 (bK (λi=>cx.isX i) (zF T.isx) (λ_=>rfl) (λ_=>T.R6) qf (W4 (jW 1) (W4 (NX (λ_=>rfl) (λ_=>T.MK) (v:=.ref (G "NoChoice")) rfl (λ_ _=>.cls "NoChoice")) R5))) (W4 (bK (λi=>cx.isX i) (zF T.isx) (λ_=>rfl) (λ_=>T.R6) qf (W4 (jW 1) (W4 (NX (λ_=>rfl) (λ_=>T.tR) (v:=.ref (G "NoHouse")) rfl (λ_ _=>.cls "NoHouse")) R5))) (W4 (bK (λi=>cx.isX i) (zF T.isx) (λ_=>rfl) (λ_=>T.R6) qf (W4 (jW 1) (W4 (NX (λ_=>rfl) (λ_=>T.pM) (v:=.ref (G "TooMany")) rfl (λ_ _=>.cls "TooMany")) R5))) R5))))))
 (CJ (hV (QW.qt (lK (jG cx (bK (λi=>cx.isX i) (zF T.isx) (λ_=>rfl) (λ_=>T.R6) qf (W4 (jW 1) (W4 (CC (W4 (NX (λ_=>rfl) (λ_=>T.kN) (v:=.ref (G "Idle")) rfl (λ_ _=>.cls "Idle")) (W4 (NX (λ_=>rfl) (λ_=>T.DH) (v:=.ref (G "NoLog")) rfl (λ_ _=>.cls "NoLog")) (W4 (NX (λ_=>rfl) (λ_=>T.jZ) (v:=.ref (G "NoPlace")) rfl (λ_ _=>.cls "NoPlace")) (W4 (NX (λ_=>rfl) (λ_=>T.AD) (v:=.ref (G "NoPlan")) rfl (λ_ _=>.cls "NoPlan")) (W4 (NX (λ_=>rfl) (λ_=>T.sR) (v:=.ref (G "NoRoom")) rfl (λ_ _=>.cls "NoRoom")) (W4 (NX (λ_=>rfl) (λ_=>T.lD) (v:=.ref (G "NoText")) rfl (λ_ _=>.cls "NoText")) (W4 (NX (λ_=>rfl) (λ_=>T.JH) (v:=.ref (G "TooFar")) rfl (λ_ _=>.cls "TooFar")) R5)))))))) R5))) (λ_ _=>rfl)) (OU (n0 (jG cx (bK (λi=>cx.isX i) (zF T.isx) (λ_=>rfl) (λ_=>T.R6) qf (W4 (jW 1) (W4 (VF (λ_=>rfl) (λ_=>T.AA) qf) R5))) (λ_ _=>rfl))))))
 (G9 (kC (CC (W4 WO R5))))
 YK)
 (CJ (hV (cK cx.ne QM (XM jp yw yu (λi=>cx.countB i) TR cx (jW 3) (W4 O5 R5)) JX (nomark _))
 (G9 (kC (CC (W4 WO R5))))
 YK)
 (CJ (hV (jG cx (N4 cx (jW 3) JX (λ_ _=>rfl)) (λ_ _=>rfl))
 (G9 (kC (CC (W4 WO (W4 (V9 cx T.isx T.nfx_at (jW 1)) R5)))))
 YK)
 (CJ (hV (jG cx (N4 cx (jW 3) JX (λ_ _=>rfl)) (λ_ _=>rfl))
 (G9 (kC (CC (W4 WO (W4 (V9 cx T.isx T.nfx_word (jW 1)) R5)))))
 YK)
 (G9 (kC (nR (jG cx (N4 cx (jW 3) JX (λ_ _=>rfl)) (λ_ _=>rfl)) (CC (W4 WO (W4 (V9 cx T.isx T.nfx_name (jW 1)) R5))) (CC (W4 WO (W4 (V9 cx T.isx T.nfx_most (jW 1)) R5)))))))))))))) (λ_=>zN (base:=base) (mg:=mg) T) T.tabI qf T.Z6r (λ_=>rfl) (λ_=>rfl) (λ_=>rmo hr) (λ_=>LamX.lamS_by (sc:=defScope DY) qf) (λ_=>rfl) (λ_ _ _ _ _=>rfl) (λE=>(gP N5 T.c3 (nUb cx) (λ_=>T.wG) (λ_=>(HC (base:=base) T)) HW (λi=>(tE (E:=E) i).mono (by first|decide|omega)) (λ_=>T.UZ) (jW 7)))) (jW 8) (nomark _)) (OU (cK cx.ne QM (J2 T.c3 cx (λ_=>T.yZ) (λ_=>(OS (QF (base:=base) T))) FB (λ_=>rmo hr) (λ_=>T.bQ) (jW 7) (W4 (jW 3) R5)) (CC (W4 (nR (cK cx.eq SZ (jW 1) JX (nomark _)) (bK cx.min2 eZh (λ_=>rfl) (λ_=>T.KW) qf (W4 (jW 2) (W4 JX R5))) JX) R5)) (nomark _)))))
 (G9 (kC O5))
 YK)
 (G9 (hV (QW.qt (lK (cK cx.ne QM (bK cx.len Y8 (λ_=>rfl) (λ_=>T.jD) qf (W4 (oZ T.c3 cx (λ_=>T.u0) (λ_=>(OY (base:=base) T)) FB (λ_=>rmo hr) (λ_=>T.pW) (jW 7)) R5)) (N4 cx (J2 T.c3 cx (λ_=>T.yZ) (λ_=>(OS (QF (base:=base) T))) FB (λ_=>rmo hr) (λ_=>T.bQ) (jW 7) (W4 (jW 3) R5)) JX (λ_ _=>rfl)) (nomark _)) (OU (QW.qt (UF (cK (λ_=>op_notN) G0 (jW 8) LS (nomark _)) (mM (cK cx.ne QM (U7 (k:=19) (a := "_law_work") (N:=NO) T.VW (λ_=>rfl) (λ_=>rfl) (λ_=>T.mE) T.aF jS rfl (.inl rfl) (λi cdv=>iH rfl jS.nd rfl rfl rfl T.FY qg qg qg (λ_=>rfl) (λ_=>rfl) (λ_=>rfl) T.exm λs2 H2=>by(have hr2:=hr.deeper (envOfC "_law_refused" (defScope HJ) s2.heap.objs.size T.zP cdv);have cx:=lA (P:=P) (w:=w) (K:=K) (mg:=mg) (base:=base) (N:=NO) (outer:=(cx1 P w K mg base sB "_law_long" DY T.cB (.ref (Cp.codeA K (lM K))) A outer s H E i).stack) (H:=H2) (E:=E0) hr2;have hr:=hr2;exact(CJ (hV (cK (λ_=>op_isN) B7 (jW 1) LS (nomark _))
 (G9 (kC LS))
 YK)
 (CJ (gT (i:=3) (λ_=>jS.nd) (CB (W4 (bK (λi=>cx.isX i) (zF T.isx) (λ_=>rfl) (λ_=>T.R6) qf (W4 (jW 1) (W4 (NX (λ_=>rfl) (λ_=>T.JG) (v:=.ref (G "NoFirst")) rfl (λ_ _=>.cls "NoFirst")) R5))) (W4 (bK (λi=>cx.isX i) (zF T.isx) (λ_=>rfl) (λ_=>T.R6) qf (W4 (jW 1) (W4 (NX (λ_=>rfl) (λ_=>T.MK) (v:=.ref (G "NoChoice")) rfl (λ_ _=>.cls "NoChoice")) R5))) (W4 (bK (λi=>cx.isX i) (zF T.isx) (λ_=>rfl) (λ_=>T.R6) qf (W4 (jW 1) (W4 (NX (λ_=>rfl) (λ_=>T.tR) (v:=.ref (G "NoHouse")) rfl (λ_ _=>.cls "NoHouse")) R5))) (W4 (bK (λi=>cx.isX i) (zF T.isx) (λ_=>rfl) (λ_=>T.R6) qf (W4 (jW 1) (W4 (NX (λ_=>rfl) (λ_=>T.pM) (v:=.ref (G "TooMany")) rfl (λ_ _=>.cls "TooMany")) R5))) R5))))))
 (CJ (hV (QW.qt (lK (jG cx (bK (λi=>cx.isX i) (zF T.isx) (λ_=>rfl) (λ_=>T.R6) qf (W4 (jW 1) (W4 (CC (W4 (NX (λ_=>rfl) (λ_=>T.kN) (v:=.ref (G "Idle")) rfl (λ_ _=>.cls "Idle")) (W4 (NX (λ_=>rfl) (λ_=>T.DH) (v:=.ref (G "NoLog")) rfl (λ_ _=>.cls "NoLog")) (W4 (NX (λ_=>rfl) (λ_=>T.jZ) (v:=.ref (G "NoPlace")) rfl (λ_ _=>.cls "NoPlace")) (W4 (NX (λ_=>rfl) (λ_=>T.AD) (v:=.ref (G "NoPlan")) rfl (λ_ _=>.cls "NoPlan")) (W4 (NX (λ_=>rfl) (λ_=>T.sR) (v:=.ref (G "NoRoom")) rfl (λ_ _=>.cls "NoRoom")) (W4 (NX (λ_=>rfl) (λ_=>T.lD) (v:=.ref (G "NoText")) rfl (λ_ _=>.cls "NoText")) (W4 (NX (λ_=>rfl) (λ_=>T.JH) (v:=.ref (G "TooFar")) rfl (λ_ _=>.cls "TooFar")) R5)))))))) R5))) (λ_ _=>rfl)) (OU (n0 (jG cx (bK (λi=>cx.isX i) (zF T.isx) (λ_=>rfl) (λ_=>T.R6) qf (W4 (jW 1) (W4 (VF (λ_=>rfl) (λ_=>T.AA) qf) R5))) (λ_ _=>rfl))))))
 (G9 (kC (CC (W4 WO R5))))
 YK)
 (CJ (hV (cK cx.ne QM (XM jp yw yu (λi=>cx.countB i) TR cx (jW 3) (W4 O5 R5)) JX (nomark _))
 (G9 (kC (CC (W4 WO R5))))
 YK)
 (CJ (hV (jG cx (N4 cx (jW 3) JX (λ_ _=>rfl)) (λ_ _=>rfl))
 (G9 (kC (CC (W4 WO (W4 (V9 cx T.isx T.nfx_at (jW 1)) R5)))))
 YK)
 (CJ (hV (jG cx (N4 cx (jW 3) JX (λ_ _=>rfl)) (λ_ _=>rfl))
 (G9 (kC (CC (W4 WO (W4 (V9 cx T.isx T.nfx_word (jW 1)) R5)))))
 YK)
 (G9 (kC (nR (jG cx (N4 cx (jW 3) JX (λ_ _=>rfl)) (λ_ _=>rfl)) (CC (W4 WO (W4 (V9 cx T.isx T.nfx_name (jW 1)) R5))) (CC (W4 WO (W4 (V9 cx T.isx T.nfx_most (jW 1)) R5)))))))))))))) (λ_=>zN (base:=base) (mg:=mg) T) T.tabI qf T.Z6r (λ_=>rfl) (λ_=>rfl) (λ_=>rmo hr) (λ_=>LamX.lamS_by (sc:=defScope DY) qf) (λ_=>rfl) (λ_ _ _ _ _=>rfl) (λE=>(gP N5 T.c3 (nUb cx) (λ_=>T.kR) (λ_=>(tT (base:=base) T)) HW (λi=>(tE (E:=E) i).mono (by first|decide|omega)) (λ_=>T.dC) (jW 7)))) (jW 8) (nomark _))))))))
 (G9 (kC O5))
 YK))) (λ_ _ _ _ h1 h2 h3=>ps_for PassesOwn.never rfl h1 h2 h3))
 (G9 (kC (xR cx.eq SZ (NX (λ_=>rfl) (λ_=>T.SY) T.r_MOST (λ_ _=>.int _)) JX (nomark _)))))))))))
def cD  : Lo->M Oc:=
 (kO (O0 (fD (AT 1 Z9j) (O9 (uV 0) JN)) (fU 1))
 (kO (O0 (fD (mN 2 Z8H) (O9 (uV 1) (O9 (mC (.int 4)) JN))) (gTu 2 (gCo (fU 2) (gCo (fU 3) gNo))))
 (kO (GN (itR1 (O9 (mC (.int 10)) JN)) (fU 4)
 (mIf (o0 (YG (fD (AT 3 Z9s) (O9 (uV 1) (O9 (uV 2) (O9 (uV 3) JN))))))
 (iE (mC (.bl false)))
 dF))
 (kO (O0 (HN 2 0 [0,1,2] [.int 60] (zV "Plain" 4 Z9Z) (O9 (fD (H0 1 Z9u) (O9 (uV 2) JN)) (O9 (fD aW JN) JN)) JN) (fU 5))
 (kO (O0 (fD (mN 2 Z90) (O9 (uV 1) (O9 (fD aW (O9 (mC .non) (O9 (mC (.int 5)) (O9 (mC (.str "zzzzzzz")) (O9 (mC (.str "")) (O9 (mC (.bl true)) (O9 (fD aW (O9 (mC (.str "a")) JN)) (O9 (uV 2) JN)))))))) JN))) (fU 6))
 (kO (mIf (MU (tW (mOp (opS λS x y=>(eqW S x y).map λb=>W.bl (!b)) (vV ["NoFirst", "NoChoice", "NoHouse", "TooMany"] (PL "Plain" "cells_of" (NI 2 Z98) (uV 5) (O9 (uV 6) JN)) (IH hI)) (fD TZ (O9 (mC (.str "house")) (O9 (uV 6) JN))))) (tW (mOp (opS λS x y=>(eqW S x y).map λb=>W.bl (!b)) (PL "Plain" "cells_of" (AT 2 Z98) (uV 5) (O9 (mOp ixM (mOp ixM (uV 2) (mC (.int 0))) (mC (.int 0))) JN)) (mOp ixM (mOp ixM (uV 2) (mC (.int 0))) (mC (.int 1))))))
 (iE (mC (.bl false)))
 dF)
 (iE (HS (mOp (opS λ_=>oSq) (PL "Plain" "step" (AT 1 Z9W) (uV 5) JN) (mC (.bl false))) (fD (AT 1 Z9a) (O9 (uV 1) JN))))))))))
def Z7q:List W->M W:=IU sM 1 cD
theorem eHc (T:Txt K G mg):FnG P w K mg base CX0 26 T.FQ T.JI N6 (spF K G 1 Z7q):=
 YJ T.Z7q T.Z5c J5 λA outer s H E hr hg=>by
  have cx:=lA (P:=P) (w:=w) (K:=K) (mg:=mg) (base:=base) (N:=sM) (outer:=outer) (H:=H) (E:=E) hr
  have hG:(A.deeper (envOfC "law" (defScope vN) s.heap.objs.size T.FQ (.ref (Cp.codeA K (JS K))))).guards=some []:=hg
  exact(CJ (gT (i:=1) (λ_=>J5.nd) (I0 (λ_=>(BX (base:=base) T)) FB (λ_=>rmo hr) (λ_=>rfl) (λ_=>T.Z73) (λ_=>T.Z9j.kp) (λ_=>T.wI) (W4 (jW 0) R5)))
 (CJ (eJ (I0 (λ_=>(xAY (base:=base) T)) JY (λ_=>rmo hr) (λ_=>rfl) (λ_=>T.Z59) (λ_=>T.Z8H.kp) (λ_=>T.S0) (W4 (jW 1) (W4 JX R5))) (oR cx (AF (EW (i:=2) (λ_=>J5.nd)) (AF (EW (i:=3) (λ_=>J5.nd)) y7))))
 (CJ (lQ cx (λ_=>PassesOwn.never) (x7 (λ_=>rfl) (λ_=>T.hY) (W4 JX R5)) (EW (i:=4) (λ_=>J5.nd))
 (G9 (hV (n0 (jG cx (I0 (λ_=>(sK (base:=base) T)) FB (λ_=>rmo hr) (λ_=>rfl) (λ_=>T.Z8v) (λ_=>T.Z9s.kp) (λ_=>T.B0) (W4 (jW 1) (W4 (jW 2) (W4 (jW 3) R5)))) (λ_ _=>rfl)))
 (G9 (kC O5))
 YK)) (λ_ _ _ _ h1 h2 h3=>ps_for PassesOwn.never rfl h1 h2 h3))
 (CJ (gT (i:=5) (λ_=>J5.nd) (aZ (λ_=>T.j7) (λ_=>(OS (iZ (base:=base) T))) (VU T.c3) (λ_=>rmo hr) (λ_=>rfl) (λ_=>T.gG) (λ_=>T.bJ.choose_spec) (λ_ _=>(.cons (.int _) .nil)) rfl (W4 (I0 (λ_=>(LA (base:=base) T)) iF (λ_=>rmo hr) (λ_=>rfl) (λ_=>T.Z8t) (λ_=>T.Z9u.kp) (λ_=>T.wW) (W4 (jW 2) R5)) (W4 (CB R5) R5)) ZR))
 (CJ (gT (i:=6) (λ_=>J5.nd) (I0 (λ_=>(D3 (base:=base) T)) JY (λ_=>rmo hr) (λ_=>rfl) (λ_=>T.Z9n) (λ_=>T.Z90.kp) (λ_=>T.sY) (W4 (jW 1) (W4 (CB (W4 LS (W4 JX (W4 WO (W4 WO (W4 O5 (W4 (CB (W4 WO R5)) (W4 (jW 2) R5)))))))) R5))))
 (CJ (hV (QW.qt (lK (cK cx.ne QM (U7 (k:=23) (a := "_law_work") (N:=NO) T.VW (λ_=>rfl) (λ_=>rfl) (λ_=>T.mE) T.aF jS rfl (.inl rfl) (λi cdv=>iH rfl jS.nd rfl rfl rfl T.FY qg qg qg (λ_=>rfl) (λ_=>rfl) (λ_=>rfl) T.exm λs2 H2=>by(have hr2:=hr.deeper (envOfC "_law_refused" (defScope HJ) s2.heap.objs.size T.zP cdv);have cx:=lA (P:=P) (w:=w) (K:=K) (mg:=mg) (base:=base) (N:=NO) (outer:=(cx1 P w K mg base sM "law" vN T.FQ (.ref (Cp.codeA K (JS K))) A outer s H E i).stack) (H:=H2) (E:=E0) hr2;have hr:=hr2;exact(CJ (hV (cK (λ_=>op_isN) B7 (jW 1) LS (nomark _))
 (G9 (kC LS))
 YK)
 (CJ (gT (i:=3) (λ_=>jS.nd) (CB (W4 (bK (λi=>cx.isX i) (zF T.isx) (λ_=>rfl) (λ_=>T.R6) qf (W4 (jW 1) (W4 (NX (λ_=>rfl) (λ_=>T.JG) (v:=.ref (G "NoFirst")) rfl (λ_ _=>.cls "NoFirst")) R5))) (W4 (bK (λi=>cx.isX i) (zF T.isx) (λ_=>rfl) (λ_=>T.R6) qf (W4 (jW 1) (W4 (NX (λ_=>rfl) (λ_=>T.MK) (v:=.ref (G "NoChoice")) rfl (λ_ _=>.cls "NoChoice")) R5))) (W4 (bK (λi=>cx.isX i) (zF T.isx) (λ_=>rfl) (λ_=>T.R6) qf (W4 (jW 1) (W4 (NX (λ_=>rfl) (λ_=>T.tR) (v:=.ref (G "NoHouse")) rfl (λ_ _=>.cls "NoHouse")) R5))) (W4 (bK (λi=>cx.isX i) (zF T.isx) (λ_=>rfl) (λ_=>T.R6) qf (W4 (jW 1) (W4 (NX (λ_=>rfl) (λ_=>T.pM) (v:=.ref (G "TooMany")) rfl (λ_ _=>.cls "TooMany")) R5))) R5))))))
 (CJ (hV (QW.qt (lK (jG cx (bK (λi=>cx.isX i) (zF T.isx) (λ_=>rfl) (λ_=>T.R6) qf (W4 (jW 1) (W4 (CC (W4 (NX (λ_=>rfl) (λ_=>T.kN) (v:=.ref (G "Idle")) rfl (λ_ _=>.cls "Idle")) (W4 (NX (λ_=>rfl) (λ_=>T.DH) (v:=.ref (G "NoLog")) rfl (λ_ _=>.cls "NoLog")) (W4 (NX (λ_=>rfl) (λ_=>T.jZ) (v:=.ref (G "NoPlace")) rfl (λ_ _=>.cls "NoPlace")) (W4 (NX (λ_=>rfl) (λ_=>T.AD) (v:=.ref (G "NoPlan")) rfl (λ_ _=>.cls "NoPlan")) (W4 (NX (λ_=>rfl) (λ_=>T.sR) (v:=.ref (G "NoRoom")) rfl (λ_ _=>.cls "NoRoom")) (W4 (NX (λ_=>rfl) (λ_=>T.lD) (v:=.ref (G "NoText")) rfl (λ_ _=>.cls "NoText")) (W4 (NX (λ_=>rfl) (λ_=>T.JH) (v:=.ref (G "TooFar")) rfl (λ_ _=>.cls "TooFar")) R5)))))))) R5))) (λ_ _=>rfl)) (OU (n0 (jG cx (bK (λi=>cx.isX i) (zF T.isx) (λ_=>rfl) (λ_=>T.R6) qf (W4 (jW 1) (W4 (VF (λ_=>rfl) (λ_=>T.AA) qf) R5))) (λ_ _=>rfl))))))
 (G9 (kC (CC (W4 WO R5))))
 YK)
 (CJ (hV (cK cx.ne QM (XM jp yw yu (λi=>cx.countB i) TR cx (jW 3) (W4 O5 R5)) JX (nomark _))
 (G9 (kC (CC (W4 WO R5))))
 YK)
 (CJ (hV (jG cx (N4 cx (jW 3) JX (λ_ _=>rfl)) (λ_ _=>rfl))
 (G9 (kC (CC (W4 WO (W4 (V9 cx T.isx T.nfx_at (jW 1)) R5)))))
 YK)
 (CJ (hV (jG cx (N4 cx (jW 3) JX (λ_ _=>rfl)) (λ_ _=>rfl))
 (G9 (kC (CC (W4 WO (W4 (V9 cx T.isx T.nfx_word (jW 1)) R5)))))
 YK)
 (G9 (kC (nR (jG cx (N4 cx (jW 3) JX (λ_ _=>rfl)) (λ_ _=>rfl)) (CC (W4 WO (W4 (V9 cx T.isx T.nfx_name (jW 1)) R5))) (CC (W4 WO (W4 (V9 cx T.isx T.nfx_most (jW 1)) R5)))))))))))))) (λ_=>dBd (base:=base) (mg:=mg) T) T.tabI qf T.Z3d (λ_=>rfl) (λ_=>rfl) (λ_=>rmo hr) (λ_=>LamX.lamS_by (sc:=defScope vN) qf) (λ_=>rfl) (λ_ _ _ _ _=>rfl) (λE=>(R3E N5 T.c3 (nUb cx) (λ_=>T.yZ) (λ_=>(QF (base:=base) T)) HW (λi=>(tE (E:=E) i).mono (by first|decide|omega)) (λ_=>T.bQ) (jW 5) (W4 (jW 6) R5)))) (CC (W4 WO (W4 (jW 6) R5))) (nomark _)) (OU (cK cx.ne QM (F6 T.c3 cx (λ_=>T.yZ) (λ_=>(OS (QF (base:=base) T))) FB (λ_=>rmo hr) (λ_=>T.Z9h) (jW 5) (N4 cx (N4 cx (jW 2) JX (λ_ _=>rfl)) JX (λ_ _=>rfl))) (N4 cx (N4 cx (jW 2) JX (λ_ _=>rfl)) JX (λ_ _=>rfl)) (nomark _)))))
 (G9 (kC O5))
 YK)
 (G9 (kC (QB (xR (λ_=>op_isBl) zNx (oZ T.c3 cx (λ_=>T.kR) (λ_=>(OS (tT (base:=base) T))) FB (λ_=>rmo hr) (λ_=>T.dC) (jW 5)) O5 (nomark _)) (XB (I0 (λ_=>(JQ (base:=base) T)) FB (λ_=>rmo hr) (λ_=>rfl) (λ_=>T.Z67) (λ_=>T.Z9a.kp) (λ_=>T.ZU) (W4 (jW 1) R5))))))))))))
end
class Nx (P:Prop) (R:outParam Prop):Prop where
 go:R->P
class Sd0 (P:Prop):Prop where
 go:P->P
class Sd1 (P:Prop):Prop where
 go:P->P
class Sd2 (P:Prop):Prop where
 go:P->P
class Sd3 (P:Prop):Prop where
 go:P->P
class Sd4 (P:Prop):Prop where
 go:P->P
class Sd5 (P:Prop):Prop where
 go:P->P
class Sd6 (P:Prop):Prop where
 go:P->P
class Sd7 (P:Prop):Prop where
 go:P->P
class Sd8 (P:Prop):Prop where
 go:P->P
class Sd9 (P:Prop):Prop where
 go:P->P
class Sd10 (P:Prop):Prop where
 go:P->P
class Sd11 (P:Prop):Prop where
 go:P->P
instance i_gFl {S:Sto} {L:Lo} {o:Lo->M W} {cs:List Str} {f:Str} {w:W} {P:Lo->Sto->Prop}:Nx (Ev (gFl cs f o w L S) P) (Ev (o L S) λx S'=>Ev (LG cs f x w S') λ_ S''=>P L S''):=⟨RL0⟩
instance i_augF {S:Sto} {L:Lo} {Q:Oc->Sto->Prop} {o:Lo->M W} {e:Lo->M W} {cs:List Str} {f:Str} {op:W->W->M W}:Nx (Ev (i7C cs f op o e L S) Q) (Ev (o L S) λx S'=>Ev (v90 cs f op (e L) x S') λ_ S''=>Q (.nx L) S''):=⟨PYJ⟩
instance i_delS {S:Sto} {L:Lo} {Q:Oc->Sto->Prop} {a:Lo->M W} {l:Lo->M (Option Int)} {h':Lo->M (Option Int)}:Nx (Ev (j7n a l h' L S) Q) (Ev (a L S) λx S'=>Ev (l L S') λlo S''=>Ev (h' L S'') λhi S3=>Ev (uS x lo hi S3) λ_ S4=>Q (.nx L) S4):=⟨LCZ⟩
instance i_delI {S:Sto} {L:Lo} {Q:Oc->Sto->Prop} {a:Lo->M W} {b:Lo->M W}:Nx (Ev (xDR a b L S) Q) (Ev (a L S) λx S'=>Ev (b L S') λy S''=>Ev (AZ x y S'') λ_ S3=>Q (.nx L) S3):=⟨FWH⟩
instance j0_aM {n:Nat} {m:Nat} {P:Prop}:Sd0 (n<=m/\P):=⟨id⟩
instance j6_aM {n:Nat} {m:Nat} {P:Prop}:Sd6 (n<=m/\P):=⟨id⟩
instance j0_aL {n:Nat} {m:Nat} {P:Prop}:Sd0 (n < m/\P):=⟨id⟩
instance j6_aL {n:Nat} {m:Nat} {P:Prop}:Sd6 (n < m/\P):=⟨id⟩
instance j0_aO {α:Type} {o:Option α} {a:α} {P:Prop}:Sd0 (o=some a/\P):=⟨id⟩
instance j6_aO {α:Type} {o:Option α} {a:α} {P:Prop}:Sd6 (o=some a/\P):=⟨id⟩
instance j0_aB {c:Bool} {P:Prop}:Sd0 (c=true/\P):=⟨id⟩
instance j6_aB {c:Bool} {P:Prop}:Sd6 (c=true/\P):=⟨id⟩
instance i_xC {c0:List Int} {P:List Int->Prop}:Nx (∃ c,W.scr c0=W.scr c/\P c) (P c0):=⟨XYH⟩
instance i_xS {c0:Str} {P:Str->Prop}:Nx (∃ c,W.str c0=W.str c/\P c) (P c0):=⟨jXU⟩
instance j0_xE {S:Sto} {w:W} {P:W->List W->Prop}:Sd0 (∃ v ys,[w]=[v]/\fA S v=some ys/\P v ys):=⟨id⟩
instance j5_xE {S:Sto} {w:W} {P:W->List W->Prop}:Sd5 (∃ v ys,[w]=[v]/\fA S v=some ys/\P v ys):=⟨id⟩
instance j0_xR {j:Int} {P:Int->Prop}:Sd0 (∃ i,[W.int j]=[W.int i]/\0<=i/\i < 2 ^ 62/\P i):=⟨id⟩
instance j5_xR {j:Int} {P:Int->Prop}:Sd5 (∃ i,[W.int j]=[W.int i]/\0<=i/\i < 2 ^ 62/\P i):=⟨id⟩
instance i_x3 {a:W} {b:W} {c:W} {P:W->W->W->Prop}:Nx (∃ x y z,[a,b,c]=[x,y,z]/\P x y z) (P a b c):=⟨S3X⟩
instance i_x2 {a:W} {b:W} {P:W->W->Prop}:Nx (∃ x y,[a,b]=[x,y]/\P x y) (P a b):=⟨rM4⟩
instance j0_xO {α:Type} {o:Option α} {P:α->Prop}:Sd0 (∃ c,o=some c/\P c):=⟨id⟩
instance j5_xO {α:Type} {o:Option α} {P:α->Prop}:Sd5 (∃ c,o=some c/\P c):=⟨id⟩
instance i_xT {S:Sto} {c0:Bool} {P:Bool->Prop}:Nx (∃ c,CZ S (.bl c0)=some c/\P c) (P c0):=⟨OVK⟩
instance i_xI {c0:Int} {P:Int->Prop}:Nx (∃ c,W.int c0=W.int c/\P c) (P c0):=⟨yPF⟩
instance j0_lstS {S:Sto} {ws:List W} {Q:W->Sto->Prop}:Sd0 (Ev (LU ws S) Q):=⟨id⟩
instance j7_lstS {S:Sto} {ws:List W} {Q:W->Sto->Prop}:Sd7 (Ev (LU ws S) Q):=⟨id⟩
instance i_lstP {Q:W->Sto->Prop} {S:Sto} {ws:List W}:Nx (Ev (jYA ws S) Q) (Q (.ref S.length) (S++[.lst ws])):=⟨n2o⟩
instance i_lstV {Q:W->Sto->Prop} {S:Sto} {ws:List W}:Nx (Ev (VR ws S) Q) (Q (.lst ws) S):=⟨vZ⟩
instance j0_forN {S:Sto} {L:Lo} {Q:Oc->Sto->Prop} {b:Lo->M Oc} {g:W->Lo->M Lo} {p:Sto->Prop}:Sd0 (Ev (Y2 p g b [] L S) Q):=⟨id⟩
instance j9_forN {S:Sto} {L:Lo} {Q:Oc->Sto->Prop} {b:Lo->M Oc} {g:W->Lo->M Lo} {p:Sto->Prop}:Sd9 (Ev (Y2 p g b [] L S) Q):=⟨id⟩
instance j0_forC {S:Sto} {L:Lo} {x:W} {Q:Oc->Sto->Prop} {b:Lo->M Oc} {g:W->Lo->M Lo} {p:Sto->Prop} {xs:List W}:Sd0 (Ev (Y2 p g b (x :: xs) L S) Q):=⟨id⟩
instance j9_forC {S:Sto} {L:Lo} {x:W} {Q:Oc->Sto->Prop} {b:Lo->M Oc} {g:W->Lo->M Lo} {p:Sto->Prop} {xs:List W}:Sd9 (Ev (Y2 p g b (x :: xs) L S) Q):=⟨id⟩
instance j0_extendM {S:Sto} {x:W} {ws:List W} {Q:W->Sto->Prop}:Sd0 (Ev (KJ x ws S) Q):=⟨id⟩
instance j10_extendM {S:Sto} {x:W} {ws:List W} {Q:W->Sto->Prop}:Sd10 (Ev (KJ x ws S) Q):=⟨id⟩
instance j0_appendM {S:Sto} {x:W} {ws:List W} {Q:W->Sto->Prop}:Sd0 (Ev (O4 x ws S) Q):=⟨id⟩
instance j10_appendM {S:Sto} {x:W} {ws:List W} {Q:W->Sto->Prop}:Sd10 (Ev (O4 x ws S) Q):=⟨id⟩
instance j0_dputM {S:Sto} {i:W} {x:W} {v:W} {P:Unit->Sto->Prop}:Sd0 (Ev (yI x i v S) P):=⟨id⟩
instance j10_dputM {S:Sto} {i:W} {x:W} {v:W} {P:Unit->Sto->Prop}:Sd10 (Ev (yI x i v S) P):=⟨id⟩
instance j0_setItM {S:Sto} {i:W} {x:W} {v:W} {P:Unit->Sto->Prop}:Sd0 (Ev (IE x i v S) P):=⟨id⟩
instance j10_setItM {S:Sto} {i:W} {x:W} {v:W} {P:Unit->Sto->Prop}:Sd10 (Ev (IE x i v S) P):=⟨id⟩
instance j0_setFM {S:Sto} {x:W} {v:W} {cs:List Str} {f:Str} {P:Unit->Sto->Prop}:Sd0 (Ev (LG cs f x v S) P):=⟨id⟩
instance j10_setFM {S:Sto} {x:W} {v:W} {cs:List Str} {f:Str} {P:Unit->Sto->Prop}:Sd10 (Ev (LG cs f x v S) P):=⟨id⟩
instance i_unlike {L:Lo} {S:Sto} {Q:W->Sto->Prop} {a:Lo->M W}:Nx (Ev (sZ a L S) Q) (Ev (a L S) λw S'=>∃ zs,(fA S' w).bind w8=some zs/\zs.length<=1000/\Q (.int (WA zs).length) S'):=⟨cS⟩
instance j0_dcN {p:Sto->Prop} {g:W->Lo->M Lo} {t:Lo->M Bool} {k:Lo->M W} {e:Lo->M W} {vs:List Nat} {L:Lo} {S:Sto} {Q:List (Key × W)->Sto->Prop} {acc:List (Key × W)}:Sd0 (Ev (WW p g t k e vs L [] acc S) Q):=⟨id⟩
instance j9_dcN {p:Sto->Prop} {g:W->Lo->M Lo} {t:Lo->M Bool} {k:Lo->M W} {e:Lo->M W} {vs:List Nat} {L:Lo} {S:Sto} {Q:List (Key × W)->Sto->Prop} {acc:List (Key × W)}:Sd9 (Ev (WW p g t k e vs L [] acc S) Q):=⟨id⟩
instance j0_dcC {p:Sto->Prop} {g:W->Lo->M Lo} {t:Lo->M Bool} {k:Lo->M W} {e:Lo->M W} {vs:List Nat} {L:Lo} {S:Sto} {Q:List (Key × W)->Sto->Prop} {x:W} {xs:List W} {acc:List (Key × W)}:Sd0 (Ev (WW p g t k e vs L (x :: xs) acc S) Q):=⟨id⟩
instance j9_dcC {p:Sto->Prop} {g:W->Lo->M Lo} {t:Lo->M Bool} {k:Lo->M W} {e:Lo->M W} {vs:List Nat} {L:Lo} {S:Sto} {Q:List (Key × W)->Sto->Prop} {x:W} {xs:List W} {acc:List (Key × W)}:Sd9 (Ev (WW p g t k e vs L (x :: xs) acc S) Q):=⟨id⟩
instance j0_dc2N {p:Sto->Prop} {g:W->Lo->M Lo} {g1:W->Lo->M Lo} {t:Lo->M Bool} {t1:Lo->M Bool} {it1:Lo->M Itm} {k:Lo->M W} {e:Lo->M W} {vs:List Nat} {vs1:List Nat} {L:Lo} {S:Sto} {Q:List (Key × W)->Sto->Prop} {acc:List (Key × W)}:Sd0 (Ev (EZ p g t it1 g1 t1 k e vs vs1 L [] acc S) Q):=⟨id⟩
instance j9_dc2N {p:Sto->Prop} {g:W->Lo->M Lo} {g1:W->Lo->M Lo} {t:Lo->M Bool} {t1:Lo->M Bool} {it1:Lo->M Itm} {k:Lo->M W} {e:Lo->M W} {vs:List Nat} {vs1:List Nat} {L:Lo} {S:Sto} {Q:List (Key × W)->Sto->Prop} {acc:List (Key × W)}:Sd9 (Ev (EZ p g t it1 g1 t1 k e vs vs1 L [] acc S) Q):=⟨id⟩
instance j0_dc2C {p:Sto->Prop} {g:W->Lo->M Lo} {g1:W->Lo->M Lo} {t:Lo->M Bool} {t1:Lo->M Bool} {it1:Lo->M Itm} {k:Lo->M W} {e:Lo->M W} {vs:List Nat} {vs1:List Nat} {L:Lo} {S:Sto} {Q:List (Key × W)->Sto->Prop} {x:W} {xs:List W} {acc:List (Key × W)}:Sd0 (Ev (EZ p g t it1 g1 t1 k e vs vs1 L (x :: xs) acc S) Q):=⟨id⟩
instance j9_dc2C {p:Sto->Prop} {g:W->Lo->M Lo} {g1:W->Lo->M Lo} {t:Lo->M Bool} {t1:Lo->M Bool} {it1:Lo->M Itm} {k:Lo->M W} {e:Lo->M W} {vs:List Nat} {vs1:List Nat} {L:Lo} {S:Sto} {Q:List (Key × W)->Sto->Prop} {x:W} {xs:List W} {acc:List (Key × W)}:Sd9 (Ev (EZ p g t it1 g1 t1 k e vs vs1 L (x :: xs) acc S) Q):=⟨id⟩
instance i_dc2 {g:W->Lo->M Lo} {g1:W->Lo->M Lo} {t:Lo->M Bool} {t1:Lo->M Bool} {it:Lo->M Itm} {it1:Lo->M Itm} {k:Lo->M W} {e:Lo->M W} {vs:List Nat} {vs1:List Nat} {L:Lo} {S:Sto} {Q:W->Sto->Prop}:Nx (Ev (ZUV it g t it1 g1 t1 k e vs vs1 L S) Q) (Ev (it L S) λI S'=>Ev (EZ I.live g t it1 g1 t1 k e vs vs1 L I.items [] S') λkvs S''=>Q (.dk (kvs.map (·.1)) (kvs.map (·.2))) S''):=⟨I1V⟩
instance j0_lc2E {p:Sto->Prop} {g:W->Lo->M Lo} {g1:W->Lo->M Lo} {t:Lo->M Bool} {t1:Lo->M Bool} {it1:Lo->M Itm} {e:Lo->M W} {vs:List Nat} {vs1:List Nat} {L:Lo} {Q:List W->Sto->Prop} {S:Sto} {acc:List W}:Sd0 (Ev (N1 p g t it1 g1 t1 e vs vs1 L [] acc S) Q):=⟨id⟩
instance j9_lc2E {p:Sto->Prop} {g:W->Lo->M Lo} {g1:W->Lo->M Lo} {t:Lo->M Bool} {t1:Lo->M Bool} {it1:Lo->M Itm} {e:Lo->M W} {vs:List Nat} {vs1:List Nat} {L:Lo} {Q:List W->Sto->Prop} {S:Sto} {acc:List W}:Sd9 (Ev (N1 p g t it1 g1 t1 e vs vs1 L [] acc S) Q):=⟨id⟩
instance j0_lc2C {p:Sto->Prop} {g:W->Lo->M Lo} {g1:W->Lo->M Lo} {t:Lo->M Bool} {t1:Lo->M Bool} {it1:Lo->M Itm} {e:Lo->M W} {vs:List Nat} {vs1:List Nat} {L:Lo} {Q:List W->Sto->Prop} {S:Sto} {x:W} {xs:List W} {acc:List W}:Sd0 (Ev (N1 p g t it1 g1 t1 e vs vs1 L (x :: xs) acc S) Q):=⟨id⟩
instance j9_lc2C {p:Sto->Prop} {g:W->Lo->M Lo} {g1:W->Lo->M Lo} {t:Lo->M Bool} {t1:Lo->M Bool} {it1:Lo->M Itm} {e:Lo->M W} {vs:List Nat} {vs1:List Nat} {L:Lo} {Q:List W->Sto->Prop} {S:Sto} {x:W} {xs:List W} {acc:List W}:Sd9 (Ev (N1 p g t it1 g1 t1 e vs vs1 L (x :: xs) acc S) Q):=⟨id⟩
instance i_lc2 {g:W->Lo->M Lo} {g1:W->Lo->M Lo} {t:Lo->M Bool} {t1:Lo->M Bool} {it1:Lo->M Itm} {e:Lo->M W} {vs:List Nat} {vs1:List Nat} {L:Lo} {Q:W->Sto->Prop} {S:Sto} {f:List W->M W} {it:Lo->M Itm}:Nx (Ev (YZ f it g t it1 g1 t1 e vs vs1 L S) Q) (Ev (it L S) λI S'=>Ev (N1 I.live g t it1 g1 t1 e vs vs1 L I.items [] S') λws S''=>Ev (f ws S'') Q):=⟨R4F⟩
instance j0_lcE {p:Sto->Prop} {g:W->Lo->M Lo} {t:Lo->M Bool} {e:Lo->M W} {vs:List Nat} {L:Lo} {Q:List W->Sto->Prop} {S:Sto} {acc:List W}:Sd0 (Ev (GH p g t e vs L [] acc S) Q):=⟨id⟩
instance j9_lcE {p:Sto->Prop} {g:W->Lo->M Lo} {t:Lo->M Bool} {e:Lo->M W} {vs:List Nat} {L:Lo} {Q:List W->Sto->Prop} {S:Sto} {acc:List W}:Sd9 (Ev (GH p g t e vs L [] acc S) Q):=⟨id⟩
instance j0_lcC {p:Sto->Prop} {g:W->Lo->M Lo} {t:Lo->M Bool} {e:Lo->M W} {vs:List Nat} {L:Lo} {Q:List W->Sto->Prop} {S:Sto} {x:W} {xs:List W} {acc:List W}:Sd0 (Ev (GH p g t e vs L (x :: xs) acc S) Q):=⟨id⟩
instance j9_lcC {p:Sto->Prop} {g:W->Lo->M Lo} {t:Lo->M Bool} {e:Lo->M W} {vs:List Nat} {L:Lo} {Q:List W->Sto->Prop} {S:Sto} {x:W} {xs:List W} {acc:List W}:Sd9 (Ev (GH p g t e vs L (x :: xs) acc S) Q):=⟨id⟩
instance i_lcB {g:W->Lo->M Lo} {t:Lo->M Bool} {e:Lo->M W} {vs:List Nat} {L:Lo} {Q:W->Sto->Prop} {f:List W->M W} {it:Lo->M Itm} {S:Sto}:Nx (Ev (wK f it g t e vs L S) Q) (Ev (it L S) λI S'=>Ev (GH I.live g t e vs L I.items [] S') λws S''=>Ev (f ws S'') Q):=⟨fY4⟩
instance i_itEnum {S:Sto} {L:Lo} {as:Lo->M (List W)} {Q:Itm->Sto->Prop}:Nx (Ev (TC as L S) Q) (Ev (as L S) λws S'=>∃ w xs,ws=[w]/\fA S' w=some xs/\Q ⟨xs.zipIdx.map λp=>.tup [.int (p.2:Nat),p.1],λS=>fA S w=some xs⟩ S'):=⟨JT⟩
instance i_itR1 {S:Sto} {L:Lo} {as:Lo->M (List W)} {Q:Itm->Sto->Prop}:Nx (Ev (itR1 as L S) Q) (Ev (as L S) λws S'=>∃ j:Int,ws=[.int j]/\0<=j/\j < 2 ^ 62/\Q (lS 0 j) S'):=⟨dQ⟩
instance i_itScr {S:Sto} {L:Lo} {a:Lo->M W} {Q:Itm->Sto->Prop}:Nx (Ev (MQ a L S) Q) (Ev (a L S) λw S'=>∃ ns,w = .scr ns/\Q ⟨ns.map .int,λ_=>True⟩ S'):=⟨cM⟩
instance i_itStr {S:Sto} {L:Lo} {a:Lo->M W} {Q:Itm->Sto->Prop}:Nx (Ev (Y7 a L S) Q) (Ev (a L S) λw S'=>∃ z:Str,w = .str z/\Q ⟨z.cps.toList.map λc=>.str ⟨#[c]⟩,λ_=>True⟩ S'):=⟨rS⟩
instance i_itSeq {S:Sto} {L:Lo} {a:Lo->M W} {Q:Itm->Sto->Prop}:Nx (Ev (pD a L S) Q) (Ev (a L S) λw S'=>∃ xs,yG S' w=some xs/\Q ⟨xs,λS=>yG S w=some xs⟩ S'):=⟨kT⟩
instance i_part {S:Sto} {L:Lo} {Q:Option Int->Sto->Prop} {a:Lo->M W}:Nx (Ev (dZ a L S) Q) (Ev (a L S) λx S'=>∃ i,x = .int i/\Q (some i) S'):=⟨hLu⟩
instance i_noP {S:Sto} {L:Lo} {Q:Option Int->Sto->Prop}:Nx (Ev (JA L S) Q) (Q none S):=⟨aPP⟩
instance i_pairsC {S:Sto} {L:Lo} {Q:List (W × W)->Sto->Prop} {a:Lo->M W} {b:Lo->M W} {ms:List ((Lo->M W) × (Lo->M W))}:Nx (Ev (NM ((a,b) :: ms) L S) Q) (Ev (a L S) λx S1=>Ev (b L S1) λy S2=>Ev (NM ms L S2) λps S3=>Q ((x,y) :: ps) S3):=⟨kJ⟩
instance i_pairsN {S:Sto} {L:Lo} {Q:List (W × W)->Sto->Prop}:Nx (Ev (NM [] L S) Q) (Q [] S):=⟨b9⟩
instance i_yes {S:Sto} {L:Lo} {Q:Bool->Sto->Prop}:Nx (Ev (dJ L S) Q) (Q true S):=⟨X9⟩
instance i_tru {S:Sto} {L:Lo} {Q:Bool->Sto->Prop} {a:Lo->M W}:Nx (Ev (YG a L S) Q) (Ev (a L S) λx S'=>∃ c,CZ S' x=some c/\Q c S'):=⟨eZE⟩
instance i_get2 {S:Sto} {L:Lo} {Q:W->Sto->Prop} {a:Lo->M W} {b:Lo->M W} {c:Lo->M W}:Nx (Ev (sX a b c L S) Q) (Ev (a L S) λx S1=>jY S1 x=true/\Ev (b L S1) λy S2=>Ev (c L S2) λz S3=>∃ o,qW S3 x y=some o/\Q (o.getD z) S3):=⟨WPy⟩
instance i_bm {S:Sto} {L:Lo} {Q:W->Sto->Prop} {a:Lo->M W} {as:Lo->M (List W)} {ty:Sto->W->Bool} {f:W->List W->M W}:Nx (Ev (mBM ty f a as L S) Q) (Ev (a L S) λx S'=>ty S' x=true/\Ev (as L S') λws S''=>Ev (f x ws S'') Q):=⟨nD3⟩
instance i_meth {S:Sto} {L:Lo} {Q:W->Sto->Prop} {a:Lo->M W} {as:Lo->M (List W)} {c_:Str} {m:Str} {f:List W->M W}:Nx (Ev (PL c_ m f a as L S) Q) (Ev (a L S) λx S'=>LP S' m x=some c_/\Ev (as L S') λws S''=>Ev (f (x :: ws) S'') Q):=⟨CV⟩
instance i_dispV {S:Sto} {L:Lo} {Q:W->Sto->Prop} {ms:List ((Lo->M W) × (Lo->M W))}:Nx (Ev (KZ ms L S) Q) (Ev (NM ms L S) λps S'=>∃ w,WG ps=some w/\Q w S'):=⟨TU⟩
instance i_dispS {S:Sto} {L:Lo} {Q:W->Sto->Prop} {ms:List ((Lo->M W) × (Lo->M W))}:Nx (Ev (xG ms L S) Q) (Ev (NM ms L S) λps S'=>∃ kvs,XS ps=some kvs/\kvs.length<=15/\Q (.ref S'.length) (S'++[.dk (qR [] kvs)])):=⟨yR⟩
instance i_sl {S:Sto} {L:Lo} {Q:W->Sto->Prop} {a:Lo->M W} {lo:Lo->M (Option Int)} {hi:Lo->M (Option Int)}:Nx (Ev (mSl a lo hi L S) Q) (Ev (a L S) λx S1=>Ev (lo L S1) λp S2=>Ev (hi L S2) λq S3=>∃ w,slW S3 x p q=some w/\Q w S3):=⟨oYV⟩
instance i_outN {S:Sto} {L:Lo} {Q:W->Sto->Prop}:Nx (Ev (oU (.nx L) S) Q) (Q .non S):=⟨X3V⟩
instance i_cnt {S:Sto} {L:Lo} {Q:Oc->Sto->Prop}:Nx (Ev (M5w L S) Q) (Q (.ct L) S):=⟨jOD⟩
instance i_brk {S:Sto} {L:Lo} {Q:Oc->Sto->Prop}:Nx (Ev (x8d L S) Q) (Q (.bk L) S):=⟨RFf⟩
instance i_ct {S:Sto} {L:Lo} {Q:Oc->Sto->Prop} {b:Lo->M Oc}:Nx (Ev (FS b (.ct L) S) Q) (Q (.ct L) S):=⟨sRm⟩
instance i_bk {S:Sto} {L:Lo} {Q:Oc->Sto->Prop} {b:Lo->M Oc}:Nx (Ev (FS b (.bk L) S) Q) (Q (.bk L) S):=⟨bNc⟩
instance i_frt {S:Sto} {w:W} {Q:Oc->Sto->Prop} {go:Lo->M Oc}:Nx (Ev (AU go (.rt w) S) Q) (Q (.rt w) S):=⟨tZB⟩
instance i_fbk {S:Sto} {L:Lo} {Q:Oc->Sto->Prop} {go:Lo->M Oc}:Nx (Ev (AU go (.bk L) S) Q) (Q (.nx L) S):=⟨tML⟩
instance i_fct {S:Sto} {L:Lo} {Q:Oc->Sto->Prop} {go:Lo->M Oc}:Nx (Ev (AU go (.ct L) S) Q) (Ev (go L S) Q):=⟨QIc⟩
instance i_fnx {S:Sto} {L:Lo} {Q:Oc->Sto->Prop} {go:Lo->M Oc}:Nx (Ev (AU go (.nx L) S) Q) (Ev (go L S) Q):=⟨YXH⟩
instance i_for {S:Sto} {L:Lo} {Q:Oc->Sto->Prop} {b:Lo->M Oc} {g:W->Lo->M Lo} {it:Lo->M Itm}:Nx (Ev (GN it g b L S) Q) (Ev (it L S) λI S'=>Ev (Y2 I.live g b I.items L S') Q):=⟨G1⟩
instance i_dput {S:Sto} {L:Lo} {v:Lo->M W} {Q:Oc->Sto->Prop} {k:Lo->M W} {d:Lo->M W}:Nx (Ev (cA d k v L S) Q) (Ev (v L S) λz S'=>Ev (d L S') λx S''=>Ev (k L S'') λy S3=>Ev (yI x y z S3) λ_ S4=>Q (.nx L) S4):=⟨hRd⟩
instance i_setF {S:Sto} {L:Lo} {Q:Oc->Sto->Prop} {e1:Lo->M W} {e2:Lo->M W} {cs:List Str} {f:Str}:Nx (Ev (mB cs f e1 e2 L S) Q) (Ev (e2 L S) λy S'=>Ev (e1 L S') λx S''=>Ev (LG cs f x y S'') λ_ S3=>Q (.nx L) S3):=⟨cVW⟩
instance i_par3 {S:Sto} {L:Lo} {i:Nat} {j:Nat} {l:Nat} {Q:Oc->Sto->Prop} {es:Lo->M (List W)}:Nx (Ev (PUy i j l es L S) Q) (Ev (es L S) λws S'=>∃ x y z,ws=[x,y,z]/\Q (.nx (((L.set i (some x)).set j (some y)).set l (some z))) S'):=⟨YED⟩
instance i_par {S:Sto} {L:Lo} {i:Nat} {j:Nat} {Q:Oc->Sto->Prop} {es:Lo->M (List W)}:Nx (Ev (IT i j es L S) Q) (Ev (es L S) λws S'=>∃ x y,ws=[x,y]/\Q (.nx ((L.set i (some x)).set j (some y))) S'):=⟨gVC⟩
instance i_drop {S:Sto} {L:Lo} {Q:Oc->Sto->Prop} {e:Lo->M W}:Nx (Ev (fX e L S) Q) (Ev (e L S) λ_ S'=>Q (.nx L) S'):=⟨CBT⟩
instance i_retN {S:Sto} {L:Lo} {Q:Oc->Sto->Prop}:Nx (Ev (GDV L S) Q) (Q (.rt .non) S):=⟨P6r⟩
instance i_chain {S:Sto} {L:Lo} {Q:W->Sto->Prop} {a:Lo->M W} {b:Lo->M W} {c:Lo->M W} {f:W->W->M W} {g:W->W->M W}:Nx (Ev (cG f g a b c L S) Q) (Ev (a L S) λx S1=>Ev (b L S1) λy S2=>Ev (f x y S2) λz S3=>∃ c_,z = .bl c_/\if c_=true then Ev (c L S3) λu S4=>Ev (g y u S4) Q else Q (.bl false) S3):=⟨iI⟩
instance i_notV {S:Sto} {L:Lo} {Q:W->Sto->Prop} {a:Lo->M W}:Nx (Ev (SJ a L S) Q) (Ev (a L S) λx S'=>∃ c,x = .bl c/\Q (.bl (!c)) S'):=⟨fIp⟩
instance i_orV {S:Sto} {L:Lo} {Q:W->Sto->Prop} {a:Lo->M W} {b:Lo->M W}:Nx (Ev (q5G a b L S) Q) (Ev (a L S) λx S'=>∃ c,x = .bl c/\if c=true then Q (.bl true) S' else Ev (b L S') Q):=⟨G0n⟩
instance i_andV {S:Sto} {L:Lo} {Q:W->Sto->Prop} {a:Lo->M W} {b:Lo->M W}:Nx (Ev (HS a b L S) Q) (Ev (a L S) λx S'=>∃ c,x = .bl c/\if c=true then Ev (b L S') Q else Q (.bl false) S'):=⟨fSN⟩
instance i_notT {S:Sto} {L:Lo} {Q:Bool->Sto->Prop} {k:Lo->M Bool}:Nx (Ev (o0 k L S) Q) (Ev (k L S) λc S'=>Q (!c) S'):=⟨JUQ⟩
instance i_orT {S:Sto} {L:Lo} {Q:Bool->Sto->Prop} {k:Lo->M Bool} {u:Lo->M Bool}:Nx (Ev (MU k u L S) Q) (Ev (k L S) λc S'=>if c=true then Q true S' else Ev (u L S') Q):=⟨yB⟩
instance i_andT {S:Sto} {L:Lo} {Q:Bool->Sto->Prop} {k:Lo->M Bool} {u:Lo->M Bool}:Nx (Ev (KP k u L S) Q) (Ev (k L S) λc S'=>if c=true then Ev (u L S') Q else Q false S'):=⟨tAo⟩
instance i_ifE {S:Sto} {L:Lo} {Q:W->Sto->Prop} {a:Lo->M W} {b:Lo->M W} {k:Lo->M Bool}:Nx (Ev (oF k a b L S) Q) (Ev (k L S) λc S'=>if c=true then Ev (a L S') Q else Ev (b L S') Q):=⟨F8N⟩
instance j0_opS {S:Sto} {x:W} {y:W} {Q:W->Sto->Prop} {f:Sto->W->W->Option W}:Sd0 (Ev (opS f x y S) Q):=⟨id⟩
instance j4_opS {S:Sto} {x:W} {y:W} {Q:W->Sto->Prop} {f:Sto->W->W->Option W}:Sd4 (Ev (opS f x y S) Q):=⟨id⟩
instance j0_callS {S:Sto} {ws:List W} {Q:W->Sto->Prop} {f:Sto->List W->Option W}:Sd0 (Ev (MI f ws S) Q):=⟨id⟩
instance j4_callS {S:Sto} {ws:List W} {Q:W->Sto->Prop} {f:Sto->List W->Option W}:Sd4 (Ev (MI f ws S) Q):=⟨id⟩
instance j0_lstM {S:Sto} {ws:List W} {Q:W->Sto->Prop}:Sd0 (Ev (aW ws S) Q):=⟨id⟩
instance j7_lstM {S:Sto} {ws:List W} {Q:W->Sto->Prop}:Sd7 (Ev (aW ws S) Q):=⟨id⟩
instance j0_tupM {S:Sto} {ws:List W} {Q:W->Sto->Prop}:Sd0 (Ev (TZ ws S) Q):=⟨id⟩
instance j7_tupM {S:Sto} {ws:List W} {Q:W->Sto->Prop}:Sd7 (Ev (TZ ws S) Q):=⟨id⟩
instance i_gIt {S:Sto} {L:Lo} {w:W} {Q:Lo->Sto->Prop} {a:Lo->M W} {b:Lo->M W}:Nx (Ev (gIt a b w L S) Q) (Ev (a L S) λx S1=>Ev (b L S1) λy S2=>Ev (IE x y w S2) λ_ S3=>Q L S3):=⟨dG⟩
instance i_gNo {S:Sto} {L:Lo} {Q:Lo->Sto->Prop}:Nx (Ev (gNo [] L S) Q) (Q L S):=⟨DZ7⟩
instance i_gCo {S:Sto} {L:Lo} {x:W} {ws:List W} {Q:Lo->Sto->Prop} {g:W->Lo->M Lo} {gs:List W->Lo->M Lo}:Nx (Ev (gCo g gs (x :: ws) L S) Q) (Ev (g x L S) λL' S'=>Ev (gs ws L' S') Q):=⟨RJI⟩
instance j0_gSt4 {S:Sto} {L:Lo} {w:W} {Q:Lo->Sto->Prop} {gs:List W->Lo->M Lo}:Sd0 (Ev (gSt 4 3 gs w L S) Q):=⟨id⟩
instance j8_gSt4 {S:Sto} {L:Lo} {w:W} {Q:Lo->Sto->Prop} {gs:List W->Lo->M Lo}:Sd8 (Ev (gSt 4 3 gs w L S) Q):=⟨id⟩
instance j0_gSt3 {S:Sto} {L:Lo} {w:W} {Q:Lo->Sto->Prop} {gs:List W->Lo->M Lo}:Sd0 (Ev (gSt 3 2 gs w L S) Q):=⟨id⟩
instance j8_gSt3 {S:Sto} {L:Lo} {w:W} {Q:Lo->Sto->Prop} {gs:List W->Lo->M Lo}:Sd8 (Ev (gSt 3 2 gs w L S) Q):=⟨id⟩
instance j0_gSt2 {S:Sto} {L:Lo} {w:W} {Q:Lo->Sto->Prop} {gs:List W->Lo->M Lo}:Sd0 (Ev (gSt 2 1 gs w L S) Q):=⟨id⟩
instance j8_gSt2 {S:Sto} {L:Lo} {w:W} {Q:Lo->Sto->Prop} {gs:List W->Lo->M Lo}:Sd8 (Ev (gSt 2 1 gs w L S) Q):=⟨id⟩
instance j0_gLs {S:Sto} {L:Lo} {n:Nat} {w:W} {Q:Lo->Sto->Prop} {gs:List W->Lo->M Lo}:Sd0 (Ev (gLs n gs w L S) Q):=⟨id⟩
instance j8_gLs {S:Sto} {L:Lo} {n:Nat} {w:W} {Q:Lo->Sto->Prop} {gs:List W->Lo->M Lo}:Sd8 (Ev (gLs n gs w L S) Q):=⟨id⟩
instance j0_gTu {S:Sto} {L:Lo} {n:Nat} {ws:List W} {Q:Lo->Sto->Prop} {gs:List W->Lo->M Lo}:Sd0 (Ev (gTu n gs (.tup ws) L S) Q):=⟨id⟩
instance j8_gTu {S:Sto} {L:Lo} {n:Nat} {ws:List W} {Q:Lo->Sto->Prop} {gs:List W->Lo->M Lo}:Sd8 (Ev (gTu n gs (.tup ws) L S) Q):=⟨id⟩
instance j0_pow {S:Sto} {i:Int} {j:Int} {Q:W->Sto->Prop}:Sd0 (Ev (opS (λ_=>sE) (.int i) (.int j) S) Q):=⟨id⟩
instance j4_pow {S:Sto} {i:Int} {j:Int} {Q:W->Sto->Prop}:Sd4 (Ev (opS (λ_=>sE) (.int i) (.int j) S) Q):=⟨id⟩
instance j0_mulR {S:Sto} {i:Int} {j:Int} {Q:W->Sto->Prop}:Sd0 (Ev (opS (λ_=>N9) (.int i) (.int j) S) Q):=⟨id⟩
instance j4_mulR {S:Sto} {i:Int} {j:Int} {Q:W->Sto->Prop}:Sd4 (Ev (opS (λ_=>N9) (.int i) (.int j) S) Q):=⟨id⟩
instance j0_mulL {S:Sto} {i:Int} {j:Int} {Q:W->Sto->Prop}:Sd0 (Ev (opS (λ_=>N9) (.int i) (.int j) S) Q):=⟨id⟩
instance j4_mulL {S:Sto} {i:Int} {j:Int} {Q:W->Sto->Prop}:Sd4 (Ev (opS (λ_=>N9) (.int i) (.int j) S) Q):=⟨id⟩
instance j0_div {S:Sto} {i:Int} {j:Int} {Q:W->Sto->Prop}:Sd0 (Ev (opS (λ_=>NL) (.int i) (.int j) S) Q):=⟨id⟩
instance j4_div {S:Sto} {i:Int} {j:Int} {Q:W->Sto->Prop}:Sd4 (Ev (opS (λ_=>NL) (.int i) (.int j) S) Q):=⟨id⟩
instance j0_mod {S:Sto} {i:Int} {j:Int} {Q:W->Sto->Prop}:Sd0 (Ev (opS (λ_=>YE) (.int i) (.int j) S) Q):=⟨id⟩
instance j4_mod {S:Sto} {i:Int} {j:Int} {Q:W->Sto->Prop}:Sd4 (Ev (opS (λ_=>YE) (.int i) (.int j) S) Q):=⟨id⟩
instance i_subI {S:Sto} {i:Int} {j:Int} {Q:W->Sto->Prop}:Nx (Ev (opS (λ_=>k6) (.int i) (.int j) S) Q) (Q (.int (i - j)) S):=⟨zIY⟩
instance i_addI {S:Sto} {i:Int} {j:Int} {Q:W->Sto->Prop}:Nx (Ev (opS MY (.int i) (.int j) S) Q) (Q (.int (i+j)) S):=⟨CO1⟩
instance i_geI {S:Sto} {i:Int} {j:Int} {Q:W->Sto->Prop}:Nx (Ev (opS (λ_=>geW) (.int i) (.int j) S) Q) (Q (.bl (decide (j<=i))) S):=⟨K5v⟩
instance i_gtI {S:Sto} {i:Int} {j:Int} {Q:W->Sto->Prop}:Nx (Ev (opS (λ_=>gtW) (.int i) (.int j) S) Q) (Q (.bl (decide (j < i))) S):=⟨n5j⟩
instance i_leI {S:Sto} {i:Int} {j:Int} {Q:W->Sto->Prop}:Nx (Ev (opS (λ_=>leW) (.int i) (.int j) S) Q) (Q (.bl (decide (i<=j))) S):=⟨rMY⟩
instance i_ltI {S:Sto} {i:Int} {j:Int} {Q:W->Sto->Prop}:Nx (Ev (opS (λ_=>ltW) (.int i) (.int j) S) Q) (Q (.bl (decide (i < j))) S):=⟨W9m⟩
instance i_neI {S:Sto} {i:Int} {j:Int} {Q:W->Sto->Prop}:Nx (Ev (opS (λS x y=>(eqW S x y).map λb=>W.bl (!b)) (.int i) (.int j) S) Q) (Q (.bl (!decide (i=j))) S):=⟨d2h⟩
instance i_eqI {S:Sto} {i:Int} {j:Int} {Q:W->Sto->Prop}:Nx (Ev (opS (λS x y=>(eqW S x y).map W.bl) (.int i) (.int j) S) Q) (Q (.bl (decide (i=j))) S):=⟨U0z⟩
instance i_neS {S:Sto} {Q:W->Sto->Prop} {a:Str} {b:Str}:Nx (Ev (opS (λS x y=>(eqW S x y).map λb=>W.bl (!b)) (.str a) (.str b) S) Q) (Q (.bl (!decide (a=b))) S):=⟨qMd⟩
instance i_next {S:Sto} {L:Lo} {Q:Oc->Sto->Prop}:Nx (Ev (dF L S) Q) (Q (.nx L) S):=⟨cZ8⟩
instance j0_dget {S:Sto} {x:W} {y:W} {Q:W->Sto->Prop}:Sd0 (Ev (sT x y S) Q):=⟨id⟩
instance j3_dget {S:Sto} {x:W} {y:W} {Q:W->Sto->Prop}:Sd3 (Ev (sT x y S) Q):=⟨id⟩
instance i_fld {S:Sto} {L:Lo} {Q:W->Sto->Prop} {a:Lo->M W} {f:Str}:Nx (Ev (xI f a L S) Q) (Ev (a L S) λx S'=>∃ w,P8 S' f x=some w/\Q w S'):=⟨K3r⟩
instance i_outR {S:Sto} {w:W} {Q:W->Sto->Prop}:Nx (Ev (oU (.rt w) S) Q) (Q w S):=⟨jLK⟩
instance i_rt {S:Sto} {w:W} {Q:Oc->Sto->Prop} {b:Lo->M Oc}:Nx (Ev (FS b (.rt w) S) Q) (Q (.rt w) S):=⟨OBH⟩
instance i_retS {S:Sto} {L:Lo} {Q:Oc->Sto->Prop} {e:Lo->M W}:Nx (Ev (iE e L S) Q) (Ev (e L S) λw S'=>Q (.rt w) S'):=⟨XEB⟩
instance i_nam {S:Sto} {L:Lo} {i:Nat} {w:W} {Q:Lo->Sto->Prop}:Nx (Ev (fU i w L S) Q) (Q (L.set i (some w)) S):=⟨fR⟩
instance i_asg {S:Sto} {L:Lo} {Q:Oc->Sto->Prop} {e:Lo->M W} {g:W->Lo->M Lo}:Nx (Ev (O0 e g L S) Q) (Ev (e L S) λw S'=>Ev (g w L S') λL' S''=>Q (.nx L') S''):=⟨aR⟩
instance i_if {S:Sto} {L:Lo} {Q:Oc->Sto->Prop} {t:Lo->M Oc} {u:Lo->M Oc} {k:Lo->M Bool}:Nx (Ev (mIf k t u L S) Q) (Ev (k L S) λc S'=>if c=true then Ev (t L S') Q else Ev (u L S') Q):=⟨UA1⟩
instance i_nx {S:Sto} {L:Lo} {Q:Oc->Sto->Prop} {b:Lo->M Oc}:Nx (Ev (FS b (.nx L) S) Q) (Ev (b L S) Q):=⟨GM⟩
instance i_seq {S:Sto} {L:Lo} {Q:Oc->Sto->Prop} {a:Lo->M Oc} {b:Lo->M Oc}:Nx (Ev (kO a b L S) Q) (Ev (a L S) λo S'=>Ev (FS b o S') Q):=⟨E9⟩
instance i_call {S:Sto} {L:Lo} {Q:W->Sto->Prop} {as:Lo->M (List W)} {f:List W->M W}:Nx (Ev (fD f as L S) Q) (Ev (as L S) λws S'=>Ev (f ws S') Q):=⟨N0⟩
instance i_cons {S:Sto} {L:Lo} {Q:List W->Sto->Prop} {a:Lo->M W} {as:Lo->M (List W)}:Nx (Ev (O9 a as L S) Q) (Ev (a L S) λx S'=>Ev (as L S') λxs S''=>Q (x :: xs) S''):=⟨mO⟩
instance i_nil {S:Sto} {L:Lo} {Q:List W->Sto->Prop}:Nx (Ev (JN L S) Q) (Q [] S):=⟨k8⟩
instance j0_ix {S:Sto} {x:W} {y:W} {Q:W->Sto->Prop}:Sd0 (Ev (ixM x y S) Q):=⟨id⟩
instance j3_ix {S:Sto} {x:W} {y:W} {Q:W->Sto->Prop}:Sd3 (Ev (ixM x y S) Q):=⟨id⟩
instance i_eqS {S:Sto} {Q:W->Sto->Prop} {a:Str} {b:Str}:Nx (Ev (opS (λS x y=>(eqW S x y).map W.bl) (.str a) (.str b) S) Q) (Q (.bl (decide (a=b))) S):=⟨M8R⟩
instance i_xB {c0:Bool} {P:Bool->Prop}:Nx (∃ c,W.bl c0=W.bl c/\P c) (P c0):=⟨oT9⟩
instance i_tst {S:Sto} {L:Lo} {Q:Bool->Sto->Prop} {a:Lo->M W}:Nx (Ev (tW a L S) Q) (Ev (a L S) λx S'=>∃ c,x = .bl c/\Q c S'):=⟨iP⟩
instance j0_else {c:Bool} {p:Prop} {q:Prop}:Sd0 (if c=true then p else q):=⟨id⟩
instance j2_else {c:Bool} {p:Prop} {q:Prop}:Sd2 (if c=true then p else q):=⟨id⟩
instance j0_then {c:Bool} {p:Prop} {q:Prop}:Sd0 (if c=true then p else q):=⟨id⟩
instance j2_then {c:Bool} {p:Prop} {q:Prop}:Sd2 (if c=true then p else q):=⟨id⟩
instance i_op {S:Sto} {L:Lo} {Q:W->Sto->Prop} {a:Lo->M W} {b:Lo->M W} {f:W->W->M W}:Nx (Ev (mOp f a b L S) Q) (Ev (a L S) λx S'=>Ev (b L S') λy S''=>Ev (f x y S'') Q):=⟨kG⟩
instance i_c {S:Sto} {L:Lo} {w:W} {Q:W->Sto->Prop}:Nx (Ev (mC w L S) Q) (Q w S):=⟨GL8⟩
instance j0_var {S:Sto} {L:Lo} {i:Nat} {Q:W->Sto->Prop}:Sd0 (Ev (uV i L S) Q):=⟨id⟩
instance j1_var {S:Sto} {L:Lo} {i:Nat} {Q:W->Sto->Prop}:Sd1 (Ev (uV i L S) Q):=⟨id⟩
instance i_itEnumU {as:Lo->M (List W)} {L:Lo} {S:Sto} {Q:Itm->Sto->Prop}:Nx (Ev (BN as L S) Q) (Ev (as L S) λws S'=>∃ w xs,ws=[w]/\oV S' w=some xs/\Q ⟨xs.zipIdx.map λp=>.tup [.int (p.2:Nat),p.1],λS=>oV S w=some xs⟩ S'):=⟨kB⟩
instance j0_orC {m:Str} {c1:Str} {c2:Str} {f1:List W->M W} {f2:List W->M W} {i:Nat} {as:Lo->M (List W)} {L:Lo} {S:Sto} {Q:W->Sto->Prop}:Sd0 (Ev (mOr (PL c1 m f1 (uV i) as) (PL c2 m f2 (uV i) as) L S) Q):=⟨id⟩
instance j11_orC {m:Str} {c1:Str} {c2:Str} {f1:List W->M W} {f2:List W->M W} {i:Nat} {as:Lo->M (List W)} {L:Lo} {S:Sto} {Q:W->Sto->Prop}:Sd11 (Ev (mOr (PL c1 m f1 (uV i) as) (PL c2 m f2 (uV i) as) L S) Q):=⟨id⟩
instance j0_orB {m:Str} {c1:Str} {f1:List W->M W} {i:Nat} {as:Lo->M (List W)} {m2:Lo->M W} {L:Lo} {S:Sto} {Q:W->Sto->Prop}:Sd0 (Ev (mOr (PL c1 m f1 (uV i) as) m2 L S) Q):=⟨id⟩
instance j11_orB {m:Str} {c1:Str} {f1:List W->M W} {i:Nat} {as:Lo->M (List W)} {m2:Lo->M W} {L:Lo} {S:Sto} {Q:W->Sto->Prop}:Sd11 (Ev (mOr (PL c1 m f1 (uV i) as) m2 L S) Q):=⟨id⟩
structure Kp (R:Prop):Prop where
 get:R
theorem AH {P R:Prop} (k:R) (h:Kp R->P:=by(intro k;(first|with_reducible refine Nx.go ?_|((with_reducible refine Sd0.go ?_);(first|((with_reducible refine Sd1.go ?_);((with_reducible refine C6 (w:=?_) ?_ ?_);rotate_left 1;rfl))|((with_reducible refine Sd2.go ?_);(first|((with_reducible refine nN ?_ ?_);(first|with_reducible rfl|decide +kernel))|((with_reducible refine RD ?_ ?_);(first|with_reducible rfl|decide +kernel))))|((with_reducible refine Sd3.go ?_);(first|((with_reducible refine zB (w:=?_) ?_ ?_);rotate_left 1;focus ((conv=>lhs;whnf;arg 1;whnf);done))|((with_reducible refine yQ (w:=?_) ?_ ?_);rotate_left 1;focus ((conv=>lhs;whnf;arg 1;whnf);done))))|((with_reducible refine Sd4.go ?_);(first|((with_reducible refine y4 ?_ ?_);(first|assumption|omega))|((with_reducible refine zH ?_ ?_ ?_);(first|assumption|omega);(first|assumption|omega))|((with_reducible refine fF ?_ ?_ ?_);omega;omega)|((with_reducible refine DA ?_ ?_ ?_);omega;omega)|((with_reducible refine gD ?_ ?_ ?_ ?_);omega;omega;omega)|((with_reducible refine jK (w:=?_) ?_ ?_);rotate_left 1;focus ((conv=>lhs;whnf;arg 1;whnf);done))|((with_reducible refine G6 (w:=?_) ?_ ?_);rotate_left 1;focus ((conv=>lhs;whnf;arg 1;whnf);done))))|((with_reducible refine Sd5.go ?_);(first|((with_reducible refine eHW (a:=?_) ?_ ?_);rotate_left 1;focus ((conv=>lhs;whnf;arg 1;whnf);done))|((with_reducible refine ECE ?_ ?_ ?_);(first|omega|decide);(first|omega|decide))|((with_reducible refine TWv (xs:=?_) ?_ ?_);rotate_left 1;focus ((conv=>lhs;whnf;arg 1;whnf);done))))|((with_reducible refine Sd6.go ?_);(first|((with_reducible refine JZ1 ?_ ?_);(first|decide +kernel|rfl))|((with_reducible refine NAF ?_ ?_);rfl)|((with_reducible refine RGB ?_ ?_);rfl)|((with_reducible refine jIt ?_ ?_);rfl)))|((with_reducible refine Sd7.go ?_);(first|((with_reducible refine DI ?_ ?_);exact of_decide_eq_true rfl)|((with_reducible refine UU ?_ ?_);exact of_decide_eq_true rfl)|((with_reducible refine iY ?_ ?_);exact of_decide_eq_true rfl)))|((with_reducible refine Sd8.go ?_);(first|((with_reducible refine LQ ?_ ?_);rfl)|((with_reducible refine sN (xs:=?_) ?_ ?_ ?_);rotate_left 1;rfl;rfl)|((with_reducible refine YN (x:=?_) (xs:=?_) ?_ ?_ ?_);rotate_left 2;rfl;exact of_decide_eq_true rfl)|((with_reducible refine p9 (x:=?_) (y:=?_) (xs:=?_) ?_ ?_ ?_);rotate_left 3;rfl;exact of_decide_eq_true rfl)|((with_reducible refine J8 (x:=?_) (y:=?_) (z:=?_) (xs:=?_) ?_ ?_ ?_);rotate_left 4;rfl;exact of_decide_eq_true rfl)))|((with_reducible refine Sd9.go ?_);(first|((with_reducible refine tK ?_ ?_);(first|exact rfl|exact True.intro))|((with_reducible refine EL (acc':=?_) ?_ ?_ ?_);rotate_left 1;(first|exact rfl|exact True.intro);(first|focus ((conv=>lhs;simp only[jv,zh]);done)|exact rfl))|((with_reducible refine L9 ?_ ?_);(first|exact rfl|exact True.intro))|((with_reducible refine V3 (acc':=?_) ?_ ?_ ?_);rotate_left 1;(first|exact rfl|exact True.intro);(first|focus ((conv=>lhs;simp only[jv,zh]);done)|exact rfl))|((with_reducible refine wX ?_ ?_);(first|exact rfl|exact True.intro))|((with_reducible refine XH ?_ ?_);(first|exact rfl|exact True.intro))|((with_reducible refine DJ ?_ ?_);(first|exact rfl|exact True.intro))|((with_reducible refine aH ?_ ?_);(first|exact rfl|exact True.intro))|((with_reducible refine iK ?_ ?_);(first|exact rfl|exact True.intro))|((with_reducible refine E2 ?_ ?_);(first|exact rfl|exact True.intro))))|((with_reducible refine Sd10.go ?_);(first|((with_reducible refine AJ (p:=?_) (S':=?_) ?_ ?_);rotate_left 2;rfl)|((with_reducible refine QJ (p:=?_) (S':=?_) ?_ ?_);rotate_left 2;rfl)|((with_reducible refine aO (p:=?_) (S':=?_) ?_ ?_);rotate_left 2;rfl)|((with_reducible refine uQ (w:=?_) (S':=?_) ?_ ?_);rotate_left 2;rfl)|((with_reducible refine XX (w:=?_) (S':=?_) ?_ ?_);rotate_left 2;rfl)))|((with_reducible refine Sd11.go ?_);(first|((with_reducible refine OM (w:=?_) ?_ ?_ ?_);rotate_left 1;rfl;rfl)|((with_reducible refine rR (w:=?_) ?_ ?_ ?_ ?_);rotate_left 1;rfl;rfl;decide +kernel))))));(repeat (first|with_reducible refine Nx.go ?_|((with_reducible refine Sd0.go ?_);(first|((with_reducible refine Sd1.go ?_);((with_reducible refine C6 (w:=?_) ?_ ?_);rotate_left 1;rfl))|((with_reducible refine Sd2.go ?_);(first|((with_reducible refine nN ?_ ?_);(first|with_reducible rfl|decide +kernel))|((with_reducible refine RD ?_ ?_);(first|with_reducible rfl|decide +kernel))))|((with_reducible refine Sd3.go ?_);(first|((with_reducible refine zB (w:=?_) ?_ ?_);rotate_left 1;focus ((conv=>lhs;whnf;arg 1;whnf);done))|((with_reducible refine yQ (w:=?_) ?_ ?_);rotate_left 1;focus ((conv=>lhs;whnf;arg 1;whnf);done))))|((with_reducible refine Sd4.go ?_);(first|((with_reducible refine y4 ?_ ?_);(first|assumption|omega))|((with_reducible refine zH ?_ ?_ ?_);(first|assumption|omega);(first|assumption|omega))|((with_reducible refine fF ?_ ?_ ?_);omega;omega)|((with_reducible refine DA ?_ ?_ ?_);omega;omega)|((with_reducible refine gD ?_ ?_ ?_ ?_);omega;omega;omega)|((with_reducible refine jK (w:=?_) ?_ ?_);rotate_left 1;focus ((conv=>lhs;whnf;arg 1;whnf);done))|((with_reducible refine G6 (w:=?_) ?_ ?_);rotate_left 1;focus ((conv=>lhs;whnf;arg 1;whnf);done))))|((with_reducible refine Sd5.go ?_);(first|((with_reducible refine eHW (a:=?_) ?_ ?_);rotate_left 1;focus ((conv=>lhs;whnf;arg 1;whnf);done))|((with_reducible refine ECE ?_ ?_ ?_);(first|omega|decide);(first|omega|decide))|((with_reducible refine TWv (xs:=?_) ?_ ?_);rotate_left 1;focus ((conv=>lhs;whnf;arg 1;whnf);done))))|((with_reducible refine Sd6.go ?_);(first|((with_reducible refine JZ1 ?_ ?_);(first|decide +kernel|rfl))|((with_reducible refine NAF ?_ ?_);rfl)|((with_reducible refine RGB ?_ ?_);rfl)|((with_reducible refine jIt ?_ ?_);rfl)))|((with_reducible refine Sd7.go ?_);(first|((with_reducible refine DI ?_ ?_);exact of_decide_eq_true rfl)|((with_reducible refine UU ?_ ?_);exact of_decide_eq_true rfl)|((with_reducible refine iY ?_ ?_);exact of_decide_eq_true rfl)))|((with_reducible refine Sd8.go ?_);(first|((with_reducible refine LQ ?_ ?_);rfl)|((with_reducible refine sN (xs:=?_) ?_ ?_ ?_);rotate_left 1;rfl;rfl)|((with_reducible refine YN (x:=?_) (xs:=?_) ?_ ?_ ?_);rotate_left 2;rfl;exact of_decide_eq_true rfl)|((with_reducible refine p9 (x:=?_) (y:=?_) (xs:=?_) ?_ ?_ ?_);rotate_left 3;rfl;exact of_decide_eq_true rfl)|((with_reducible refine J8 (x:=?_) (y:=?_) (z:=?_) (xs:=?_) ?_ ?_ ?_);rotate_left 4;rfl;exact of_decide_eq_true rfl)))|((with_reducible refine Sd9.go ?_);(first|((with_reducible refine tK ?_ ?_);(first|exact rfl|exact True.intro))|((with_reducible refine EL (acc':=?_) ?_ ?_ ?_);rotate_left 1;(first|exact rfl|exact True.intro);(first|focus ((conv=>lhs;simp only[jv,zh]);done)|exact rfl))|((with_reducible refine L9 ?_ ?_);(first|exact rfl|exact True.intro))|((with_reducible refine V3 (acc':=?_) ?_ ?_ ?_);rotate_left 1;(first|exact rfl|exact True.intro);(first|focus ((conv=>lhs;simp only[jv,zh]);done)|exact rfl))|((with_reducible refine wX ?_ ?_);(first|exact rfl|exact True.intro))|((with_reducible refine XH ?_ ?_);(first|exact rfl|exact True.intro))|((with_reducible refine DJ ?_ ?_);(first|exact rfl|exact True.intro))|((with_reducible refine aH ?_ ?_);(first|exact rfl|exact True.intro))|((with_reducible refine iK ?_ ?_);(first|exact rfl|exact True.intro))|((with_reducible refine E2 ?_ ?_);(first|exact rfl|exact True.intro))))|((with_reducible refine Sd10.go ?_);(first|((with_reducible refine AJ (p:=?_) (S':=?_) ?_ ?_);rotate_left 2;rfl)|((with_reducible refine QJ (p:=?_) (S':=?_) ?_ ?_);rotate_left 2;rfl)|((with_reducible refine aO (p:=?_) (S':=?_) ?_ ?_);rotate_left 2;rfl)|((with_reducible refine uQ (w:=?_) (S':=?_) ?_ ?_);rotate_left 2;rfl)|((with_reducible refine XX (w:=?_) (S':=?_) ?_ ?_);rotate_left 2;rfl)))|((with_reducible refine Sd11.go ?_);(first|((with_reducible refine OM (w:=?_) ?_ ?_ ?_);rotate_left 1;rfl;rfl)|((with_reducible refine rR (w:=?_) ?_ ?_ ?_ ?_);rotate_left 1;rfl;rfl;decide +kernel)))))));exact k.get)):P:=h ⟨k⟩
theorem uT {P R:Prop} (k:R) (h:Kp R->P:=by(intro k;(first|with_reducible refine Nx.go ?_|((with_reducible refine Sd0.go ?_);(first|((with_reducible refine Sd1.go ?_);((with_reducible refine C6 (w:=?_) ?_ ?_);rotate_left 1;rfl))|((with_reducible refine Sd2.go ?_);(first|((with_reducible refine nN ?_ ?_);(first|with_reducible rfl|decide +kernel))|((with_reducible refine RD ?_ ?_);(first|with_reducible rfl|decide +kernel))))|((with_reducible refine Sd3.go ?_);(first|((with_reducible refine zB (w:=?_) ?_ ?_);rotate_left 1;focus ((conv=>lhs;whnf;arg 1;whnf);done))|((with_reducible refine yQ (w:=?_) ?_ ?_);rotate_left 1;focus ((conv=>lhs;whnf;arg 1;whnf);done))))|((with_reducible refine Sd4.go ?_);(first|((with_reducible refine y4 ?_ ?_);(first|assumption|omega))|((with_reducible refine zH ?_ ?_ ?_);(first|assumption|omega);(first|assumption|omega))|((with_reducible refine fF ?_ ?_ ?_);omega;omega)|((with_reducible refine DA ?_ ?_ ?_);omega;omega)|((with_reducible refine gD ?_ ?_ ?_ ?_);omega;omega;omega)|((with_reducible refine jK (w:=?_) ?_ ?_);rotate_left 1;focus ((conv=>lhs;whnf;arg 1;whnf);done))|((with_reducible refine G6 (w:=?_) ?_ ?_);rotate_left 1;focus ((conv=>lhs;whnf;arg 1;whnf);done))))|((with_reducible refine Sd5.go ?_);(first|((with_reducible refine eHW (a:=?_) ?_ ?_);rotate_left 1;focus ((conv=>lhs;whnf;arg 1;whnf);done))|((with_reducible refine ECE ?_ ?_ ?_);(first|omega|decide);(first|omega|decide))|((with_reducible refine TWv (xs:=?_) ?_ ?_);rotate_left 1;focus ((conv=>lhs;whnf;arg 1;whnf);done))))|((with_reducible refine Sd6.go ?_);(first|((with_reducible refine JZ1 ?_ ?_);(first|decide +kernel|rfl))|((with_reducible refine NAF ?_ ?_);rfl)|((with_reducible refine RGB ?_ ?_);rfl)|((with_reducible refine jIt ?_ ?_);rfl)))|((with_reducible refine Sd7.go ?_);(first|((with_reducible refine DI ?_ ?_);exact of_decide_eq_true rfl)|((with_reducible refine UU ?_ ?_);exact of_decide_eq_true rfl)|((with_reducible refine iY ?_ ?_);exact of_decide_eq_true rfl)))|((with_reducible refine Sd8.go ?_);(first|((with_reducible refine LQ ?_ ?_);rfl)|((with_reducible refine sN (xs:=?_) ?_ ?_ ?_);rotate_left 1;rfl;rfl)|((with_reducible refine YN (x:=?_) (xs:=?_) ?_ ?_ ?_);rotate_left 2;rfl;exact of_decide_eq_true rfl)|((with_reducible refine p9 (x:=?_) (y:=?_) (xs:=?_) ?_ ?_ ?_);rotate_left 3;rfl;exact of_decide_eq_true rfl)|((with_reducible refine J8 (x:=?_) (y:=?_) (z:=?_) (xs:=?_) ?_ ?_ ?_);rotate_left 4;rfl;exact of_decide_eq_true rfl)))|((with_reducible refine Sd9.go ?_);(first|((with_reducible refine tK ?_ ?_);(first|exact rfl|exact True.intro))|((with_reducible refine EL (acc':=?_) ?_ ?_ ?_);rotate_left 1;(first|exact rfl|exact True.intro);(first|focus ((conv=>lhs;simp only[jv,zh]);done)|exact rfl))|((with_reducible refine L9 ?_ ?_);(first|exact rfl|exact True.intro))|((with_reducible refine V3 (acc':=?_) ?_ ?_ ?_);rotate_left 1;(first|exact rfl|exact True.intro);(first|focus ((conv=>lhs;simp only[jv,zh]);done)|exact rfl))|((with_reducible refine wX ?_ ?_);(first|exact rfl|exact True.intro))|((with_reducible refine XH ?_ ?_);(first|exact rfl|exact True.intro))|((with_reducible refine DJ ?_ ?_);(first|exact rfl|exact True.intro))|((with_reducible refine aH ?_ ?_);(first|exact rfl|exact True.intro))|((with_reducible refine iK ?_ ?_);(first|exact rfl|exact True.intro))|((with_reducible refine E2 ?_ ?_);(first|exact rfl|exact True.intro))))|((with_reducible refine Sd10.go ?_);(first|((with_reducible refine AJ (p:=?_) (S':=?_) ?_ ?_);rotate_left 2;rfl)|((with_reducible refine QJ (p:=?_) (S':=?_) ?_ ?_);rotate_left 2;rfl)|((with_reducible refine aO (p:=?_) (S':=?_) ?_ ?_);rotate_left 2;rfl)|((with_reducible refine uQ (w:=?_) (S':=?_) ?_ ?_);rotate_left 2;rfl)|((with_reducible refine XX (w:=?_) (S':=?_) ?_ ?_);rotate_left 2;rfl)))|((with_reducible refine Sd11.go ?_);(first|((with_reducible refine OM (w:=?_) ?_ ?_ ?_);rotate_left 1;rfl;rfl)|((with_reducible refine rR (w:=?_) ?_ ?_ ?_ ?_);rotate_left 1;rfl;rfl;decide +kernel))))));exact k.get)):P:=h ⟨k⟩
def vY (gs:List Int) (r t sd:Int) (cs:List Int) (R:Sto):Sto:=.lst (gs.map .int) :: .dk [(.inr "great",.ref 0),(.inr "rest",.int r),(.inr "turn",.int t),(.inr "seed",.int sd),(.inr "cells",.lst (cs.map .int))] :: R
def Dw (n:Nat) (R S:Sto):Prop:=∃ gs r t sd cs,S=vY gs r t sd cs R/\(∀ g ∈ gs,0<=g)/\0<=r/\0<=t/\t+n<=1000000000/\0<=sd/\sd < 2147483647/\cs ≠ []/\(∀ c ∈ cs,0<=c/\c < 2147483629)
theorem JO {n:Nat}:∀ xs:List Int,cH n (xs.map W.int)=true
 | []=>rfl
 | x :: xs=>by
  rw[jn,cH,JO xs]
  rfl
theorem Dw.mono {n m:Nat} {R S:Sto} (h:Dw m R S) (le:n<=m):Dw n R S:=by
 obtain⟨gs,r,t,sd,cs,h1,h2,h3,h4,h5,h6⟩:=h
 exact⟨gs,r,t,sd,cs,h1,h2,h3,h4,by omega,h6⟩
theorem QD {f:Nat->Option PyData}:∀ xs:List Int,MJ f (xs.map W.int)=some (xs.map .int)
 | []=>rfl
 | x :: xs=>by
  rw[jn,MJ,QD xs]
  rfl
section
variable {gs:List Int} {r t sd:Int} {cs:List Int} {R:Sto}
theorem WD {v:Int}:yI (.ref 1) (.str "rest") (.int v) (vY gs r t sd cs R)=some (.ok (),vY gs v t sd cs R):=rfl
theorem R7 {v:Int}:yI (.ref 1) (.str "turn") (.int v) (vY gs r t sd cs R)=some (.ok (),vY gs r v sd cs R):=rfl
theorem EC {v:Int}:yI (.ref 1) (.str "seed") (.int v) (vY gs r t sd cs R)=some (.ok (),vY gs r t v cs R):=rfl
theorem gX:(λS x y=>Qf (λb=>W.bl !b) (eqW S x y)) (vY gs r t sd cs R) (.ref 0) (.lst [])=some (.bl (!gs.isEmpty)):=by
 have h1:toD (vY gs r t sd cs R) (.ref 0)=some (.list (gs.map .int)):=by
  show(f30 (gs.map W.int)).map PyData.list=_
  unfold f30
  rw[QD]
  rfl
 have h2:toD (vY gs r t sd cs R) (.lst [])=some (.list []):=rfl
 have e:eqW (vY gs r t sd cs R) (.ref 0) (.lst [])=some gs.isEmpty:=by
  unfold eqW
  rw[h1,h2]
  show(if SeqAt.shaped (.list (gs.map .int)) && SeqAt.shaped (.list []) then some (PyData.eqv (.list (gs.map .int)) (.list [])) else none)=_
  rw[PySem.W.ke_shaped_ints,show SeqAt.shaped (.list [])=true from PySem.W.ke_shaped_ints []]
  show some _=_
  cases gs <;> simp [PyData.eqv,PyData.eqvAll]
 show Qf (λb=>W.bl !b) (eqW (vY gs r t sd cs R) (.ref 0) (.lst []))=_
 rw[e]
 rfl
theorem ND {g:Int}:QR (.ref 0) [.int 0] (vY (g :: gs) r t sd cs R)=some (.ok (.int g),vY gs r t sd cs R):=by
 have e:seqIndex? 0 (gs.map W.int).length.succ=some 0:=by
  unfold seqIndex?
  simp
 show(match (match seqIndex? 0 (gs.map W.int).length.succ with
  | some k=>(W.int g :: gs.map W.int)[k]?.map λy=>(y,(W.int g :: gs.map W.int).eraseIdx k)
  | none=>none) with
  | some (w,ys)=>some (Res.ok w,(vY (g :: gs) r t sd cs R).set 0 (.lst ys))
  | none=>none)=_
 rw[e]
 rfl
end
theorem KG {S:Sto} {cs:List Int} {P:Int->Prop} (hc:cs ≠ []) (hp:∀ c ∈ cs,P c) {t:Int}:∃ c,ixW S (.lst (cs.map W.int)) (W.int (t % ((cs.map W.int).length:Nat)))=some (.int c)/\P c:=by
 have hl:0 < (cs.map W.int).length:=by
  rw[qq]
  exact List.length_pos_iff.mpr hc
 have h0:=yk t (b:=((cs.map W.int).length:Nat)) qh
 have h1:=yc t (b:=((cs.map W.int).length:Nat)) qh
 generalize t % ((cs.map W.int).length:Nat)=j at h0 h1
 have h2:j.toNat < cs.length:=by
  rw[qq] at h1
  omega
 refine⟨cs[j.toNat],?_,hp _ (zg h2)⟩
 show(yG S (.lst (cs.map W.int))).bind (λxs=>atI xs j)=_
 show atI (cs.map W.int) j=_
 rw[EA h0 h1,jt,qz h2]
 rfl
theorem I0H {n:Nat} {R S:Sto} {k:Int} {Q:W->Sto->Prop} (h:Dw (n+1) R S) (h0:0 < k) (h1:k < 1073741824) (q:∀ (v:Int) S',0<=v->v < k->Dw n R S'->Q (.int v) S'):Ev (Z99 [.ref 1,.int k] S) Q:=by
 obtain⟨gs,r,t,sd,cs,rfl,hg,hr,ht,hb,hs,hs2,hc,hcs⟩:=h
 unfold Z99 Z9V
 refine pI rfl ?_
 refine E9 (Ev.imp (Q:=λo S'=>∃ gs r,o = .nx (JM gS [.ref 1,.int k])/\S'=vY gs r t sd cs R/\(∀ g ∈ gs,0<=g)/\0<=r) ?_ ?_)
 ·(try refine AH ?_)
  refine UL (λe=>?_) (λe=>?_)
  ·(repeat (first|((with_reducible apply G6);exact gX)|refine AH ?_))
   refine UL (λe2=>?_) (λe2=>?_)
   ·cases gs with
    | nil=>cases e2
    | cons g gs=>
     (repeat (first|with_reducible refine bNj ND ?_|with_reducible refine bNj WD ?_|refine AH ?_))
     exact⟨gs,g,rfl,rfl,λx hx=>hg x (qy _ hx),hg g qw⟩
   ·(try refine AH ?_)
    exact⟨gs,r,rfl,rfl,hg,hr⟩
  ·(try refine AH ?_)
   exact⟨gs,r,rfl,rfl,hg,hr⟩
 clear hg hr
 rintro _ _ ⟨gs,r,rfl,rfl,hg,hr⟩
 have fin:∀ {x r t sd:Int},0<=r->0<=t->t+n<=1000000000->0<=sd->sd < 2147483647->Q (.int (x % k)) (vY gs r t sd cs R):=λz1 z2 z3 z4 z5=>q _ _ (yk _ qh) (yc _ h0) ⟨gs,_,_,_,cs,rfl,hg,z1,z2,z3,z4,z5,hc,hcs⟩
 (try refine AH ?_)
 refine UL (λe=>?_) (λe=>?_)
 ·have e:=of_decide_eq_true e
  (repeat (first|with_reducible refine bNj WD ?_|refine AH ?_))
  exact fin (Int.ediv_nonneg hr qh) ht qh hs hs2
 ·have hl:(0:Int) < ((cs.map W.int).length:Nat):=by
   have:=List.length_pos_iff.mpr hc
   rw[qq]
   omega
  (repeat (first|with_reducible refine bNj R7 ?_|refine AH ?_))
  obtain⟨c,e1,c1,c2⟩:=KG (S:=vY gs r (t+1) sd cs R) (t:=t) hc hcs
  refine zB e1 ?_
  (repeat (first|with_reducible refine bNj EC ?_|refine AH ?_))
  exact fin hr qh qh (yk _ qh) (yc _ qh)
theorem Z4I {k n:Nat} {S:Sto} {i:Int}:frz k S n (.int i)=some (.int i):=qK rfl
theorem Dw.fine {n:Nat} {R S:Sto} (h:Dw n R S) (hr:R.all (oB (R.length+2))=true):S.length=R.length+2/\S.all (oB (R.length+2))=true:=by
 obtain⟨gs,r,t,sd,cs,rfl,_⟩:=h
 refine⟨rfl,?_⟩
 unfold vY
 rw[ze,ze,hr]
 simp only[oB,JO,jn,zx,cH,W3,je]
 simp
theorem aX {n:Nat} {R S:Sto} {k:Int} {Q:W->Sto->Prop} (h:Dw (n+1) R S) (hr:R.all (oB (R.length+2))=true) (h0:0 < k) (h1:k < 1073741824) (q:∀ (v:Int) S',0<=v->v < k->Dw n R S'->Q (.int v) S'):Ev (mN 2 Z99 [.ref 1,.int k] S) Q:=
 FL rfl (I0H h h0 h1 λv S' v0 v1 h'=>⟨_,Z4I,by
  obtain⟨l1,_⟩:=h.fine hr
  obtain⟨l2,z⟩:=h'.fine hr
  rw[zw (Qn (by rw[l1,l2])),l1]
  exact⟨z,q v S' v0 v1 h'⟩⟩)
theorem SJI {ns:List Int} {Q:W->Sto->Prop} (hn:ns.length<=1000) (q:∀ S',Dw 900000000 [] S'->Q (.ref 1) S'):Ev (Z9j [.scr ns] []) Q:=by
 unfold Z9j Z73
 refine pI rfl ?_
 (try refine AH ?_)
 refine lT (λys acc S'=>S'=[]/\∃ ms as:List Int,ys=ms.map W.int/\acc=as.map W.int/\(∀ a ∈ as,0<=a)/\as.length+ms.length<=ns.length) ?_ ?_ _ _ _ ⟨rfl,ns,[],rfl,rfl,by simp,by simp⟩
 ·rintro x xs acc S ⟨rfl,ms,as,e1,rfl,p,le⟩
  refine⟨True.intro,?_⟩
  cases ms with
  | nil=>cases e1
  | cons m ms=>
   cases e1
   (try refine AH ?_)
   refine UL (λe=>?_) (λe=>?_)
   ·(try refine AH ?_)
    have e:(10:Int) ^ Int.toNat 18<=m:=of_decide_eq_true e
    refine⟨?_,rfl,ms,as++[m],rfl,by simp,?_,?_⟩
    ·rw[qq]
     simp only[qs] at le
     exact jy (jb (by omega:as.length<=ns.length) hn) qg
    ·intro a h
     rcases ji.mp h with h|h
     ·exact p a h
     ·rw[qp.mp h]
      exact yf qg e
    ·simp only[qs,qr,jh] at le ⊢
     omega
   ·refine⟨rfl,ms,as,rfl,rfl,p,?_⟩
    simp only[qs] at le
    omega
 ·rintro acc S ⟨rfl,ms,gs,e1,rfl,p,le⟩
  refine⟨True.intro,?_⟩
  (try refine AH ?_)
  refine rL (λw=>match w with | .int i=>.int (i % 2147483629)|w=>w) True.intro (by rw[qq];exact jb hn qg) ?_ ?_
  ·intro x hx Q' q'
   obtain⟨i,_,rfl⟩:=jc.mp hx
   (try refine AH ?_)
   exact q'
  ·(try refine AH ?_)
   have e2:(ns.map W.int).map (λw=>match w with | .int i=>W.int (i % 2147483629)|w=>w)=(ns.map λi=>i % 2147483629).map W.int:=by simp
   rw[e2]
   refine MT (by rw[qq,qq];exact jb (Nat.add_le_add_right hn _) qg) ?_
   (try refine AH ?_)
   refine q _ ⟨gs,0,0,7,(ns.map λi=>i % 2147483629)++[77],?_,p,by decide,by decide,by decide,by decide,by decide,by simp,?_⟩
   ·unfold vY
    rw[zn]
    rfl
   ·intro c hc
    rcases ji.mp hc with h|h
    ·obtain⟨i,_,rfl⟩:=jc.mp h
     exact⟨yk _ qg,yc _ qg⟩
    ·rw[qp.mp h]
     decide
section
variable {n:Nat} {R S:Sto} {Q:W->Sto->Prop}
theorem WBf {m i:Nat} {F:List W->M W} {ws:List W} (P:W->Prop) (hl:ws.length=i) (h:Dw m R S) (hr:R.all (oB (R.length+2))=true) (hb:∀ w,P w->W3 0 w=true) (d:∀ Q':W->Sto->Prop,(∀ w S',P w->Dw n R S'->Q' w S')->Ev (F ws S) Q') (q:∀ w S',P w->Dw n R S'->Q w S'):Ev (mN i F ws S) Q:=
 FL hl (d _ λw S' p h'=>by
  obtain⟨l1,_⟩:=h.fine hr
  obtain⟨l2,z⟩:=h'.fine hr
  refine⟨w,qK (F7 (jf _) (hb w p)),?_⟩
  rw[zw (Qn (by rw[l1,l2])),l1]
  exact⟨z,q w S' p h'⟩)
theorem B1 (h:Dw (n+3) R S) (hr:R.all (oB (R.length+2))=true) (q:∀ (v:Int) S',0<=v->v < 1000003->Dw n R S'->Q (.int v) S'):Ev (mN 1 Z9E [.ref 1] S) Q:=by
 refine WBf (λw=>∃ v:Int,w = .int v/\0<=v/\v < 1000003) rfl h hr (by rintro w ⟨v,rfl,_⟩;rfl) (λQ' q'=>?_) (by rintro w S' ⟨v,rfl,h0,h1⟩ h';exact q v S' h0 h1 h')
 unfold Z9E Z8G
 refine pI rfl ?_
 (try refine AH ?_)
 refine aX h hr qg qg λv1 S1 a0 a1 h1=>?_
 (try refine AH ?_)
 refine aX h1 hr qg qg λv2 S2 b0 b1 h2=>?_
 (try refine AH ?_)
 refine aX h2 hr qg qg λv3 S3 c0 c1 h3=>?_
 obtain⟨w,mem,_,e⟩:=IM (S:=S3) (x:=.lst [.int 0,.int 1,.int v1,.int (1000003 - 1),.int v2]) rfl (by simp) c0 c1
 refine zB e ?_
 (try refine AH ?_)
 refine q' w S3 ?_ h3
 simp only[qo,Qg,or_false] at mem
 rcases mem with rfl|rfl|rfl|rfl|rfl
 ·exact⟨_,rfl,by decide,by decide⟩
 ·exact⟨_,rfl,by decide,by decide⟩
 ·exact⟨_,rfl,by omega,by omega⟩
 ·exact⟨_,rfl,by decide,by decide⟩
 ·exact⟨_,rfl,by omega,by omega⟩
theorem jC {xs:List W} (h:Dw (n+1) R S) (hr:R.all (oB (R.length+2))=true) (hx:xs ≠ []) (hl:xs.length < 1000000) (hb:∀ x ∈ xs,W3 0 x=true) (q:∀ (x:W) S',x ∈ xs->Dw n R S'->Q x S'):Ev (mN 2 Z90 [.ref 1,.lst xs] S) Q:=by
 refine WBf (λw=>w ∈ xs) rfl h hr hb (λQ' q'=>?_) q
 have pos:=List.length_pos_iff.mpr hx
 unfold Z90 Z9n
 refine pI rfl ?_
 (try refine AH ?_)
 refine aX h hr qh qh λv1 S1 a0 a1 h1=>?_
 obtain⟨w,mem,_,e⟩:=IM (S:=S1) (x:=.lst xs) rfl (by simp) a0 a1
 refine zB e ?_
 (try refine AH ?_)
 exact q' w S1 mem h1
end
inductive Op5 where|plus|less|times|under|same
def Op5.s:Op5->Str
 | .plus => "plus" | .less => "less" | .times => "times" | .under => "under" | .same => "same"
inductive Sm where
 | num (v:Int)|cell (k:Int)|handed|time|two (o:Op5) (a b:Sm)
def Sm.w:Sm->W
 | .num v=>.tup [.str "number",.int v]
 | .cell k=>.tup [.str "cell",.int k]
 | .handed=>.tup [.str "handed"]
 | .time=>.tup [.str "time"]
 | .two o a b=>.tup [.str o.s,a.w,b.w]
def Sm.dep:Sm->Nat
 | .two _ a b=>max a.dep b.dep+1
 | _=>0
def Sm.Ok (m:Int):Sm->Prop
 | .num v=>0<=v/\v < 1000003
 | .cell k=>0<=k/\k < m
 | .two _ a b=>a.Ok m/\b.Ok m
 | _=>True
theorem Sm.below0:∀ e:Sm,W3 0 e.w=true
 | .num _=>rfl
 | .cell _=>rfl
 | .handed=>rfl
 | .time=>rfl
 | .two o a b=>by simp only[Sm.w,W3,cH,a.below0,b.below0,je]
def drs:Nat->Nat
 | 0=>6
 | k+1=>drs k+drs k+2
theorem e4F:∀ k,6<=drs k
 | 0=>jg _
 | k+1=>by
  have:=e4F k
  simp only[drs]
  omega
theorem WI {rec:List W->M W} {R S:Sto} {Q:W->Sto->Prop} (hr:R.all (oB (R.length+2))=true) {many deep:Int} {n b:Nat} (m0:0 < many) (m1:many < 1000) (hb:6<=b) (h:Dw (n+b) R S)
  (hrec:2<=deep->∃ c,b=c+c+2/\∀ (n:Nat) (S:Sto) (Q:W->Sto->Prop),Dw (n+c) R S->(∀ (e:Sm) S',e.Ok many->e.dep<=(deep - 1 - 1).toNat->Dw n R S'->Q e.w S')->Ev (mN 3 rec [.ref 1,.int many,.int (deep - 1)] S) Q)
  (q:∀ (e:Sm) S',e.Ok many->e.dep<=(deep - 1).toNat->Dw n R S'->Q e.w S'):Ev (IU uG 3 (Z75 rec) [.ref 1,.int many,.int deep] S) Q:=by
 have leaf:∀ {L:Lo} {S1:Sto} {b:Lo->M Oc},L=(JM uG [W.ref 1,W.int many,W.int deep]).set 3 L[3]?.join->Dw (n+5) R S1->Ev (kO
     (O0
      (fD TZ
       (O9 (mC (W.str "cell"))
        (O9 (fD (mN 2 Z99) (O9 (uV 0) (O9 (uV 1) JN))) JN)))
      (fU 4))
     (iE
      (mOp ixM
       (fD aW
        (O9
         (fD TZ
          (O9 (mC (W.str "number"))
           (O9 (fD (mN 1 Z9E) (O9 (uV 0) JN)) JN)))
         (O9 (uV 4)
          (O9 (uV 4)
           (O9 (fD TZ (O9 (mC (W.str "handed")) JN))
            (O9 (fD TZ (O9 (mC (W.str "time")) JN)) JN))))))
       (fD (mN 2 Z99) (O9 (uV 0) (O9 (mC (W.int 5)) JN))))) L S1) λo S'=>Ev (FS b o S') λo S'=>Ev (oU o S') Q:=by
  intro L S1 b eL h1
  rw[eL]
  generalize L[3]?.join=x
  (try refine AH ?_)
  refine aX (n:=n+4) h1 hr m0 qh λv2 S2 b0 b1 h2=>?_
  (try refine AH ?_)
  refine B1 (n:=n+1) h2 hr λv3 S3 c0 c1 h3=>?_
  (try refine AH ?_)
  refine aX h3 hr qg qg λv4 S4 d0 d1 h4=>?_
  obtain⟨w,mem,_,e⟩:=IM (S:=S4) (x:=.lst [(Sm.num v3).w,(Sm.cell v2).w,(Sm.cell v2).w,Sm.handed.w,Sm.time.w]) rfl (by simp) d0 d1
  refine zB e ?_
  (try refine AH ?_)
  simp only[qo,Qg,or_false] at mem
  rcases mem with rfl|rfl|rfl|rfl|rfl
  ·exact q (.num v3) S4 ⟨c0,c1⟩ (jf _) h4
  ·exact q (.cell v2) S4 ⟨b0,b1⟩ (jf _) h4
  ·exact q (.cell v2) S4 ⟨b0,b1⟩ (jf _) h4
  ·exact q .handed S4 True.intro (jf _) h4
  ·exact q .time S4 True.intro (jf _) h4
 unfold Z75
 refine pI rfl ?_
 (try refine AH ?_)
 refine aX (n:=n+b - 1) (by rw[Nat.sub_add_cancel qh];exact h) hr qg qg λv1 S1 a0 a1 h1=>?_
 (try refine AH ?_)
 have go:2<=deep->_:=λhd=>by
  exact hrec hd
 by_cases hd:deep < 2
 ·rw[if_pos (decide_eq_true hd),if_pos rfl]
  exact leaf rfl (h1.mono qh)
 ·rw[if_neg (by simpa using hd)]
  (try refine AH ?_)
  by_cases hk:v1 < 3
  ·rw[if_pos (decide_eq_true hk)]
   exact leaf rfl (h1.mono qh)
  ·rw[if_neg (by simpa using hk)]
   obtain⟨c,rfl,sub⟩:=hrec qh
   (try refine AH ?_)
   refine sub (n+c+1) _ _ (h1.mono qh) λe1 S2 k1 k2 h2=>?_
   (try refine AH ?_)
   refine jC (n:=n+c) h2 hr (by simp) qg (by intro x hx;simp only[qo,Qg,or_false] at hx;rcases hx with rfl|rfl|rfl|rfl|rfl <;> rfl) λo S3 ho h3=>?_
   (try refine AH ?_)
   refine sub n _ _ h3 λe2 S4 k3 k4 h4=>?_
   (try refine AH ?_)
   have op:∃ o5:Op5,o = .str o5.s:=by
    simp only[qo,Qg,or_false] at ho
    rcases ho with rfl|rfl|rfl|rfl|rfl
    ·exact⟨.plus,rfl⟩
    ·exact⟨.less,rfl⟩
    ·exact⟨.times,rfl⟩
    ·exact⟨.under,rfl⟩
    ·exact⟨.same,rfl⟩
   obtain⟨o5,rfl⟩:=op
   exact q (.two o5 e1 e2) S4 ⟨k1,k3⟩ (by simp only[Sm.dep];omega) h4
theorem M0Y {R:Sto} (hr:R.all (oB (R.length+2))=true) {many:Int} (m0:0 < many) (m1:many < 1000):∀ (k n:Nat) (deep:Int) (S:Sto) (Q:W->Sto->Prop),deep<=k+1->Dw (n+drs k) R S->(∀ (e:Sm) S',e.Ok many->e.dep<=(deep - 1).toNat->Dw n R S'->Q e.w S')->Ev (Z9d (k+1) [.ref 1,.int many,.int deep] S) Q
 | 0,n,deep,S,Q,hd,h,q=>WI hr m0 m1 (e4F 0) h (λz=>absurd z qh) q
 | k+1,n,deep,S,Q,hd,h,q=>WI hr m0 m1 (e4F (k+1)) h (λz=>⟨drs k,rfl,λn S Q h q=>WBf (λw=>∃ e:Sm,w=e.w/\e.Ok many/\e.dep<=(deep - 1 - 1).toNat) rfl h hr (by rintro _ ⟨e,rfl,_⟩;exact e.below0) (λQ' q'=>M0Y hr m0 m1 k n (deep - 1) S Q' qh h λe S' k1 k2 h'=>q' _ _ ⟨e,rfl,k1,k2⟩ h') (by rintro _ S' ⟨e,rfl,k1,k2⟩ h';exact q e S' k1 k2 h')⟩) q
theorem u9T {R S:Sto} {Q:W->Sto->Prop} (hr:R.all (oB (R.length+2))=true) {many deep:Int} {n:Nat} (m0:0 < many) (m1:many < 1000) (hd:deep<=6) (h:Dw (n+drs 5) R S) (q:∀ (e:Sm) S',e.Ok many->e.dep<=(deep - 1).toNat->Dw n R S'->Q e.w S'):Ev (mN 3 (Z9d 6) [.ref 1,.int many,.int deep] S) Q:=
 WBf (λw=>∃ e:Sm,w=e.w/\e.Ok many/\e.dep<=(deep - 1).toNat) rfl h hr (by rintro _ ⟨e,rfl,_⟩;exact e.below0) (λQ' q'=>M0Y hr m0 m1 5 n deep S Q' qh h λe S' k1 k2 h'=>q' _ _ ⟨e,rfl,k1,k2⟩ h') (by rintro _ S' ⟨e,rfl,k1,k2⟩ h';exact q e S' k1 k2 h')
def aMs (o:Op5) (i j:Int):Int:=match o with
 | .plus=>(i+j) % 1000003
 | .less=>(i - j) % 1000003
 | .times=>i * j % 1000003
 | .under=>if i < j then 1 else 0
 | .same=>if i=j then 1 else 0
def Sm.val (cs:List Int) (t v:Int):Sm->Int
 | .num i=>i
 | .cell k=>cs[k.toNat]?.getD 0
 | .handed=>v
 | .time=>t % 1000003
 | .two o a b=>aMs o (a.val cs t v) (b.val cs t v)
def Wt (i:Int):Prop:=0<=i/\i < 1000003
theorem X19 {o:Op5} {i j:Int}:Wt (aMs o i j):=by
 have e:∀ x:Int,Wt (x % 1000003):=λx=>⟨yk _ qg,yc _ qg⟩
 cases o
 ·exact e _
 ·exact e _
 ·exact e _
 ·show Wt (if i < j then 1 else 0)
  split <;> exact⟨by decide,by decide⟩
 ·show Wt (if i=j then 1 else 0)
  split <;> exact⟨by decide,by decide⟩
theorem NP {cs:List Int} {k:Int} (h0:0<=k) (h1:k < cs.length):∃ c,cs[k.toNat]? = some c/\c ∈ cs:=by
 have:k.toNat < cs.length:=by omega
 exact⟨cs[k.toNat],qz this,zg this⟩
theorem Sm.wt {cs:List Int} {t v:Int} (hc:∀ c ∈ cs,Wt c) (hv:Wt v):∀ {e:Sm},e.Ok cs.length->Wt (e.val cs t v)
 | .num i,h=>h
 | .cell k,h=>by
  obtain⟨c,e,m⟩:=NP h.1 h.2
  unfold Sm.val
  rw[e]
  exact hc c m
 | .handed,_=>hv
 | .time,_=>⟨yk _ qg,yc _ qg⟩
 | .two o a b,_=>X19
def DX (cs:List Int):List W:=cs.map .int
def vA (t v:Int) (to kind own:Str) (l m n:Int):W:=.tup [.int t,.str to,.str kind,.int v,.str own,.int l,.int m,.int n]
theorem E5 {S:Sto} {cs:List Int} {k:Int} (h0:0<=k) (h1:k < cs.length) {x:W} (hx:yG S x=some (DX cs)) (ns:∀ z,x ≠ .str z):ixW S x (.int k)=some (.int (cs[k.toNat]?.getD 0)):=by
 obtain⟨w,_,e1,e2⟩:=IM (S:=S) (x:=x) hx ns h0 (by unfold DX;rw[qq];exact h1)
 obtain⟨c,e3,_⟩:=NP h0 h1
 unfold DX at e1
 rw[jt,e3] at e1
 cases e1
 rw[e2,e3]
 rfl
theorem xHx {c:Prop} [Decidable c] {S:Sto} {Q:W->Sto->Prop} (q:Q (.int (if c then 1 else 0)) S):Q (.int (if decide c=true then 1 else 0)) S:=by
 by_cases h:c
 ·rw[if_pos h] at q
  rw[if_pos (decide_eq_true h)]
  exact q
 ·rw[if_neg h] at q
  rw[if_neg (by simpa using h)]
  exact q
section
variable {S:Sto} {Q:W->Sto->Prop}
theorem Z2 {i lo hi:Int} (q:Q (.bl (decide (lo<=i) && decide (i<=hi))) S):Ev (Z96 [.int i,.int lo,.int hi] S) Q:=by
 unfold Z96 Z9r
 refine pI rfl ?_
 (try refine AH ?_)
 refine UL (λe=>?_) (λe=>?_)
 ·rw[e] at q
  (try refine AH ?_)
  exact q
 ·rw[e] at q
  (try refine AH ?_)
  exact q
theorem BU {i lo hi:Int} (q:Q (.bl (decide (lo<=i) && decide (i<=hi))) S):Ev (H0 3 Z96 [.int i,.int lo,.int hi] S) Q:=
 D8 rfl rfl (Z2 ⟨_,qK rfl,q⟩)
theorem M8 {i:Int} (h:Wt i) (q:Q (.bl true) S):Ev (Z9P [.int i] S) Q:=by
 unfold Z9P Z9c
 refine pI rfl ?_
 (try refine AH ?_)
 refine BU ?_
 (try refine AH ?_)
 rw[decide_eq_true h.1,decide_eq_true (show i<=1000003 - 1 from by have:=h.2;omega)]
 exact q
theorem sF {i:Int} (h:Wt i) (q:Q (.bl true) S):Ev (H0 1 Z9P [.int i] S) Q:=
 D8 rfl rfl (M8 h ⟨_,qK rfl,q⟩)
def abc:Str := "abcdefghijklmnopqrstuvwxyz"
def Nam (s:Str):Prop:=1<=s.length/\s.length<=6/\∀ c ∈ s.cps.toList,c ∈ abc.cps.toList
theorem rO {α:Type} (xs:List α):qO S [.lst (xs.map λ_=>W.bl true)]=some (.bl true):=by
 have e:C4 (xs.map λ_=>W.bl true)=some (xs.map λ_=>true):=by
  induction xs with
  | nil=>rfl
  | cons x xs ih=>
   rw[jn,C4,ih]
   rfl
 show((C4 (xs.map λ_=>W.bl true)).map λbs=>W.bl (bs.all id))=_
 rw[e]
 simp
theorem pJ {s:Str} (h:Nam s) (q:Q (.bl true) S):Ev (Z9Q [.str s] S) Q:=by
 obtain⟨h1,h2,h3⟩:=h
 unfold Z9Q Z9e
 refine pI rfl ?_
 have e:eP S [.str s]=some (.int s.length):=by
  show(if s.length<=lim then some (W.int s.length) else none)=_
  exact if_pos (jb h2 qg)
 (repeat (first|((with_reducible refine jK (w:=.int s.length) ?_ ?_);exact e)|refine AH ?_))
 rw[if_pos (decide_eq_true (show(1:Int)<=s.length from by omega))]
 (try refine AH ?_)
 rw[if_pos (decide_eq_true (show(s.length:Int)<=6 from by omega))]
 (try refine AH ?_)
 refine rL (λ_=>.bl true) True.intro ?_ ?_ ?_
 ·rw[qq]
  exact jb (show s.cps.toList.length<=6 from by simpa [Str.length] using h2) qg
 ·intro x hx R r
  obtain⟨c,hc,rfl⟩:=jc.mp hx
  (try refine AH ?_)
  show R (W.bl (decide (c ∈ abc.cps.toList))) S
  rw[decide_eq_true (h3 c hc)]
  exact r
 ·refine vZ ?_
  refine k8 ?_
  refine jK (w:=.bl true) (rO _) ?_
  (try refine AH ?_)
  exact q
theorem RF {s:Str} (h:Nam s) (q:Q (.bl true) S):Ev (H0 1 Z9Q [.str s] S) Q:=
 D8 rfl rfl (pJ h ⟨_,qK rfl,q⟩)
end
def Sm.cells:Sm->List Int
 | .cell k=>[k]
 | .two _ a b=>a.cells++b.cells
 | _=>[]
theorem Sm.cells_len:∀ e:Sm,e.cells.length<=2 ^ e.dep
 | .num _=>jf _
 | .cell _=>jg _
 | .handed=>jf _
 | .time=>jf _
 | .two o a b=>by
  have h1:=a.cells_len
  have h2:=b.cells_len
  have h3:2 ^ a.dep<=2 ^ (max a.dep b.dep):=Qi qg (Nat.le_max_left _ _)
  have h4:2 ^ b.dep<=2 ^ (max a.dep b.dep):=Qi qg (Nat.le_max_right _ _)
  simp only[Sm.cells,Sm.dep,qr,Nat.pow_succ]
  omega
theorem Sm.cells_ok {m:Int}:∀ {e:Sm},e.Ok m->∀ k ∈ e.cells,0<=k/\k < m
 | .num _,_,_,h=>by cases h
 | .cell k,ok,_,h=>by
  rw[qp.mp h]
  exact ok
 | .handed,_,_,h=>by cases h
 | .time,_,_,h=>by cases h
 | .two o a b,ok,k,h=>by
  rcases ji.mp h with h|h
  ·exact cells_ok ok.1 k h
  ·exact cells_ok ok.2 k h
theorem U0 (cs:List Int):W3 0 (.lst (DX cs))=true:=by
 simp only[W3,DX,JO]
theorem p7b:∀ (k:Nat) (e:Sm) (S:Sto) (Q:W->Sto->Prop),k<=15->e.dep < k->Q (.lst (DX e.cells)) S->Ev (Z9S k [e.w] S) Q:=by
 intro k
 induction k with
 | zero=>intro e S Q _ h;exact absurd h (Nat.not_lt_zero _)
 | succ k ih=>
  intro e S Q h15 hd q
  unfold Z9S Z9b
  refine pI rfl ?_
  cases e with
  | num i=>
   (try refine AH ?_)
   exact q
  | cell j=>
   (try refine AH ?_)
   exact q
  | handed=>
   (try refine AH ?_)
   exact q
  | time=>
   (try refine AH ?_)
   exact q
  | two o a b=>
   have da:a.dep < k:=by simp only[Sm.dep] at hd;omega
   have db:b.dep < k:=by simp only[Sm.dep] at hd;omega
   have sub:∀ (e:Sm) (Q:W->Sto->Prop),e.dep < k->Q (.lst (DX e.cells)) S->Ev (H0 1 (Z9S k) [e.w] S) Q:=λe Q d q=>D8 rfl (by simp only[cH,e.below0,je]) (ih e [] _ qh d ⟨_,qK (U0 _),q⟩)
   have sa:=λQ q=>sub a Q da q
   have sb:=λQ q=>sub b Q db q
   have small:∀ e:Sm,e.dep < k->e.cells.length<=16384:=λe d=>jb e.cells_len (jb (Qi qg (show e.dep<=14 by omega)) qg)
   have la:=small a da
   have lb:=small b db
   have q2:Q (.lst (DX (a.cells++b.cells))) S:=q
   clear q
   generalize a.cells=as at la q2 sa
   generalize b.cells=bs at lb q2 sb
   have go:∀ Q:W->Sto->Prop,Q (.lst (DX (as++bs))) S->Ev (oF (tW (mOp (opS λS x y=>(inW S x y).map W.bl) (uV 1) (mC (.kt [.str "plus",.str "less",.str "times",.str "under",.str "same"])))) (YZ VR (pD (uV 2)) (fU 3) dJ (pD (fD (H0 1 (Z9S k)) (O9 (uV 3) JN))) (fU 4) dJ (uV 4) [3,4] [4]) (fD aW JN) (((JM CO [(Sm.two o a b).w]).set 1 (some (.str o.s))).set 2 (some (.lst [a.w,b.w]))) S) Q:=by
    intro Q q
    have yes:Ev (YZ VR (pD (uV 2)) (fU 3) dJ (pD (fD (H0 1 (Z9S k)) (O9 (uV 3) JN))) (fU 4) dJ (uV 4) [3,4] [4] (((JM CO [(Sm.two o a b).w]).set 1 (some (.str o.s))).set 2 (some (.lst [a.w,b.w]))) S) Q:=by
     (repeat (first|with_reducible refine sa _ ?_|with_reducible refine sb _ ?_|refine uT ?_))
     refine nZ id rfl (by simp only[qq,jh];exact jb (jb (Qn (yj _)) la) qg) ?_ ?_
     ·intro x hx R r
      (try refine AH ?_)
      exact r
     (repeat (first|with_reducible refine sa _ ?_|with_reducible refine sb _ ?_|refine uT ?_))
     refine nZ id rfl (by simp only[qq,jh,qr];exact jb (Nat.add_le_add (jb (Qn (yj _)) la) lb) qg) ?_ ?_
     ·intro x hx R r
      (try refine AH ?_)
      exact r
     refine V3 (acc':=DX (as++bs)) rfl (by simp [DX]) ?_
     (try refine AH ?_)
     exact q
    cases o
    ·(repeat (first|with_reducible exact yes|refine uT ?_))
    ·(repeat (first|with_reducible exact yes|refine uT ?_))
    ·(repeat (first|with_reducible exact yes|refine uT ?_))
    ·(repeat (first|with_reducible exact yes|refine uT ?_))
    ·(repeat (first|with_reducible exact yes|refine uT ?_))
   cases o
   ·(repeat (first|with_reducible refine go _ ?_|refine uT ?_))
    exact q2
   ·(repeat (first|with_reducible refine go _ ?_|refine uT ?_))
    exact q2
   ·(repeat (first|with_reducible refine go _ ?_|refine uT ?_))
    exact q2
   ·(repeat (first|with_reducible refine go _ ?_|refine uT ?_))
    exact q2
   ·(repeat (first|with_reducible refine go _ ?_|refine uT ?_))
    exact q2
theorem x3 {e:Sm} {S:Sto} {Q:W->Sto->Prop} (hd:e.dep < 6) (q:Q (.lst (DX e.cells)) S):Ev (H0 1 (Z9S 6) [e.w] S) Q:=
 D8 rfl (by simp only[cH,e.below0,je]) (p7b 6 e [] _ qg hd ⟨_,qK (U0 _),q⟩)
def Rp (k n:Nat) (w:W):Prop:=∃ d,(∀ f:Nat->Option PyData,OF f w=some d)/\PyData.showable d=true/\PyData.hasDict d=false/\PyData.leavesShort 13 d=true/\PyData.canLay0 d=true/\PyData.eqv d d=true/\PyData.depth d<=k/\PyData.weight d<=n
def Rps (k n:Nat) (ws:List W):Prop:=∃ ds,(∀ f:Nat->Option PyData,MJ f ws=some ds)/\PyData.showableAll ds=true/\PyData.hasDictAll ds=false/\PyData.leavesShortAll 13 ds=true/\PyData.canLayAll0 ds=true/\PyData.eqvAll ds ds=true/\PyData.depthAll ds<=k/\PyData.weightAll ds<=ds.length * (n+1)/\ds.length=ws.length
theorem Rp.mono {k n k' n':Nat} {w:W} (h:Rp k n w) (hk:k<=k') (hn:n<=n'):Rp k' n' w:=by
 obtain⟨d,h1,h2,h3,h4,h5,h6,h7,h8⟩:=h
 exact⟨d,h1,h2,h3,h4,h5,h6,jb h7 hk,jb h8 hn⟩
theorem GRK {k n:Nat}:Rp k n .non:=⟨.none,λ_=>rfl,rfl,rfl,rfl,rfl,rfl,jf _,jf _⟩
theorem xPI {k n:Nat} {b:Bool}:Rp k n (.bl b):=⟨.bool b,λ_=>rfl,rfl,rfl,rfl,rfl,by simp [PyData.eqv],jf _,jf _⟩
theorem LB {k n:Nat} {i:Int} (h:i.natAbs < 10 ^ 12) (hn:40<=n):Rp k n (.int i):=by
 have lt:i.natAbs < 2 ^ 40:=yy h qg
 have g:i.natAbs.log2 < 40:=by
  by_cases z:i.natAbs=0
  ·rw[z]
   decide
  ·exact(Nat.log2_lt z).mpr lt
 refine⟨.int i,λ_=>rfl,?_,rfl,?_,rfl,?_,jf _,?_⟩
 ·simp only[PyData.showable,decide_eq_true_eq]
  omega
 ·simp only[PyData.leavesShort,decide_eq_true_eq]
  exact PyData.shown_int_le h
 ·simp [PyData.eqv]
 ·simp only[PyData.weight]
  split
  ·omega
  ·omega
theorem sU {k n:Nat} {z:Str} (h:PyData.strOk z=true) (hn:z.cps.size<=n):Rp k n (.str z):=by
 refine⟨.str z,λ_=>rfl,rfl,rfl,?_,h,?_,jf _,hn⟩
 ·simp only[PyData.leavesShort,zc,decide_eq_true_eq]
  intro c hc
  have:=h
  unfold PyData.strOk at this
  rw[Array.all_eq_true_iff_forall_mem] at this
  exact yy (of_decide_eq_true (this c (by simpa using hc))) qg
 ·simp [PyData.eqv]
theorem rps {k n:Nat}:∀ {ws:List W},(∀ w ∈ ws,Rp k n w)->Rps k n ws
 | [],_=>⟨[],λ_=>rfl,rfl,rfl,rfl,rfl,rfl,jf _,jf _,rfl⟩
 | w :: ws,h=>by
  obtain⟨d,h1,h2,h3,h4,h5,h6,h7,h8⟩:=h w qw
  obtain⟨ds,g1,g2,g3,g4,g5,g6,g7,g8,g9⟩:=rps λx hx=>h x (qy _ hx)
  refine⟨d :: ds,λf=>by rw[MJ,h1 f,g1 f],?_,?_,?_,?_,?_,?_,?_,by rw[qs,g9,qs]⟩
  ·simp only[PyData.showableAll,h2,g2,je]
  ·simp only[PyData.hasDictAll,h3,g3,Bool.or_false]
  ·simp only[PyData.leavesShortAll,h4,g4,je]
  ·simp only[PyData.canLayAll0,h5,g5,je]
  ·simp only[PyData.eqvAll,h6,g6,je]
  ·simp only[PyData.depthAll]
   exact Nat.max_le.mpr ⟨h7,g7⟩
  ·simp only[PyData.weightAll,qs,Nat.succ_mul]
   omega
theorem yX {k n N:Nat} {ws:List W} (h:∀ w ∈ ws,Rp k n w) (hn:ws.length * (n+1)<=N):Rp (k+1) N (.tup ws):=by
 obtain⟨ds,g1,g2,g3,g4,g5,g6,g7,g8,g9⟩:=rps h
 refine⟨.tuple ds,λf=>by rw[OF,g1 f];rfl,g2,g3,g4,g5,g6,?_,?_⟩
 ·simp only[PyData.depth]
  omega
 ·simp only[PyData.weight]
  rw[g9] at g8
  omega
theorem WMm {k n N:Nat} {ws:List W} (h:∀ w ∈ ws,Rp k n w) (hn:ws.length * (n+1)<=N):Rp (k+1) N (.lst ws):=by
 obtain⟨ds,g1,g2,g3,g4,g5,g6,g7,g8,g9⟩:=rps h
 refine⟨.list ds,λf=>by rw[OF,g1 f];rfl,g2,g3,g4,g5,g6,?_,?_⟩
 ·simp only[PyData.depth]
  omega
 ·simp only[PyData.weight]
  rw[g9] at g8
  omega
theorem Rp.same {k n:Nat} {w:W} (h:Rp k n w) (hk:k<=50) (S:Sto) (ns:yC w w=none \/ yC w w=some true):eqW S w w=some true:=by
 obtain⟨d,h1,h2,h3,h4,h5,h6,h7,h8⟩:=h
 unfold eqW
 rcases ns with e|e
 ·rw[e]
  unfold toD
  rw[h1]
  show(if _ then _ else _)=_
  unfold SeqAt.shaped
  rw[h5,decide_eq_true (show PyData.depth d<=64 by omega),h6]
  rfl
 ·rw[e]
theorem Dw.get {n:Nat} {R S:Sto} (h:Dw n R S) (k:Nat):S[k+2]? = R[k]?:=by
 obtain⟨gs,r,t,sd,cs,rfl,_⟩:=h
 rfl
theorem Dw.put {n:Nat} {R S:Sto} (h:Dw n R S) (k:Nat) (o:Ob):Dw n (R.set k o) (S.set (k+2) o):=by
 obtain⟨gs,r,t,sd,cs,rfl,z⟩:=h
 exact⟨gs,r,t,sd,cs,rfl,z⟩
theorem Dw.push {n:Nat} {R S:Sto} (h:Dw n R S) (o:Ob):Dw n (R++[o]) (S++[o]):=by
 obtain⟨gs,r,t,sd,cs,rfl,z⟩:=h
 exact⟨gs,r,t,sd,cs,rfl,z⟩
theorem Dw.len {n:Nat} {R S:Sto} (h:Dw n R S):S.length=R.length+2:=by
 obtain⟨gs,r,t,sd,cs,rfl,z⟩:=h
 rfl
theorem Dw.cut {n:Nat} {R T S:Sto} (h:Dw n (R++T) S):Dw n R (S.take (R.length+2)):=by
 obtain⟨gs,r,t,sd,cs,rfl,z⟩:=h
 refine⟨gs,r,t,sd,cs,?_,z⟩
 unfold vY
 simp
theorem U2p {m n i:Nat} {R S:Sto} {Q:W->Sto->Prop} {F:List W->M W} {ws:List W} (hl:ws.length=i) (h:Dw m R S) (d:Ev (F ws S) λw S'=>∃ R' T w',frz 60 S' (R.length+2) w=some w'/\R'.length=R.length/\R'.all (oB (R'.length+2))=true/\Dw n (R'++T) S'/\∀ S2,Dw n R' S2->Q w' S2):Ev (mN i F ws S) Q:=
 FL hl (d.imp λw S' ⟨R',T,w',e,l,hr,h',q⟩=>by
  have hS:=h.len
  have c:=h'.cut
  obtain⟨l2,z⟩:=c.fine hr
  rw[l] at c z l2
  rw[hS]
  exact⟨w',e,z,q _ c⟩)
theorem XY {n k:Nat} {R S:Sto} {xs:List W} (h:Dw n R S) (e:R[k]? = some (.lst xs)):fA S (.ref (k+2))=some xs:=by
 show(match S[k+2]? with
  | some (.lst xs)=>some xs
  | _=>none)=_
 rw[h.get k,e]
theorem xP {S:Sto} {x:W} {xs:List W} (h:fA S x=some xs):yG S x=some xs:=by
 cases x with
 | lst ys=>exact h
 | ref n=>exact h
 | _=>cases h
theorem pL {m i:Nat} {R S:Sto} {Q:W->Sto->Prop} {F:List W->M W} {ws:List W} (hl:ws.length=i) (h:Dw m R S) (d:Ev (F ws S) λw S'=>∃ R' T w' n,frz 60 S' (R.length+2) w=some w'/\R'.length=R.length/\R'.all (oB (R'.length+2))=true/\Dw n (R'++T) S'/\∀ S2,Dw n R' S2->Q w' S2):Ev (mN i F ws S) Q:=
 FL hl (d.imp λw S' ⟨R',T,w',n,e,l,hr,h',q⟩=>by
  have hS:=h.len
  have c:=h'.cut
  obtain⟨l2,z⟩:=c.fine hr
  rw[l] at c z l2
  rw[hS]
  exact⟨w',e,z,q _ c⟩)
theorem EQ {n k:Nat} {R S:Sto} {xs:List W} {y:W} (h:Dw n R S) (e:R[k]? = some (.lst xs)) (hl:xs.length < lim):O4 (.ref (k+2)) [y] S=some (.ok .non,S.set (k+2) (.lst (xs++[y]))):=by
 show(match S[k+2]? with
  | some (.lst xs)=>match (if xs.length < lim then some (W.non,xs++[y]) else none) with
   | some (w,ys)=>some (Res.ok w,S.set (k+2) (.lst ys))
   | none=>none
  | _=>none)=_
 rw[h.get k,e]
 show(match (if xs.length < lim then some (W.non,xs++[y]) else none) with
   | some (w,ys)=>some (Res.ok w,S.set (k+2) (.lst ys))
   | none=>none)=_
 rw[if_pos hl]
theorem AOl {n m k:Nat} {R S:Sto} {xs:List W} (h:Dw n R S) (e:R[k]? = some (.lst xs)) (hb:cH 0 xs=true) (le:m<=k+2):frz 60 S m (.ref (k+2))=some (.lst xs):=by
 unfold frz
 rw[if_neg (by simp only[W3,decide_eq_true_eq];omega)]
 simp only[h.get k,e]
 have z:∀ ys:List W,cH 0 ys=true->LD (frz 59 S m) ys=some ys:=by
  intro ys
  induction ys with
  | nil=>intro _;rfl
  | cons y ys ih=>
   intro hb
   simp only[cH,js] at hb
   rw[LD,qK (F7 (jf _) hb.1),ih hb.2]
 rw[z xs hb]
 rfl
def CU (zs:List Str):List W:=zs.map .str
theorem xM (zs:List Str):(CU zs).length=zs.length:=qq _
theorem UA {n:Nat}:∀ zs:List Str,cH n (CU zs)=true
 | []=>rfl
 | z :: zs=>UA zs
theorem aK (zs:List Str):(CU zs).all QN=true:=by
 unfold CU
 rw[List.all_map,zc]
 intro _ _
 rfl
theorem eM (z:Str) (zs:List Str):((CU zs).any λy=>jX y (.str z))=decide (z ∈ zs):=by
 rw[Bool.eq_iff_iff]
 simp only[CU,List.any_map,List.any_eq_true,decide_eq_true_eq]
 constructor
 ·rintro⟨y,hy,e⟩
  have e:y=z:=by simpa [jX] using e
  exact e ▸ hy
 ·intro h
  exact⟨z,h,by simp [jX]⟩
theorem W8 {S:Sto} {x:W} {z:Str} {zs:List Str} (hx:yG S x=some (CU zs)) (ns:∀ z,x ≠ .str z):inW S (.str z) x=some (decide (z ∈ zs)):=by
 have e:inW S (.str z) x=TF S (.str z) x:=by
  cases x with
  | str z=>exact absurd rfl (ns z)
  | _=>rfl
 rw[e]
 unfold TF
 rw[hx]
 show(if QN (.str z) && (CU zs).all QN then some ((CU zs).any λy=>jX y (.str z)) else _)=_
 rw[aK,eM]
 rfl
theorem PN {α:Type}:∀ {xs ys:List α},xs.Nodup->(∀ x ∈ xs,x ∈ ys)->xs.length<=ys.length
 | [],_,_,_=>jf _
 | x :: xs,ys,nd,sub=>by
  obtain⟨a,b,rfl⟩:=List.append_of_mem (sub x qw)
  have nd:=List.nodup_cons.mp nd
  have:=PN (xs:=xs) (ys:=a++b) nd.2 λy hy=>by
   have:=sub y (qy _ hy)
   simp only[ji,qo] at this ⊢
   rcases this with h|rfl|h
   ·exact .inl h
   ·exact absurd hy nd.1
   ·exact .inr h
  simp only[qr,qs] at this ⊢
  omega
def sgn (c:Nat):Str:=⟨#[c]⟩
theorem YX (a b:Str):(a++b).length=a.length+b.length:=strLen_append a b
theorem SX (a b:Str):(a++b).cps.toList=a.cps.toList++b.cps.toList:=by
 show(a.cps++b.cps).toList=_
 simp
theorem pH:abc.length=26:=by decide +kernel
section
variable {n:Nat} {R S:Sto} {Q:W->Sto->Prop}
theorem S3D (h:Dw (n+1) R S) (hr:R.all (oB (R.length+2))=true) (q:∀ (c:Nat) S',c ∈ abc.cps.toList->Dw n R S'->Q (.str (sgn c)) S'):Ev (mN 2 Z90 [.ref 1,.str abc] S) Q:=by
 refine WBf (λw=>∃ c,w = .str (sgn c)/\c ∈ abc.cps.toList) rfl h hr (by rintro _ ⟨c,rfl,_⟩;rfl) (λQ' q'=>?_) (by rintro _ S' ⟨c,rfl,hc⟩ h';exact q c S' hc h')
 have al:(abc.length:Int)=26:=by rw[pH];rfl
 unfold Z90 Z9n
 refine pI rfl ?_
 (try refine AH ?_)
 refine aX h hr qh qh λv1 S1 a0 a1 h1=>?_
 have hl:v1.toNat < abc.cps.toList.length:=by
  have:abc.cps.toList.length=26:=by decide +kernel
  omega
 have e:ixW S1 (.str abc) (.int v1)=some (.str (sgn abc.cps.toList[v1.toNat])):=by
  show(if abc.length<=lim then(atI abc.cps.toList v1).map λc=>W.str ⟨#[c]⟩ else none)=_
  rw[if_pos (by rw[pH];decide),EA a0 qh,qz hl]
  rfl
 refine zB e ?_
 (try refine AH ?_)
 exact q' _ S1 ⟨_,rfl,zg hl⟩ h1
end
def a9f (s:Str):Bool:=decide (1<=s.length) && decide (s.length<=6) && s.cps.toList.all λc=>abc.cps.toList.contains c
theorem RLW {s:Str} (h:a9f s=true):Nam s:=by
 unfold a9f at h
 simp only[js,decide_eq_true_eq,zc,List.contains_iff_mem] at h
 exact⟨h.1.1,h.1.2,h.2⟩
theorem Nam.ne {s:Str} (h:Nam s):s ≠ "" := λe=>by
 have:=h.1
 rw[e] at this
 exact absurd this qg
theorem Nam.strOk {s:Str} (h:Nam s):PyData.strOk s=true:=by
 have e:abc.cps.toList.all (λc=>decide (c < 128))=true:=by decide +kernel
 unfold PyData.strOk
 rw[Array.all_eq_true_iff_forall_mem]
 intro c hc
 have:=zc.mp e c (h.2.2 c (by simpa using hc))
 exact decide_eq_true (yy (of_decide_eq_true this) qg)
def CF (z:Str):List Str:=z :: abc.cps.toList.map λc=>cutS z none (some 5)++sgn c
theorem dWT (z:Str):(cutS z none (some 5)).cps.toList=z.cps.toList.take 5:=by
 unfold cutS
 rw[HT.sIx_none,show(some (5:Int))=some ((5:Nat):Int) from rfl,HT.sIx_nat]
 show List.take (min 5 z.length - 0) (z.cps.toList.drop 0)=_
 rw[List.drop_zero,Nat.sub_zero]
 by_cases h:5<=z.length
 ·rw[Nat.min_eq_left h]
 ·have:z.cps.toList.length=z.length:=by simp [Str.length]
  rw[Nat.min_eq_right qh,zw qh,zw qh]
theorem VZ {z:Str} (h:Nam z):∀ y ∈ CF z,Nam y:=by
 intro y hy
 rcases qo.mp hy with rfl|hy
 ·exact h
 ·obtain⟨c,hc,rfl⟩:=jc.mp hy
  have hl:(cutS z none (some 5)).length=min 5 z.length:=by
   have e1:(cutS z none (some 5)).cps.toList.length=(cutS z none (some 5)).length:=by simp [Str.length]
   have e2:z.cps.toList.length=z.length:=by simp [Str.length]
   rw[<- e1,dWT,zy,e2]
  have ls:(sgn c).length=1:=rfl
  refine⟨?_,?_,?_⟩
  ·rw[YX,ls]
   omega
  ·rw[YX,ls,hl]
   omega
  ·intro x hx
   rw[SX,dWT] at hx
   rcases ji.mp hx with hx|hx
   ·exact h.2.2 x (List.mem_of_mem_take hx)
   ·have:x=c:=by simpa [sgn] using hx
    exact this ▸ hc
theorem IN {fs:List Str} {z:Str} (h:Nam z) (hl:fs.length<=25):∃ p r,(CF z).filter (λy=>decide (y ∉ fs))=p :: r/\Nam p/\p ∉ fs:=by
 have ne:(CF z).filter (λy=>decide (y ∉ fs)) ≠ []:=by
  intro e
  have all:∀ y ∈ CF z,y ∈ fs:=λy hy=>by
   by_cases m:y ∈ fs
   ·exact m
   ·have:y ∈ (CF z).filter (λy=>decide (y ∉ fs)):=Ql.mpr ⟨hy,decide_eq_true m⟩
    rw[e] at this
    exact nomatch this
  have inj:∀ a b:Nat,cutS z none (some 5)++sgn a=cutS z none (some 5)++sgn b->a=b:=λa b e=>by
   have:=congrArg (λs:Str=>s.cps.toList) e
   simp only[SX] at this
   simpa [sgn] using this
  have nd:(abc.cps.toList.map λc=>cutS z none (some 5)++sgn c).Nodup:=by
   refine Qa.mpr (List.Pairwise.imp (R:=λa b=>a ≠ b) (λab e=>ab (inj _ _ e)) ?_)
   decide +kernel
  have:=PN nd λy hy=>all y (qy _ hy)
  rw[qq,show abc.cps.toList.length=26 from by decide +kernel] at this
  omega
 obtain⟨p,r,e⟩:=List.exists_cons_of_ne_nil ne
 have m:p ∈ (CF z).filter (λy=>decide (y ∉ fs)):=by rw[e];exact qw
 have m:=Ql.mp m
 exact⟨p,r,e,VZ h p m.1,of_decide_eq_true m.2⟩
theorem vI {a b:Str} {S:Sto} {Q:W->Sto->Prop} (h:(b.length == 0)=false/\a.length+2<=lim) (q:Q (.lst (CU (Txt.split a b))) S):Ev (FF (.str a) [.str b] S) Q:=by
 show Ev (gL (if (b.length == 0)=false/\a.length+2<=lim then some (.lst ((Txt.split a b).map .str)) else none) S) Q
 rw[if_pos h]
 exact q
theorem uA {a b:Str} {S:Sto} {Q:W->Sto->Prop} (h:a.length+b.length<=lim) (q:Q (.str (a++b)) S):Ev (opS MY (.str a) (.str b) S) Q:=by
 refine G6 (w:=.str (a++b)) ?_ q
 show(match (if a.length+b.length<=lim then some (W.str (a++b)) else none) with|some w=>some w|none=>_)=_
 rw[if_pos h]
def n5:Str := "house on end put add swap tell send if else cell handed time plus less times under same first choice do"
theorem FT:∀ z ∈ Txt.split n5 " ",Nam z:=by
 have e:(Txt.split n5 " ").all a9f=true:=by decide +kernel
 exact λz hz=>RLW (zc.mp e z hz)
theorem QU {many:Int}:(lS 0 many).items.length=many.toNat:=by
 show((List.range (many - 0).toNat).map _).length=_
 rw[qq,List.length_range,Int.sub_zero]
theorem XZ {S:Sto} {x:W} {xs:List W}:ixW S (.lst (x :: xs)) (.int 0)=some x:=by
 show atI (x :: xs) 0=_
 rw[EA (Int.le_refl _) (by simp only[qs];omega)]
 rfl
theorem Z7 {X Y:List W} {S:Sto} {Q:W->Sto->Prop} (e:X=Y) (h:Ev (VR Y S) Q):Ev (VR X S) Q:=e ▸ h
section
variable {α:Type} {p:Sto->Prop} {g g1:W->Lo->M Lo} {t t1:Lo->M Bool} {it1:Lo->M Itm} {e k:Lo->M W} {vs vs1:List Nat} {L:Lo} (w:α->W)
theorem pY {Q:List W->Sto->Prop} {S:Sto} (f:α->W) (hp:p S):∀ (xs:List α) (acc:List W) (_:acc.length+xs.length<=lim) (_:∀ x ∈ xs,∀ R:W->Sto->Prop,R (f x) S->Ev (g (w x) (YW L vs) S) λL' S1=>Ev (t L' S1) λk S2=>if k=true then Ev (e L' S2) R else False) (_:Q (acc++xs.map f) S),Ev (GH p g t e vs L (xs.map w) acc S) Q
 | [],acc,hl,step,last=>by
  rw[zx,jw] at last
  exact rG hp last
 | x :: xs,acc,hl,step,last=>by
  simp only[qs] at hl
  rw[jn] at last ⊢
  refine tK hp ((step x qw (λy S3=>acc.length < lim/\Ev (GH p g t e vs L (xs.map w) (acc++[y]) S3) Q) ⟨by omega,?_⟩).imp λL' S1 h=>h.imp λc S2 h=>?_)
  ·refine pY f hp xs _ ?_ (λy hy=>step y (qy _ hy)) (by simpa using last)
   rw[qr,qs,jh]
   omega
  ·cases c
   ·exact False.elim (by simpa using h)
   ·simpa using h
theorem qX {Q:List W->Sto->Prop} {S:Sto} (F:α->List W) (hp:p S):∀ (xs:List α) (acc:List W) (_:(acc++xs.flatMap F).length<=lim) (_:∀ x ∈ xs,∀ (acc:List W) (R:List W->Sto->Prop),(acc++F x).length<=lim->R (acc++F x) S->Ev (g (w x) (YW L vs) S) λL' S1=>Ev (t L' S1) λk S2=>if k=true then Ev (it1 L' S2) λI S3=>Ev (GH I.live g1 t1 e vs1 L' I.items acc S3) R else R acc S2) (_:Q (acc++xs.flatMap F) S),Ev (N1 p g t it1 g1 t1 e vs vs1 L (xs.map w) acc S) Q
 | [],acc,hl,step,last=>by
  rw[List.flatMap_nil,jw] at last
  exact V3 hp rfl last
 | x :: xs,acc,hl,step,last=>by
  rw[yo,<- ye] at hl last
  refine L9 hp (step x qw acc (λacc' S4=>Ev (N1 p g t it1 g1 t1 e vs vs1 L (xs.map w) acc' S4) Q) ?_ ?_)
  ·rw[qr] at hl
   omega
  ·exact qX F hp xs _ hl (λy hy=>step y (qy _ hy)) last
theorem NS {Q:List (Key × W)->Sto->Prop} {S:Sto} (F:α->Key × W) (hp:p S):∀ (xs:List α) (acc:List (Key × W)) (_:acc.length+xs.length<=lim) (_:∀ x ∈ xs,∀ R:W->W->Sto->Prop,(∀ y,mS y=some (F x).1->R y (F x).2 S)->Ev (g (w x) (YW L vs) S) λL' S1=>Ev (t L' S1) λc S2=>if c=true then Ev (k L' S2) λy S3=>Ev (e L' S3) λz S4=>R y z S4 else False) (_:Q (xs.foldl (λa x=>pK a (F x).1 (F x).2) acc) S),Ev (WW p g t k e vs L (xs.map w) acc S) Q
 | [],acc,hl,step,last=>aH hp last
 | x :: xs,acc,hl,step,last=>by
  simp only[qs] at hl
  refine DJ hp ((step x qw (λy z S4=>∃ key,mS y=some key/\acc.length < lim/\Ev (WW p g t k e vs L (xs.map w) (pK acc key z) S4) Q) λy hy=>⟨_,hy,by omega,?_⟩).imp λL' S1 h=>h.imp λc S2 h=>?_)
  ·refine NS F hp xs _ ?_ (λy hy=>step y (qy _ hy)) last
   have:(pK acc (F x).1 (F x).2).length<=acc.length+1:=by
    unfold pK
    split
    ·rw[qq]
     omega
    ·simp
   omega
  ·cases c
   ·exact False.elim (by simpa using h)
   ·simpa using h
theorem lL {Q:List (Key × W)->Sto->Prop} {S:Sto} (I:List α->List (Key × W)->Prop) (hp:p S) (step:∀ x rest acc,I (x :: rest) acc->∃ acc',I rest acc'/\∀ R:List (Key × W)->Sto->Prop,R acc' S->Ev (g (w x) (YW L vs) S) λL' S1=>Ev (t L' S1) λc S2=>if c=true then Ev (it1 L' S2) λI S3=>Ev (WW I.live g1 t1 k e vs1 L' I.items acc S3) R else R acc S2) (last:∀ acc,I [] acc->Q acc S):∀ (xs:List α) (acc:List (Key × W)),I xs acc->Ev (EZ p g t it1 g1 t1 k e vs vs1 L (xs.map w) acc S) Q
 | [],acc,hi=>XH hp (last acc hi)
 | x :: xs,acc,hi=>by
  obtain⟨acc',h1,h2⟩:=step x xs acc hi
  exact wX hp (h2 _ (lL I hp step last xs acc' h1))
end
section
variable {L:Lo} {S:Sto}
theorem vQQ {k:Lo->M Bool} {b:Lo->M Oc} {Q:Oc->Sto->Prop} (I:Nat->Lo->Sto->Prop) (step:∀ n L S,I n L S->Ev (k L S) λc S'=>if c=true then ∃ m,n=m+1/\Ev (b L S') λo S''=>match o with
   | .nx L2=>I m L2 S''
   | .ct L2=>I m L2 S''
   | .bk L2=>Q (.nx L2) S''
   | .rt w=>Q (.rt w) S'' else Q (.nx L) S'):∀ n L S,I n L S->Ev (eE k b L S) Q:=by
 have go:∀ n L S,I n L S->Ev (C0 k b (n+1) L S) Q:=by
  intro n
  induction n with
  | zero=>
   intro L S h
   show Ev (M.bind (k L) (λc=>if c then(b L).bind (AU (C0 k b 0)) else M.ret (.nx L)) S) Q
   refine evB ((step 0 L S h).imp λc S' h2=>?_)
   cases c with
   | false=>exact h2
   | true=>
    obtain⟨m,e,_⟩:∃ m,0=m+1/\_:=h2
    cases e
  | succ n ih=>
   intro L S h
   show Ev (M.bind (k L) (λc=>if c then(b L).bind (AU (C0 k b (n+1))) else M.ret (.nx L)) S) Q
   refine evB ((step (n+1) L S h).imp λc S' h2=>?_)
   cases c with
   | false=>exact h2
   | true=>
    obtain⟨m,e,h3⟩:∃ m,n+1=m+1/\_:=h2
    cases e
    show Ev (M.bind (b L) (AU (C0 k b (n+1))) S') Q
    refine evB (Ev.imp h3 λo S'' h4=>?_)
    cases o with
    | nx L2=>exact ih L2 S'' h4
    | ct L2=>exact ih L2 S'' h4
    | bk L2=>exact h4
    | rt w=>exact h4
 intro n L S h
 obtain⟨a,S',e,q⟩:=(go n L S h).ex
 exact Ev.of (vB e) q
theorem dAu {o i:Lo->M W} {w:W} {Q:Lo->Sto->Prop} (h:Ev (o L S) λx S1=>Ev (i L S1) λy S2=>Ev (yI x y w S2) λ_ S3=>Q L S3):Ev (gDi o i w L S) Q:=by
 unfold gDi
 simp only[ZM,kW]
 exact h
theorem DU {n m:Nat} {ix:List Nat} {ds:List W} {f:List W->M W} {a k:Lo->M (List W)} {Q:W->Sto->Prop} (h:Ev (a L S) λws S1=>Ev (k L S1) λzs S2=>(ws.length=n/\zs.length=m)/\Ev (f (Q4 ix (ws++zs++ds)) S2) Q):Ev (HN n m ix ds f a k L S) Q:=by
 unfold HN
 refine evB (h.imp λws S1 h1=>evB (h1.imp ?_))
 rintro zs S2 ⟨e,h2⟩
 rw[if_pos e]
 exact h2
theorem j0L {f:List (Key × W)->M W} {it:Lo->M Itm} {g:W->Lo->M Lo} {t:Lo->M Bool} {k e:Lo->M W} {vs:List Nat} {Q:W->Sto->Prop} (h:Ev (it L S) λI S'=>Ev (WW I.live g t k e vs L I.items [] S') λkvs S''=>Ev (f kvs S'') Q):Ev (P0C f it g t k e vs L S) Q:=by
 unfold P0C
 simp only[ZM]
 exact h
theorem f0j {kvs:List (Key × W)} {Q:W->Sto->Prop} (q:Q (.ref S.length) (S++[.dk kvs])):Ev (E7I kvs S) Q:=q
theorem zC {x:W} {xs:List W} {Q:W->Sto->Prop} (h:aV [x] S=some (.ok (.ref S.length),S++[.lst xs])) (q:Q (.ref S.length) (S++[.lst xs])):Ev (aV [x] S) Q:=Ev.of h q
end
section
variable {α:Type} {p:Sto->Prop} {g:W->Lo->M Lo} {t:Lo->M Bool} {e:Lo->M W} {vs:List Nat} {L:Lo} (w:α->W)
theorem F5 {Q:List W->Sto->Prop} {S:Sto} (f:α->W) (P:α->Bool) (hp:p S):∀ (xs:List α) (acc:List W) (_:acc.length+xs.length<=lim) (_:∀ x ∈ xs,∀ (R:W->Sto->Prop) (R0:Sto->Prop),(P x=true->R (f x) S)->(P x=false->R0 S)->Ev (g (w x) (YW L vs) S) λL' S1=>Ev (t L' S1) λk S2=>if k=true then Ev (e L' S2) R else R0 S2) (_:Q (acc++(xs.filter P).map f) S),Ev (GH p g t e vs L (xs.map w) acc S) Q
 | [],acc,hl,step,last=>by
  rw[List.filter_nil,zx,jw] at last
  exact rG hp last
 | x :: xs,acc,hl,step,last=>by
  simp only[qs] at hl
  rw[jn]
  refine tK hp ((step x qw (λy S3=>acc.length < lim/\Ev (GH p g t e vs L (xs.map w) (acc++[y]) S3) Q) (λS2=>Ev (GH p g t e vs L (xs.map w) acc S2) Q) (λhP=>⟨by omega,?_⟩) (λhP=>?_)).imp λL' S1 h=>h.imp λc S2 h=>?_)
  ·refine F5 f P hp xs _ ?_ (λy hy=>step y (qy _ hy)) ?_
   ·rw[qr,qs,jh]
    omega
   ·rw[List.filter_cons,if_pos hP,jn] at last
    simpa using last
  ·refine F5 f P hp xs _ qh (λy hy=>step y (qy _ hy)) ?_
   rw[List.filter_cons,if_neg (by rw[hP];decide)] at last
   exact last
  ·cases c
   ·simpa using h
   ·simpa using h
end
theorem U5 {S:Sto} {i:Nat} {o o':Ob} (e:S[i]? = some o'):(S.set i o)[i]? = some o:=by
 rw[jj]
 by_cases h:i < S.length
 ·exact h
 ·rw[Qe qh] at e
  cases e
theorem aL {S:Sto} {i j:Nat} {o x:Ob} (ne:i ≠ j) (e:S[j]? = some x):(S.set i o)[j]? = some x:=by
 rw[jm ne]
 exact e
theorem bU {S:Sto} {p:Nat} {xs:List W} (e:S[p]? = some (.lst xs)):yG S (.ref p)=some xs:=by
 show(match S[p]? with
  | some (.lst xs)=>some xs
  | _=>none)=_
 rw[e]
theorem uK {S:Sto} {p:Nat} {xs:List W} (e:S[p]? = some (.lst xs)):fA S (.ref p)=some xs:=by
 show(match S[p]? with
  | some (.lst xs)=>some xs
  | _=>none)=_
 rw[e]
theorem tV {S:Sto} {p:Nat} {c f:Str} {fs:List (Str × W)} {w:W} (e:S[p]? = some (.ins c fs)) (h:fs.lookup f=some w):P8 S f (.ref p)=some w:=by
 show(match S[p]? with
  | some (.ins _ fs)=>fs.lookup f
  | _=>none)=_
 rw[e]
 exact h
theorem GGb {S:Sto} {p:Nat} {c m:Str} {fs:List (Str × W)} (e:S[p]? = some (.ins c fs)) (h:(fs.map (·.1)).contains m=false):LP S m (.ref p)=some c:=by
 show(match S[p]? with
  | some (.ins c fs)=>if (fs.map (λx:Str × W=>x.1)).contains m then none else some c
  | _=>none)=_
 rw[e]
 show(if (fs.map (·.1)).contains m then none else some c)=_
 rw[h]
 rfl
theorem A8 {S:Sto} {p:Nat} {kvs:List (Key × W)} {k:W} {key:Key} {w:W} (e:S[p]? = some (.dk kvs)) (hk:mS k=some key) (h:jT kvs key=some w):(qW S (.ref p) k).join=some w:=by
 show(match S[p]? with
  | some (.dk kvs)=>(mS k).map λk=>jT kvs k
  | some (.dt kvs)=>(iJ k).map λk=>jT kvs k
  | _=>none).join=_
 rw[e]
 show((mS k).map λk=>jT kvs k).join=_
 rw[hk]
 show(some (jT kvs key)).join=_
 rw[h]
 rfl
theorem VI {S:Sto} {p:Nat} {kvs:List (Key × W)} {k:W} {key:Key} (e:S[p]? = some (.dk kvs)) (hk:mS k=some key):qW S (.ref p) k=some (jT kvs key):=by
 show(match S[p]? with
  | some (.dk kvs)=>(mS k).map λk=>jT kvs k
  | some (.dt kvs)=>(iJ k).map λk=>jT kvs k
  | _=>none)=_
 rw[e]
 show((mS k).map λk=>jT kvs k)=_
 rw[hk]
 rfl
theorem GX3 {S:Sto} {p:Nat} {xs ys:List W} {y:W} (e:S[p]? = some (.lst xs)) (hy:fA S y=some ys) (hl:xs.length+ys.length<=lim):KJ (.ref p) [y] S=some (.ok .non,S.set p (.lst (xs++ys))):=by
 show(match fA S y with
  | some ys=>wL p S λxs=>if xs.length+ys.length<=lim then some (.non,xs++ys) else none
  | none=>none)=_
 rw[hy]
 show(match S[p]? with
  | some (.lst xs)=>match (if xs.length+ys.length<=lim then some (W.non,xs++ys) else none) with
   | some (w,ys)=>some (Res.ok w,S.set p (.lst ys))
   | none=>none
  | _=>none)=_
 rw[e]
 show(match (if xs.length+ys.length<=lim then some (W.non,xs++ys) else none) with
   | some (w,ys)=>some (Res.ok w,S.set p (.lst ys))
   | none=>none)=_
 rw[if_pos hl]
theorem kL {S:Sto} {x:W} {xs:List W} (h:yG S x=some xs) (ns:∀ z,x ≠ .str z):eP S [x]=some (.int xs.length):=by
 have e:eP S [x]=(yG S x).map λxs=>.int xs.length:=by
  cases x with
  | str z=>exact absurd rfl (ns z)
  | _=>rfl
 rw[e,h]
 rfl
theorem HI {S:Sto} {p:Nat} {xs:List W} (e:S[p]? = some (.lst xs)):aV [.ref p] S=some (.ok (.ref S.length),S++[.lst xs]):=by
 show(match yG S (.ref p) with
  | some xs=>some (Res.ok (W.ref S.length),S++[Ob.lst xs])
  | none=>none)=_
 rw[bU e]
theorem A7 {S:Sto} {p:Nat} {c f:Str} {fs:List (Str × W)} {w:W} (e:S[p]? = some (.ins c fs)) (hl:fs.length < 1000):LG [c] f (.ref p) w S=some (.ok (),S.set p (.ins c (MF f w fs))):=by
 show(match S[p]? with
  | some (.ins c' fs)=>if c' ∈ [c]/\fs.length < 1000 then some (Res.ok (),S.set p (.ins c' (MF f w fs))) else none
  | _=>none)=_
 rw[e]
 show(if c ∈ [c]/\fs.length < 1000 then some (Res.ok (),S.set p (.ins c (MF f w fs))) else none)=_
 rw[if_pos ⟨qp.mpr rfl,hl⟩]
theorem iAG {S:Sto} {p:Nat} {kvs:List (Key × W)} {k v:W} {key:Key} (e:S[p]? = some (.dk kvs)) (hk:mS k=some key) (hl:kvs.length < lim):yI (.ref p) k v S=some (.ok (),S.set p (.dk (pK kvs key v))):=by
 show(match S[p]? with
  | some (.dk kvs)=>match mS k with
   | some key=>if kvs.length < lim then some (Res.ok (),S.set p (.dk (pK kvs key v))) else none
   | none=>none
  | some (.dt kvs)=>match iJ k with
   | some key=>if kvs.length < lim then some (Res.ok (),S.set p (.dt (pK kvs key v))) else none
   | none=>none
  | _=>none)=_
 rw[e]
 show(match mS k with
   | some key=>if kvs.length < lim then some (Res.ok (),S.set p (.dk (pK kvs key v))) else none
   | none=>none)=_
 rw[hk]
 show(if kvs.length < lim then some (Res.ok (),S.set p (.dk (pK kvs key v))) else none)=_
 rw[if_pos hl]
theorem oW {f:W->Option W}:∀ {xs:List W},(∀ x ∈ xs,f x=some x)->LD f xs=some xs
 | [],_=>rfl
 | x :: xs,h=>by
  rw[LD,h x qw,oW λy hy=>h y (qy _ hy)]
theorem SB {n:Nat}:∀ {xs:List W},cH n xs=true->∀ x ∈ xs,W3 n x=true
 | y :: ys,h,x,hx=>by
  simp only[cH,js] at h
  rcases qo.mp hx with rfl|hx
  ·exact h.1
  ·exact SB h.2 x hx
theorem tZ {n:Nat}:∀ {xs:List W},(∀ x ∈ xs,W3 n x=true)->cH n xs=true
 | [],_=>rfl
 | x :: xs,h=>by
  simp only[cH,js]
  exact⟨h x qw,tZ λy hy=>h y (qy _ hy)⟩
theorem oA {α:Type} {n:Nat} {f:α->W} {xs:List α} (h:∀ x,W3 n (f x)=true):cH n (xs.map f)=true:=tZ λw hw=>by
 obtain⟨x,_,rfl⟩:=jc.mp hw
 exact h x
theorem z9 {S:Sto} {m:Nat} {xs:List W} (h:S[m]? = some (.lst xs)) (hb:cH 0 xs=true):frz 60 S 0 (.ref m)=some (.lst xs):=by
 unfold frz
 rw[if_neg (by simp [W3])]
 simp only[h]
 rw[oW λx hx=>qK (SB hb x hx)]
 rfl
theorem Q3 {S:Sto} {m:Nat} {c:Str} {fs:List (Str × W)} (h:S[m]? = some (.ins c fs)) (hb:cH 0 (fs.map (·.2))=true):frz 60 S 0 (.ref m)=some (.obj c (fs.map (·.1)) (fs.map (·.2))):=by
 unfold frz
 rw[if_neg (by simp [W3])]
 simp only[h]
 rw[oW λx hx=>qK (SB hb x hx)]
 rfl
mutual
inductive Sp where
 | put (k:Int) (e:Sm)|add (k:Int) (e:Sm)|swap (k j:Int)|tell (e:Sm)|send (to kind:Str) (late:Int) (e:Sm)|ite (e:Sm) (a b:Sps)
inductive Sps where
 | nil|cons (s:Sp) (r:Sps)
end
mutual
def Sp.w:Sp->W
 | .put k e=>.tup [.str "put",.int k,e.w]
 | .add k e=>.tup [.str "add",.int k,e.w]
 | .swap k j=>.tup [.str "swap",.int k,.int j]
 | .tell e=>.tup [.str "tell",e.w]
 | .send to kind late e=>.tup [.str "send",.str to,.str kind,.int late,e.w]
 | .ite e a b=>.tup [.str "if",e.w,.tup a.ws,.tup b.ws]
def Sps.ws:Sps->List W
 | .nil=>[]
 | .cons s r=>s.w :: r.ws
end
mutual
def Sp.dep:Sp->Nat
 | .ite _ a b=>max a.dep b.dep+1
 | _=>0
def Sps.dep:Sps->Nat
 | .nil=>0
 | .cons s r=>max s.dep r.dep
end
mutual
def Sp.under:Sp->List Sp
 | .ite _ a b=>a.all++b.all
 | _=>[]
def Sps.all:Sps->List Sp
 | .nil=>[]
 | .cons s r=>s :: (s.under++r.all)
end
mutual
theorem Sp.below0:∀ s:Sp,W3 0 s.w=true
 | .put _ e=>by simp only[Sp.w,W3,cH,e.below0,je]
 | .add _ e=>by simp only[Sp.w,W3,cH,e.below0,je]
 | .swap _ _=>rfl
 | .tell e=>by simp only[Sp.w,W3,cH,e.below0,je]
 | .send _ _ _ e=>by simp only[Sp.w,W3,cH,e.below0,je]
 | .ite e a b=>by simp only[Sp.w,W3,cH,e.below0,a.below0,b.below0,je]
theorem Sps.below0:∀ s:Sps,cH 0 s.ws=true
 | .nil=>rfl
 | .cons s r=>by simp only[Sps.ws,cH,s.below0,r.below0,je]
end
def Sp.Own (m:Int) (every:List Str):Sp->Prop
 | .put k e=>(0<=k/\k < m)/\e.Ok m/\e.dep < 6
 | .add k e=>(0<=k/\k < m)/\e.Ok m/\e.dep < 6
 | .swap k j=>(0<=k/\k < m)/\0<=j/\j < m
 | .tell e=>e.Ok m/\e.dep < 6
 | .send to kind late e=>(to ∈ every/\Nam kind/\1<=late/\late<=20)/\e.Ok m/\e.dep < 6
 | .ite e _ _=>e.Ok m/\e.dep < 6
def Sp.cells:Sp->List Int
 | .put k e=>k :: e.cells
 | .add k e=>k :: e.cells
 | .swap k j=>[k,j]
 | .tell e=>e.cells
 | .send _ _ _ e=>e.cells
 | .ite e _ _=>e.cells
theorem Sp.cells_ok {m:Int} {every:List Str}:∀ {s:Sp},s.Own m every->∀ k ∈ s.cells,0<=k/\k < m
 | .put j e,ok,k,h=>by
  rcases qo.mp h with rfl|h
  ·exact ok.1
  ·exact Sm.cells_ok ok.2.1 k h
 | .add j e,ok,k,h=>by
  rcases qo.mp h with rfl|h
  ·exact ok.1
  ·exact Sm.cells_ok ok.2.1 k h
 | .swap i j,ok,k,h=>by
  simp only[Sp.cells,qo,Qg,or_false] at h
  rcases h with rfl|rfl
  ·exact ok.1
  ·exact ok.2
 | .tell e,ok,k,h=>Sm.cells_ok ok.1 k h
 | .send _ _ _ e,ok,k,h=>Sm.cells_ok ok.2.1 k h
 | .ite e _ _,ok,k,h=>Sm.cells_ok ok.1 k h
theorem A4 {e:Sm} (h:e.dep < 6):e.cells.length<=32:=jb e.cells_len (Qi (n:=2) qg (show e.dep<=5 by omega))
theorem Sp.cells_len {m:Int} {every:List Str}:∀ {s:Sp},s.Own m every->s.cells.length<=33
 | .put _ e,ok=>Nat.succ_le_succ (A4 ok.2.2)
 | .add _ e,ok=>Nat.succ_le_succ (A4 ok.2.2)
 | .swap _ _,_=>Nat.le_of_ble_eq_true rfl
 | .tell e,ok=>Nat.le_succ_of_le (A4 ok.2)
 | .send _ _ _ e,ok=>Nat.le_succ_of_le (A4 ok.2.2)
 | .ite e _ _,ok=>Nat.le_succ_of_le (A4 ok.2)
section
variable {S:Sto} {Q:W->Sto->Prop} {m:Int} {every:List Str}
theorem eI {s:Sp} (ok:s.Own m every) (q:Q (.lst (DX s.cells)) S):Ev (Z9A [s.w] S) Q:=by
 unfold Z9A Z8J
 refine pI rfl ?_
 cases s with
 | put k e=>
  have hd:e.dep < 6:=ok.2.2
  have hl:=A4 hd
  (repeat (first|with_reducible refine x3 hd ?_|refine AH ?_))
  refine MT (a:=[.int k]) (by simp only[DX,qq,qs,jh];exact jb (show 0+1+e.cells.length<=100 by omega) qg) ?_
  (try refine AH ?_)
  exact q
 | add k e=>
  have hd:e.dep < 6:=ok.2.2
  have hl:=A4 hd
  (repeat (first|with_reducible refine x3 hd ?_|refine AH ?_))
  refine MT (a:=[.int k]) (by simp only[DX,qq,qs,jh];exact jb (show 0+1+e.cells.length<=100 by omega) qg) ?_
  (try refine AH ?_)
  exact q
 | swap k j=>
  (try refine AH ?_)
  exact q
 | tell e=>
  have hd:e.dep < 6:=ok.2
  (repeat (first|with_reducible refine x3 hd ?_|refine AH ?_))
  exact q
 | send to kind late e=>
  have hd:e.dep < 6:=ok.2.2
  (repeat (first|with_reducible refine x3 hd ?_|refine AH ?_))
  exact q
 | ite e a b=>
  have hd:e.dep < 6:=ok.2
  (repeat (first|with_reducible refine x3 hd ?_|refine AH ?_))
  exact q
theorem OW {s:Sp} (ok:s.Own m every) (q:Q (.lst (DX s.cells)) S):Ev (H0 1 Z9A [s.w] S) Q:=
 D8 rfl (by simp only[cH,s.below0,je]) (eI ok ⟨_,qK (U0 _),q⟩)
end
def spW (ss:List Sp):List W:=ss.map Sp.w
theorem cY {n:Nat} (ss:List Sp):cH n (spW ss)=true:=oA λs=>F7 (jf _) s.below0
theorem B5 (a b:List Sp):spW (a++b)=spW a++spW b:=by simp [spW]
theorem xOS:∀ (k:Nat) (ss:Sps) (Q:W->Sto->Prop),ss.dep < k->ss.all.length<=1000->Q (.ref 0) [.lst (spW ss.all)]->Ev (Z9R k [.tup ss.ws] []) Q:=by
 intro k
 induction k with
 | zero=>intro ss Q hd;omega
 | succ k ih=>
  intro ss Q hd hl q
  have sub:∀ (ss:Sps) (S:Sto) (Q:W->Sto->Prop),ss.dep < k->ss.all.length<=1000->Q (.lst (spW ss.all)) S->Ev (H0 1 (Z9R k) [.tup ss.ws] S) Q:=λss S Q d l q=>D8 rfl (by simp only[cH,W3,ss.below0,je]) (ih ss _ d l ⟨_,z9 rfl (cY _),q⟩)
  show Ev (IU FV 1 (Z9o (Z9R k)) _ _) _
  unfold Z9o
  refine pI rfl ?_
  (try refine AH ?_)
  refine fI (λys L S=>∃ (r:Sps) (fs:List Sp) (a:Option W),ys=r.ws/\L=[some (.tup ss.ws),some (.ref 0),a]/\S=[.lst (spW fs)]/\fs++r.all=ss.all/\r.dep<=k) (λ_ _=>False) ?_ ?_ (λ_ _ z=>z.elim) _ _ _ ⟨ss,[],_,rfl,rfl,rfl,rfl,by omega⟩
  ·rintro x xs L S ⟨r,fs,a,e1,rfl,rfl,e2,e3⟩
   refine⟨rfl,?_⟩
   cases r with
   | nil=>cases e1
   | cons s r=>
    simp only[Sps.ws,List.cons.injEq] at e1
    obtain⟨rfl,rfl⟩:=e1
    simp only[Sps.all] at e2
    simp only[Sps.dep] at e3
    have hlen:fs.length+(1+(s.under.length+r.all.length))<=1000:=by
     have:=congrArg yx e2
     simp only[qr,qs] at this
     omega
    have ap:∀ {xs:List W} {y:W},xs.length < lim->O4 (.ref 0) [y] [.lst xs]=some (.ok .non,[.lst (xs++[y])]):=λ{xs y} h=>by
     show(match (if xs.length < lim then some (W.non,xs++[y]) else none) with
      | some (w,ys)=>some (Res.ok w,[Ob.lst ys])
      | none=>none)=_
     rw[if_pos h]
    have ex:∀ {xs ys:List W},xs.length+ys.length<=lim->KJ (.ref 0) [.lst ys] [.lst xs]=some (.ok .non,[.lst (xs++ys)]):=λ{xs ys} h=>by
     show(match (if xs.length+ys.length<=lim then some (W.non,xs++ys) else none) with
      | some (w,ys)=>some (Res.ok w,[Ob.lst ys])
      | none=>none)=_
     rw[if_pos h]
    have l1:(spW fs).length < lim:=by
     unfold spW
     rw[qq]
     exact jy (show _<=1000 by omega) qg
    have e5:spW fs++[s.w]=spW (fs++[s]):=by simp [spW]
    cases s with
    | ite e a b=>
     simp only[Sp.under,qr] at hlen
     simp only[Sp.dep] at e3
     have sa:=λS Q=>sub a S Q qh qh
     have sb:=λS Q=>sub b S Q qh qh
     simp only[Sp.w]
     (try refine AH ?_)
     refine uQ (ap l1) ?_
     (repeat (first|with_reducible refine sa _ _ ?_|with_reducible refine sb _ _ ?_|refine AH ?_))
     refine MT (by simp only[spW,qq];exact jb (show _<=1000 by omega) qg) ?_
     (try refine AH ?_)
     refine XX (ex (by simp only[spW,qq,qr,qs,jh];exact jb (show _<=1001 by omega) qg)) ?_
     refine⟨r,fs++[.ite e a b]++(a.all++b.all),_,rfl,rfl,?_,?_,by omega⟩
     ·rw[B5,B5,B5]
      rfl
     ·rw[<- e2]
      simp [Sp.under]
    | put k e=>
     simp only[Sp.w]
     (try refine AH ?_)
     refine uQ (ap l1) ?_
     (try refine AH ?_)
     exact⟨r,fs++[.put k e],_,rfl,rfl,by rw[B5];rfl,by rw[<- e2];simp [Sp.under],by omega⟩
    | add k e=>
     simp only[Sp.w]
     (try refine AH ?_)
     refine uQ (ap l1) ?_
     (try refine AH ?_)
     exact⟨r,fs++[.add k e],_,rfl,rfl,by rw[B5];rfl,by rw[<- e2];simp [Sp.under],by omega⟩
    | swap k j=>
     simp only[Sp.w]
     (try refine AH ?_)
     refine uQ (ap l1) ?_
     (try refine AH ?_)
     exact⟨r,fs++[.swap k j],_,rfl,rfl,by rw[B5];rfl,by rw[<- e2];simp [Sp.under],by omega⟩
    | tell e=>
     simp only[Sp.w]
     (try refine AH ?_)
     refine uQ (ap l1) ?_
     (try refine AH ?_)
     exact⟨r,fs++[.tell e],_,rfl,rfl,by rw[B5];rfl,by rw[<- e2];simp [Sp.under],by omega⟩
    | send to kind late e=>
     simp only[Sp.w]
     (try refine AH ?_)
     refine uQ (ap l1) ?_
     (try refine AH ?_)
     exact⟨r,fs++[.send to kind late e],_,rfl,rfl,by rw[B5];rfl,by rw[<- e2];simp [Sp.under],by omega⟩
  ·rintro L S ⟨r,fs,a,e1,rfl,rfl,e2,e3⟩
   refine⟨rfl,?_⟩
   cases r with
   | nil=>
    simp only[Sps.all,jw] at e2
    subst e2
    (try refine AH ?_)
    exact q
   | cons s r=>cases e1
section
variable {S:Sto} {Q:W->Sto->Prop}
theorem h0E {ss:Sps} (hd:ss.dep < 6) (hl:ss.all.length<=1000) (q:Q (.lst (spW ss.all)) S):Ev (H0 1 (Z9R 6) [.tup ss.ws] S) Q:=
 D8 rfl (by simp only[cH,W3,ss.below0,je]) (xOS 6 ss _ hd hl ⟨_,z9 rfl (cY _),q⟩)
theorem MD {a b c:W} (ha:W3 0 a=true) (hb:W3 0 b=true) (hc:W3 0 c=true) (q:Q (.obj "House" ["name", "cells", "rules"] [a,b,c]) S):Ev (nV "House" 4 Z9O [a,b,c] S) Q:=by
 refine W5 rfl (by simp only[cH,ha,hb,hc,je]) ?_
 unfold Z9O fK
 refine pI rfl ?_
 (try refine AH ?_)
 refine⟨rfl,_,Q3 (c := "House") (fs:=[("name",a),("cells",b),("rules",c)]) rfl (by simp only[cH,ha,hb,hc,jn,zx,je]),q⟩
end
structure Ho where
 name:Str
 cells:List Int
 rules:List (Str × Sps)
def sJ (r:Str × Sps):W:=.tup [.str r.1,.tup r.2.ws]
def Ho.w (h:Ho):W:=.obj "House" ["name", "cells", "rules"] [.str h.name,.tup (DX h.cells),.tup (h.rules.map sJ)]
theorem CD (r:Str × Sps):W3 0 (sJ r)=true:=by simp only[sJ,W3,cH,r.2.below0,je]
theorem fV {rs:List (Str × Sps)}:cH 0 (rs.map sJ)=true:=oA CD
theorem Ho.below0 (h:Ho):W3 0 h.w=true:=by simp only[Ho.w,W3,cH,DX,JO,fV,je]
structure Ho.Ok (every:List Str) (h:Ho):Prop where
 nam:Nam h.name
 c1:1<=h.cells.length
 c4:h.cells.length<=4
 wt:∀ c ∈ h.cells,Wt c
 rl:h.rules.length<=8
 kn:∀ r ∈ h.rules,Nam r.1
 kd:(h.rules.map (·.1)).Nodup
 sd:∀ r ∈ h.rules,r.2.dep < 6
 sl:∀ r ∈ h.rules,r.2.all.length<=40
 st:∀ r ∈ h.rules,∀ s ∈ r.2.all,s.Own h.cells.length every
theorem OO:∀ zs:List Str,w8 (CU zs)=some zs
 | []=>rfl
 | z :: zs=>by
  show(w8 (CU zs)).map (z :: ·)=_
  rw[OO zs]
  rfl
theorem UOm {α:Type} {f:α->List Sp} {b:Nat}:∀ {xs:List α},(∀ x ∈ xs,(f x).length<=b)->(xs.flatMap f).length<=xs.length * b
 | [],_=>by simp
 | x :: xs,h=>by
  have h1:=h x qw
  have h2:=UOm (xs:=xs) λy hy=>h y (qy _ hy)
  rw[yo,qr,qs,Nat.succ_mul]
  omega
section
variable {S:Sto} {Q:W->Sto->Prop} {m:Int} {every:List Str}
theorem D6 {to kind:Str} {late:Int} {e:Sm} (ok:(Sp.send to kind late e).Own m every) (q:Q (.bl true) S):Ev (Z9t [(Sp.send to kind late e).w,.lst (CU every)] S) Q:=by
 have hk:Nam kind:=ok.1.2.1
 unfold Z9t Z8w
 refine pI rfl ?_
 simp only[Sp.w]
 (try refine AH ?_)
 refine G6 (w:=.bl true) (by rw[W8 rfl (by simp),decide_eq_true ok.1.1];rfl) ?_
 (repeat (first|with_reducible refine RF hk ?_|refine AH ?_))
 refine BU ?_
 rw[decide_eq_true ok.1.2.2.1,decide_eq_true ok.1.2.2.2]
 exact q
theorem rK {to kind:Str} {late:Int} {e:Sm} (ok:(Sp.send to kind late e).Own m every) (q:Q (.bl true) S):Ev (H0 2 Z9t [(Sp.send to kind late e).w,.lst (CU every)] S) Q:=
 D8 rfl (by simp only[cH,W3,Sp.below0,UA,je]) (D6 ok ⟨_,qK rfl,q⟩)
theorem YFk {h:Ho} {elder:List Str} (ok:h.Ok every) (ne:h.name ∉ elder) (q:Q .non S):Ev (Z9Y [h.w,.lst (CU elder),.lst (CU every)] S) Q:=by
 have hn:=ok.nam
 have c1:=ok.c1
 have c4:=ok.c4
 have rl:=ok.rl
 unfold Z9Y Z9p
 refine pI rfl ?_
 simp only[Ho.w]
 (repeat (first|with_reducible refine RF hn ?_|refine AH ?_))
 refine G6 (w:=.bl false) (by rw[W8 rfl (by simp),decide_eq_false ne];rfl) ?_
 (try refine AH ?_)
 have hi:((DX h.cells).length:Int)=h.cells.length:=by simp [DX]
 rw[if_pos (decide_eq_true (show(1:Int)<=(DX h.cells).length by omega))]
 (try refine AH ?_)
 rw[decide_eq_true (show((DX h.cells).length:Int)<=4 by omega)]
 (try refine AH ?_)
 refine rL (λ_=>.bl true) rfl (by simp only[DX,qq];exact jb c4 qg) ?_ ?_
 ·intro x hx R r
  obtain⟨i,hi,rfl⟩:=jc.mp hx
  (repeat (first|with_reducible refine sF (ok.wt i hi) ?_|refine AH ?_))
  exact r
 refine vZ ?_
 refine k8 ?_
 refine jK (w:=.bl true) (rO _) ?_
 (try refine AH ?_)
 refine rL (λw=>match w with | .tup (k :: _)=>k|w=>w) rfl (by simp only[qq];exact jb rl qg) ?_ ?_
 ·intro x hx R r
  obtain⟨i,hi,rfl⟩:=jc.mp hx
  unfold sJ
  (try refine AH ?_)
  exact r
 refine Z7 (Y:=CU (h.rules.map (·.1))) ?_ ?_
 ·unfold CU
  rw[zf,zf]
  rfl
 (try refine AH ?_)
 refine rL (λ_=>.bl true) rfl (by simp only[CU,qq];exact jb rl qg) ?_ ?_
 ·intro x hx R r
  obtain⟨z,hz,rfl⟩:=jc.mp hx
  obtain⟨r0,hr0,rfl⟩:=jc.mp hz
  (repeat (first|with_reducible refine RF (ok.kn r0 hr0) ?_|refine AH ?_))
  exact r
 refine vZ ?_
 refine k8 ?_
 refine jK (w:=.bl true) (rO _) ?_
 (try refine AH ?_)
 refine⟨h.rules.map Prod.fst,OO (h.rules.map Prod.fst),by rw[qq];omega,?_⟩
 rw[GW (zs:=h.rules.map Prod.fst) ok.kd]
 (try refine AH ?_)
 refine RD (decide_eq_false (by simp only[CU,qq];omega)) ?_
 (try refine AH ?_)
 have le:(h.rules.flatMap λr=>r.2.all).length<=h.rules.length * 40:=UOm ok.sl
 have le2:(h.rules.flatMap λr=>spW r.2.all).length<=1000:=by
  have e:(h.rules.flatMap λr=>spW r.2.all)=spW (h.rules.flatMap λr=>r.2.all):=by
   unfold spW
   rw[List.map_flatMap]
  rw[e]
  unfold spW
  rw[qq]
  omega
 refine qX sJ (λr=>spW r.2.all) (by rfl) _ _ (by rw[jv];exact jb le2 qg) ?_ ?_
 ·intro r hr acc R hl k
  have sd:=ok.sd r hr
  have sl:=ok.sl r hr
  unfold sJ
  (try refine AH ?_)
  refine h0E sd qh ?_
  (try refine AH ?_)
  refine pY Sp.w Sp.w (by rfl) _ _ ?_ ?_ k
  ·simpa [spW] using hl
  ·intro x _ R r
   (try refine AH ?_)
   exact r
 have e:(h.rules.flatMap λr=>spW r.2.all)=spW (h.rules.flatMap λr=>r.2.all):=by
  unfold spW
  rw[List.map_flatMap]
 rw[jv,e]
 have st:∀ s ∈ h.rules.flatMap λr=>r.2.all,s.Own h.cells.length every:=λs hs=>by
  obtain⟨r,hr,hs⟩:=List.mem_flatMap.mp hs
  exact ok.st r hr s hs
 generalize h.rules.flatMap (λr=>r.2.all)=ss at st
 (try refine AH ?_)
 refine fI (λys L S'=>S'=S/\∃ (rs:List Sp) (a b c d e f:Option W),ys=spW rs/\(∀ s ∈ rs,s ∈ ss)/\L=[some h.w,some (.lst (CU elder)),some (.lst (CU every)),some (.int (DX h.cells).length),a,b,c,d,e,f]) (λ_ _=>False) ?_ ?_ (λ_ _ z=>z.elim) _ _ _ ⟨rfl,ss,_,_,_,_,_,_,rfl,λ_ z=>z,rfl⟩
 ·rintro x xs L S' ⟨rfl,rs,a,b,c,d,e,f,e1,sub,rfl⟩
  refine⟨rfl,?_⟩
  obtain⟨s,rs,rfl⟩:∃ s rs',rs=s :: rs':=by
   cases rs with
   | nil=>cases e1
   | cons s rs=>exact⟨s,rs,rfl⟩
  cases e1
  have own:=st s (sub s qw)
  have fin:∀ (a b c d e f:Option W),∃ (rs':List Sp) (a' b' c' d' e' f':Option W),List.map Sp.w rs=spW rs'/\(∀ s ∈ rs',s ∈ ss)/\[some h.w,some (.lst (CU elder)),some (.lst (CU every)),some (.int (DX h.cells).length),a,b,c,d,e,f]=[some h.w,some (.lst (CU elder)),some (.lst (CU every)),some (.int (DX h.cells).length),a',b',c',d',e',f']:=λa b c d e f=>⟨rs,a,b,c,d,e,f,rfl,λy hy=>sub y (qy _ hy),rfl⟩
  (try refine AH ?_)
  refine OW own ?_
  (try refine AH ?_)
  refine pY W.int (λ_=>.bl true) (by rfl) _ _ (by have:=Sp.cells_len own;simp only[jh];exact jb (show _<=33 by omega) qg) ?_ ?_
  ·intro i hi' R r
   have in_:=Sp.cells_ok own i hi'
   (try refine AH ?_)
   refine BU ?_
   rw[decide_eq_true in_.1,decide_eq_true (show i<=((DX h.cells).length:Int) - 1 by omega)]
   exact r
  refine vZ ?_
  refine k8 ?_
  refine jK (w:=.bl true) (rO _) ?_
  cases s with
  | send to kind late e=>
   (repeat (first|with_reducible refine rK own ?_|refine AH ?_))
   exact⟨rfl,fin _ _ _ _ _ _⟩
  | put k e=>
   (try refine AH ?_)
   exact⟨rfl,fin _ _ _ _ _ _⟩
  | add k e=>
   (try refine AH ?_)
   exact⟨rfl,fin _ _ _ _ _ _⟩
  | swap k j=>
   (try refine AH ?_)
   exact⟨rfl,fin _ _ _ _ _ _⟩
  | tell e=>
   (try refine AH ?_)
   exact⟨rfl,fin _ _ _ _ _ _⟩
  | ite e a b=>
   (try refine AH ?_)
   exact⟨rfl,fin _ _ _ _ _ _⟩
 ·rintro L S' ⟨rfl,rs,a,b,c,d,e,f,e1,sub,rfl⟩
  refine⟨rfl,?_⟩
  (try refine AH ?_)
  exact q
theorem DI0 {h:Ho} {elder:List Str} (ok:h.Ok every) (ne:h.name ∉ elder) (q:Q .non S):Ev (H0 3 Z9Y [h.w,.lst (CU elder),.lst (CU every)] S) Q:=
 D8 rfl (by simp only[cH,h.below0,W3,UA,je]) (YFk ok ne ⟨_,qK rfl,q⟩)
end
theorem U8 {α:Type} {xs:List α} {k:Nat} (h:k<=xs.length):PD xs none (some (k:Int))=xs.take k:=by
 unfold PD
 rw[HT.sIx_none,HT.sIx_nat,Nat.min_eq_left h,List.drop_zero,Nat.sub_zero]
theorem WS {α:Type} {xs:List α} {k:Nat} (h:k<=xs.length):PD xs (some (k:Int)) none=xs.drop k:=by
 unfold PD
 rw[HT.sIx_none,HT.sIx_nat,Nat.min_eq_left h,zw (by simp)]
def tF {α:Type} (w:α->W):Nat->List α->List W
 | _,[]=>[]
 | k,h :: r=>.tup [.int (k:Nat),w h] :: tF w (k+1) r
theorem aQ {α:Type} {w:α->W}:∀ (xs:List α) (k:Nat),((xs.map w).zipIdx k).map (λp=>W.tup [.int (p.2:Nat),p.1])=tF w k xs
 | [],_=>rfl
 | x :: xs,k=>by
  rw[jn,List.zipIdx_cons,jn,aQ xs (k+1)]
  rfl
theorem FJS {S:Sto} {x:W} {xs:List W} (hx:yG S x=some xs) (ns:∀ z,x ≠ .str z):eP S [x]=some (.int xs.length):=by
 have e:eP S [x]=(yG S x).map λxs=>.int xs.length:=by
  cases x with
  | str z=>exact absurd rfl (ns z)
  | _=>rfl
 rw[e,hx]
 rfl
theorem zY {S:Sto} {x:W} {xs:List W} (hx:fA S x=some xs):qY S [x]=some (.tup xs):=by
 have e:oV S x=some xs:=by
  cases x with
  | lst ys=>exact hx
  | ref n=>exact hx
  | _=>cases hx
 show(oV S x).map W.tup=_
 rw[e]
 rfl
def O1 (hs:List Ho):W:=.obj "Plan" ["houses"] [.tup (hs.map Ho.w)]
structure UM (hs:List Ho):Prop where
 n1:1<=hs.length
 n6:hs.length<=6
 nd:(hs.map Ho.name).Nodup
 ok:∀ h ∈ hs,h.Ok (hs.map Ho.name)
theorem u5 {n:Nat} {hs:List Ho}:cH n (hs.map Ho.w)=true:=oA λh=>F7 (jf _) h.below0
theorem yT {hs:List Ho}:W3 0 (O1 hs)=true:=by simp only[O1,W3,cH,u5,je]
section
variable {S:Sto} {Q:W->Sto->Prop} {hs:List Ho}
theorem oOY {p:Nat} {x:W} (hp:S[p]? = some (.ins "Plan" [])) (hx:fA S x=some (hs.map Ho.w)) (ok:UM hs) (q:Q .non (S.set p (.ins "Plan" [("houses",.tup (hs.map Ho.w))]))):Ev (Z9N [.ref p,x] S) Q:=by
 have h1:=ok.n1
 have h6:=ok.n6
 have hq:=xP hx
 have nstr:∀ z,x ≠ .str z:=λz e=>by rw[e] at hx;cases hx
 unfold Z9N dI
 refine pI rfl ?_
 (try refine AH ?_)
 refine⟨_,hq,?_⟩
 refine pY Ho.w (λh=>.str h.name) hq _ _ (by simp only[jh];exact jb (show _<=6 by omega) qg) ?_ ?_
 ·intro h hh R r
  unfold Ho.w
  (try refine AH ?_)
  exact r
 refine Z7 (Y:=CU (hs.map Ho.name)) ?_ ?_
 ·unfold CU
  rw[zf]
  rfl
 (try refine AH ?_)
 refine⟨_,_,rfl,hx,?_⟩
 have e:=aQ (w:=Ho.w) hs 0
 refine fI (λys L S'=>S'=S/\∃ (done rest:List Ho) (a b c:Option W),hs=done++rest/\ys=tF Ho.w done.length rest/\L=[some (.ref p),some x,some (.lst (CU (hs.map Ho.name))),a,b,c]) (λ_ _=>False) ?_ ?_ (λ_ _ z=>z.elim) _ _ _ ⟨rfl,[],hs,_,_,_,rfl,e,rfl⟩
 ·rintro y ys L S' ⟨rfl,done,rest,a,b,c,e1,e2,rfl⟩
  refine⟨hx,?_⟩
  obtain⟨h,rest,rfl⟩:∃ h r',rest=h :: r':=by
   cases rest with
   | nil=>cases e2
   | cons h r=>exact⟨h,r,rfl⟩
  cases e2
  have ne:h.name ∉ done.map Ho.name:=by
   have nd:=ok.nd
   rw[e1,zn,zv] at nd
   intro m
   exact nd.2.2 _ m h.name (by simp) rfl
  have hok:=ok.ok h (by rw[e1];simp)
  have cut:PD (CU (hs.map Ho.name)) none (some (done.length:Int))=CU (done.map Ho.name):=by
   rw[U8 (by rw[e1];simp [CU])]
   unfold CU
   rw[e1]
   simp
  (try refine AH ?_)
  rw[cut]
  refine DI0 hok ne ?_
  (try refine AH ?_)
  refine⟨rfl,done++[h],rest,_,_,_,by rw[e1];simp,?_,rfl⟩
  rw[qr]
  rfl
 ·rintro L S' ⟨rfl,done,rest,a,b,c,e1,e2,rfl⟩
  refine⟨hx,?_⟩
  (try refine AH ?_)
  refine jK (FJS hq nstr) ?_
  (try refine AH ?_)
  rw[if_pos (decide_eq_true (show(1:Int)<=((hs.map Ho.w).length:Nat) by rw[qq];omega))]
  (try refine AH ?_)
  refine RD (by rw[decide_eq_true (show(((hs.map Ho.w).length:Nat):Int)<=6 by rw[qq];omega)];rfl) ?_
  (try refine AH ?_)
  refine jK (zY hx) ?_
  (try refine AH ?_)
  refine AJ (p:=()) (S':=S'.set p (.ins "Plan" [("houses",.tup (hs.map Ho.w))])) ?_ ?_
  ·show(match S'[p]? with
    | some (.ins c fs)=>if c ∈ (["Plan"]:List Str)/\fs.length < 1000 then some (Res.ok (),S'.set p (.ins c (MF "houses" (.tup (hs.map Ho.w)) fs))) else none
    | _=>none)=_
   rw[hp]
   rfl
  ·(try refine AH ?_)
   exact q
theorem oO {S:Sto} (ok:UM hs) (q:Q (O1 hs) S):Ev (nV "Plan" 2 Z9N [.lst (hs.map Ho.w)] S) Q:=by
 refine W5 rfl (by simp only[cH,W3,u5,je]) (oOY (p:=0) rfl rfl ok ⟨rfl,_,Q3 (c := "Plan") (fs:=[("houses",.tup (hs.map Ho.w))]) rfl ?_,q⟩)
 simp only[cH,W3,u5,jn,zx,je]
end
def AR (r:Str × Sps):Key × W:=(.inr r.1,.tup r.2.ws)
def oY (rs:List (Str × Sps)) (kind:Str):Sps:=match rs.find? λr=>decide (r.1=kind) with
 | some r=>r.2
 | none=>.nil
def HR (hs:List Ho) (to:Str):List (Str × Sps):=match hs.find? λh=>decide (h.name=to) with
 | some h=>h.rules
 | none=>[]
def NH (hs:List Ho) (to kind:Str):Sps:=oY (HR hs to) kind
theorem QC {α:Type} {f:α->Key × W}:∀ {xs:List α} {acc:List (Key × W)},(xs.map λx=>(f x).1).Nodup->(∀ x ∈ xs,(f x).1 ∉ acc.map (·.1))->xs.foldl (λa x=>pK a (f x).1 (f x).2) acc=acc++xs.map f
 | [],acc,_,_=>by simp
 | x :: xs,acc,nd,new=>by
  rw[jn] at nd
  have nd:=List.nodup_cons.mp nd
  have e:pK acc (f x).1 (f x).2=acc++[f x]:=by
   unfold pK
   rw[if_neg]
   intro h
   obtain⟨y,hy,e⟩:=List.any_eq_true.mp h
   exact new x qw (jc.mpr ⟨y,hy,of_decide_eq_true e⟩)
  rw[List.foldl_cons,e,QC nd.2,jn,ye]
  ·rfl
  ·intro y hy m
   rw[zn,ji] at m
   rcases m with m|m
   ·exact new y (qy _ hy) m
   ·have:(f y).1=(f x).1:=by simpa using m
    exact nd.1 (this ▸ jc.mpr ⟨y,hy,rfl⟩)
theorem lF {α β:Type}:∀ kvs:List (α × β),(kvs.map (·.1)).zip (kvs.map (·.2))=kvs
 | []=>rfl
 | kv :: kvs=>by
  rw[jn,jn,List.zip_cons_cons,lF kvs]
theorem tQ (rs:List (Str × Sps)) (kind:Str):(jT (rs.map AR) (.inr kind)).getD (.tup []) = .tup (oY rs kind).ws:=by
 unfold jT oY
 induction rs with
 | nil=>rfl
 | cons r rs ih=>
  rw[jn,zp,zp]
  by_cases h:r.1=kind
  ·rw[decide_eq_true h,decide_eq_true (show(AR r).1 = .inr kind from congrArg Sum.inr h)]
   rfl
  ·rw[decide_eq_false h,decide_eq_false (show ¬ (AR r).1 = .inr kind from λe=>h (Sum.inr.inj e))]
   exact ih
section
variable {S:Sto} {Q:W->Sto->Prop} {hs:List Ho} {t v l m n:Int} {to kind own:Str}
theorem QQ (ok:UM hs) (q:Q (.tup (NH hs to kind).ws) S):Ev (Z9J [O1 hs,vA t v to kind own l m n] S) Q:=by
 unfold Z9J Z8S
 refine pI rfl ?_
 simp only[O1,vA]
 (try refine AH ?_)
 refine lL Ho.w (λrest acc=>∃ done,hs=done++rest/\acc=(HR done to).map AR) (by rfl) ?_ ?_ _ _ ⟨[],rfl,rfl⟩
 ·rintro h rest _ ⟨done,e,rfl⟩
  have hok:=ok.ok h (by rw[e];simp)
  by_cases ht:h.name=to
  ·have none_:done.find? (λh=>decide (h.name=to))=none:=by
    rw[List.find?_eq_none]
    intro x hx c
    have nd:=ok.nd
    rw[e,zn,zv] at nd
    exact nd.2.2 x.name (jc.mpr ⟨x,hx,rfl⟩) h.name (by simp) ((of_decide_eq_true c).trans ht.symm)
   have e0:HR done to=[]:=by
    unfold HR
    rw[none_]
   have e1:HR (done++[h]) to=h.rules:=by
    unfold HR
    rw[List.find?_append,none_]
    simp [ht]
   refine⟨h.rules.map AR,⟨done++[h],by rw[e];simp,by rw[e1]⟩,λR r=>?_⟩
   rw[e0]
   unfold Ho.w
   (try refine AH ?_)
   refine nN (decide_eq_true ht) ?_
   (try refine AH ?_)
   refine NS sJ AR (by rfl) _ _ ?_ ?_ ?_
   ·have:=hok.rl
    simp only[zx,jh]
    exact jb (show _<=8 by omega) qg
   ·intro x hx R r
    unfold sJ
    (try refine AH ?_)
    exact r _ rfl
   ·rw[QC]
    ·exact r
    ·have:=hok.kd
     have e2:(h.rules.map λx=>(AR x).1)=(h.rules.map (·.1)).map Sum.inr:=by
      rw[zf]
      rfl
     rw[e2]
     exact Qa.mpr (this.imp λne e=>ne (Sum.inr.inj e))
    ·intro x _ m
     exact nomatch m
  ·have e1:HR (done++[h]) to=HR done to:=by
    unfold HR
    rw[List.find?_append]
    cases done.find? λh=>decide (h.name=to) with
    | none=>simp [ht]
    | some x=>rfl
   refine⟨(HR done to).map AR,⟨done++[h],by rw[e];simp,by rw[e1]⟩,λR r=>?_⟩
   unfold Ho.w
   (try refine AH ?_)
   refine RD (decide_eq_false ht) ?_
   exact r
 ·rintro _ ⟨done,e,rfl⟩
  rw[jw] at e
  subst e
  (try refine AH ?_)
  show Q ((jT ((((HR hs to).map AR).map (·.1)).zip (((HR hs to).map AR).map (·.2))) (.inr kind)).getD (.tup [])) S
  rw[lF,tQ]
  exact q
theorem F3 (ok:UM hs) (q:Q (.tup (NH hs to kind).ws) S):Ev (H0 2 Z9J [O1 hs,vA t v to kind own l m n] S) Q:=
 D8 rfl (by simp only[cH,yT,vA,W3,je]) (QQ ok ⟨_,qK (by simp only[W3,Sps.below0]),q⟩)
end
section
variable {cs:List Int} {t v l m n:Int} {to kind own:Str}
theorem G38 (hc:∀ c ∈ cs,Wt c) (hv:Wt v) {x:W} {S:Sto} (hx:yG S x=some (DX cs)) (ns:∀ z,x ≠ .str z):∀ (k:Nat) (e:Sm) (Q:W->Sto->Prop),e.dep < k->e.Ok cs.length->Q (.int (e.val cs t v)) S->Ev (Z9I k [e.w,vA t v to kind own l m n,x] S) Q:=by
 intro k
 induction k with
 | zero=>intro e Q h;exact absurd h (Nat.not_lt_zero _)
 | succ k ih=>
  intro e Q hd ok q
  unfold Z9I Z8U
  refine pI rfl ?_
  cases e with
  | num i=>
   (try refine AH ?_)
   exact q
  | cell j=>
   (try refine AH ?_)
   refine zB (E5 ok.1 ok.2 hx ns) ?_
   (try refine AH ?_)
   exact q
  | handed=>
   (try refine AH ?_)
   exact q
  | time=>
   (try refine AH ?_)
   exact q
  | two o a b=>
   have da:a.dep < k:=by simp only[Sm.dep] at hd;omega
   have db:b.dep < k:=by simp only[Sm.dep] at hd;omega
   have sub:∀ (e:Sm) (Q:W->Sto->Prop),e.dep < k->e.Ok cs.length->Q (.int (e.val cs t v)) S->Ev (AT 3 (Z9I k) [e.w,vA t v to kind own l m n,x] S) Q:=λe Q d o q=>M9 rfl (ih e _ d o q)
   have wa:=Sm.wt (t:=t) hc hv ok.1
   have wb:=Sm.wt (t:=t) hc hv ok.2
   have q:Q (.int (aMs o (a.val cs t v) (b.val cs t v))) S:=q
   have oa:a.Ok cs.length:=ok.1
   have ob:b.Ok cs.length:=ok.2
   have sa:=λQ q=>sub a Q da oa q
   have sb:=λQ q=>sub b Q db ob q
   generalize a.val cs t v=i at wa q sa
   generalize b.val cs t v=j at wb q sb
   obtain⟨a0,a1⟩:=wa
   obtain⟨b0,b1⟩:=wb
   cases o
   ·(repeat (first|with_reducible refine sa _ ?_|with_reducible refine sb _ ?_|refine AH ?_))
    exact q
   ·(repeat (first|with_reducible refine sa _ ?_|with_reducible refine sb _ ?_|refine AH ?_))
    exact q
   ·(repeat (first|with_reducible refine sa _ ?_|with_reducible refine sb _ ?_|refine AH ?_))
    exact q
   ·(repeat (first|with_reducible refine sa _ ?_|with_reducible refine sb _ ?_|refine AH ?_))
    exact xHx q
   ·(repeat (first|with_reducible refine sa _ ?_|with_reducible refine sb _ ?_|refine AH ?_))
    exact xHx q
end
structure Nt where
 t:Int
 v:Int
 to:Str
 kind:Str
 own:Str
 l:Int
 m:Int
 n:Int
def Nt.w (x:Nt):W:=vA x.t x.v x.to x.kind x.own x.l x.m x.n
theorem Nt.below0 (x:Nt):W3 0 x.w=true:=rfl
structure Ds where
 cells:List Int
 sends:List W
 tells:List Int
def KY (x:Nt) (spot:Int) (to kind:Str) (late val:Int) (k:Nat):W:=.tup [.int (x.t+late),.str to,.str kind,.int val,.str x.to,.int x.t,.int spot,.int (k:Nat)]
mutual
def Sp.run (x:Nt) (spot:Int):Sp->Ds->Ds
 | .put k e,d=>⟨d.cells.set k.toNat (e.val d.cells x.t x.v),d.sends,d.tells⟩
 | .add k e,d=>⟨d.cells.set k.toNat ((d.cells[k.toNat]?.getD 0+e.val d.cells x.t x.v) % 1000003),d.sends,d.tells⟩
 | .swap k j,d=>⟨(d.cells.set k.toNat (d.cells[j.toNat]?.getD 0)).set j.toNat (d.cells[k.toNat]?.getD 0),d.sends,d.tells⟩
 | .tell e,d=>⟨d.cells,d.sends,d.tells++[e.val d.cells x.t x.v]⟩
 | .send to kind late e,d=>⟨d.cells,d.sends++[KY x spot to kind late (e.val d.cells x.t x.v) d.sends.length],d.tells⟩
 | .ite e a b,d=>if e.val d.cells x.t x.v ≠ 0 then a.run x spot d else b.run x spot d
def Sps.run (x:Nt) (spot:Int):Sps->Ds->Ds
 | .nil,d=>d
 | .cons s r,d=>r.run x spot (s.run x spot d)
end
def Cel (m:Nat) (cs:List Int):Prop:=cs.length=m/\∀ c ∈ cs,Wt c
theorem Cel.set {m k:Nat} {cs:List Int} {i:Int} (h:Cel m cs) (hi:Wt i):Cel m (cs.set k i):=by
 refine⟨by rw[jq];exact h.1,λc hc=>?_⟩
 rcases yd hc with hc|rfl
 ·exact h.2 c hc
 ·exact hi
theorem Cel.at {m:Nat} {cs:List Int} {k:Int} (h:Cel m cs) (h0:0<=k) (h1:k < m):Wt (cs[k.toNat]?.getD 0):=by
 obtain⟨c,e,mem⟩:=NP h0 (show k < cs.length by rw[h.1];exact h1)
 rw[e]
 exact h.2 c mem
theorem V25 (i:Int):Wt (i % 1000003):=⟨yk _ qg,yc _ qg⟩
theorem Cel.val {m:Nat} {cs:List Int} {e:Sm} {t v:Int} (h:Cel m cs) (hv:Wt v) (ok:e.Ok m):Wt (e.val cs t v):=Sm.wt h.2 hv (by rw[h.1];exact ok)
section
variable {x:Nt} {spot:Int} {m:Nat} {every:List Str}
mutual
theorem Sp.run_cl (hv:Wt x.v):∀ (s:Sp) (d:Ds),s.Own m every->(∀ y ∈ s.under,y.Own m every)->Cel m d.cells->Cel m (s.run x spot d).cells
 | .put k e,d,o,_,h=>h.set (h.val hv o.2.1)
 | .add k e,d,o,_,h=>h.set (V25 _)
 | .swap k j,d,o,_,h=>(h.set (h.at o.2.1 o.2.2)).set (h.at o.1.1 o.1.2)
 | .tell e,d,_,_,h=>h
 | .send _ _ _ _,d,_,_,h=>h
 | .ite e a b,d,o,u,h=>by
  simp only[Sp.run]
  simp only[Sp.under,ji] at u
  split
  ·exact a.run_cl hv d (λy hy=>u y (.inl hy)) h
  ·exact b.run_cl hv d (λy hy=>u y (.inr hy)) h
theorem Sps.run_cl (hv:Wt x.v):∀ (s:Sps) (d:Ds),(∀ y ∈ s.all,y.Own m every)->Cel m d.cells->Cel m (s.run x spot d).cells
 | .nil,d,_,h=>h
 | .cons s r,d,o,h=>by
  simp only[Sps.all,qo,ji] at o
  exact r.run_cl hv _ (λy hy=>o y (.inr (.inr hy))) (s.run_cl hv d (o s (.inl rfl)) (λy hy=>o y (.inr (.inl hy))) h)
end
mutual
theorem Sp.run_len:∀ (s:Sp) (d:Ds),(s.run x spot d).sends.length<=d.sends.length+(1+s.under.length)/\(s.run x spot d).tells.length<=d.tells.length+(1+s.under.length)
 | .put k e,d=>by simp [Sp.run,Sp.under]
 | .add k e,d=>by simp [Sp.run,Sp.under]
 | .swap k j,d=>by simp [Sp.run,Sp.under]
 | .tell e,d=>by simp [Sp.run,Sp.under]
 | .send _ _ _ _,d=>by simp [Sp.run,Sp.under]
 | .ite e a b,d=>by
  simp only[Sp.run,Sp.under,qr]
  split
  ·have:=a.run_len d
   omega
  ·have:=b.run_len d
   omega
theorem Sps.run_len:∀ (s:Sps) (d:Ds),(s.run x spot d).sends.length<=d.sends.length+s.all.length/\(s.run x spot d).tells.length<=d.tells.length+s.all.length
 | .nil,d=>by simp [Sps.run,Sps.all]
 | .cons s r,d=>by
  have h1:=s.run_len d
  have h2:=r.run_len (s.run x spot d)
  simp only[Sps.run,Sps.all,qs,qr]
  omega
end
end
def IP (x:Nt) (spot:Int) (d:Ds):Sto:=[.ins "Doing" [("letter",x.w),("cells",.ref 1),("place",.int spot),("sends",.ref 2),("tells",.ref 3)],.lst (DX d.cells),.lst d.sends,.lst (DX d.tells)]
section
variable {x:Nt} {spot:Int} {d:Ds} {m:Nat} {every:List Str} {Q:W->Sto->Prop}
theorem qC {e:Sm} (hc:Cel m d.cells) (hv:Wt x.v) (hd:e.dep < 6) (ok:e.Ok m) (q:Q (.int (e.val d.cells x.t x.v)) (IP x spot d)):Ev (AT 2 Z92 [.ref 0,e.w] (IP x spot d)) Q:=by
 have ok:e.Ok d.cells.length:=by rw[hc.1];exact ok
 have hc:=hc.2
 refine M9 rfl ?_
 unfold Z92 EX
 refine pI rfl ?_
 (try refine AH ?_)
 refine M9 rfl (G38 (x:=.ref 1) hc hv rfl (by simp) 6 e _ hd ok ?_)
 (try refine AH ?_)
 exact q
theorem kZ {cs ts:List Int} {ss:List W} {k i:Int} (k0:0<=k) (k1:k < cs.length):IE (.ref 1) (.int k) (.int i) (IP x spot ⟨cs,ss,ts⟩)=some (.ok (),IP x spot ⟨cs.set k.toNat i,ss,ts⟩):=by
 have e:ixN (DX cs).length k=some k.toNat:=by
  unfold ixN DX
  rw[qq,if_pos k0,if_pos k1]
 show(match ixN (DX cs).length k with
  | some j=>some (Res.ok (),(IP x spot ⟨cs,ss,ts⟩).set 1 (.lst ((DX cs).set j (.int i))))
  | none=>none)=_
 rw[e]
 show some (Res.ok (),(IP x spot ⟨cs,ss,ts⟩).set 1 (.lst ((DX cs).set k.toNat (.int i))))=_
 unfold DX
 rw[<- List.map_set]
 rfl
theorem X7c {e:Sm} {k:Int} (hc:Cel m d.cells) (hv:Wt x.v) (own:(Sp.put k e).Own m every) (q:Q .non (IP x spot ((Sp.put k e).run x spot d))):Ev (AT 3 Z9z [.ref 0,.int k,e.w] (IP x spot d)) Q:=by
 have k0:=own.1.1
 have k1:k < d.cells.length:=by rw[hc.1];exact own.1.2
 have hd:e.dep < 6:=own.2.2
 have ok:e.Ok m:=own.2.1
 refine M9 rfl ?_
 unfold Z9z eC
 refine pI rfl ?_
 (repeat (first|with_reducible refine qC hc hv hd ok ?_|refine AH ?_))
 refine QJ (kZ k0 k1) ?_
 (try refine AH ?_)
 exact q
theorem SFv {e:Sm} {k:Int} (hc:Cel m d.cells) (hv:Wt x.v) (own:(Sp.add k e).Own m every) (q:Q .non (IP x spot ((Sp.add k e).run x spot d))):Ev (AT 3 Z9y [.ref 0,.int k,e.w] (IP x spot d)) Q:=by
 have k0:=own.1.1
 have k1:k < d.cells.length:=by rw[hc.1];exact own.1.2
 have hd:e.dep < 6:=own.2.2
 have ok:e.Ok m:=own.2.1
 refine M9 rfl ?_
 unfold Z9y dW
 refine pI rfl ?_
 (repeat (first|((with_reducible refine zB (w:=.int (d.cells[k.toNat]?.getD 0)) ?_ ?_);exact E5 k0 k1 rfl (by simp))|with_reducible refine qC hc hv hd ok ?_|refine AH ?_))
 refine QJ (kZ k0 k1) ?_
 (try refine AH ?_)
 exact q
theorem ZHm {k j:Int} (hc:Cel m d.cells) (own:(Sp.swap k j).Own m every) (q:Q .non (IP x spot ((Sp.swap k j).run x spot d))):Ev (AT 4 Z9T [.ref 0,.str "swap",.int k,.int j] (IP x spot d)) Q:=by
 have k0:=own.1.1
 have k1:k < d.cells.length:=by rw[hc.1];exact own.1.2
 have j0:=own.2.1
 have j1:j < d.cells.length:=by rw[hc.1];exact own.2.2
 refine M9 rfl ?_
 unfold Z9T tN
 refine pI rfl ?_
 (repeat (first|((with_reducible refine zB (w:=.int (d.cells[k.toNat]?.getD 0)) ?_ ?_);exact E5 k0 k1 rfl (by simp))|((with_reducible refine zB (w:=.int (d.cells[j.toNat]?.getD 0)) ?_ ?_);exact E5 j0 j1 rfl (by simp))|refine AH ?_))
 refine QJ (kZ k0 k1) ?_
 (try refine AH ?_)
 refine QJ (kZ j0 (by rw[jq];exact j1)) ?_
 (try refine AH ?_)
 exact q
theorem oN {S:Sto} {p:Nat} {xs:List W} {y:W} (e:S[p]? = some (.lst xs)) (hl:xs.length < lim):O4 (.ref p) [y] S=some (.ok .non,S.set p (.lst (xs++[y]))):=by
 show(match S[p]? with
  | some (.lst xs)=>match (if xs.length < lim then some (W.non,xs++[y]) else none) with
   | some (w,ys)=>some (Res.ok w,S.set p (.lst ys))
   | none=>none
  | _=>none)=_
 rw[e]
 show(match (if xs.length < lim then some (W.non,xs++[y]) else none) with
   | some (w,ys)=>some (Res.ok w,S.set p (.lst ys))
   | none=>none)=_
 rw[if_pos hl]
theorem IUU {to kind:Str} {late:Int} {e:Sm} (hc:Cel m d.cells) (hv:Wt x.v) (hl:d.sends.length < 10000) (own:(Sp.send to kind late e).Own m every) (q:Q .non (IP x spot ((Sp.send to kind late e).run x spot d))):Ev (AT 2 Z9G [.ref 0,.lst [.str to,.str kind,.int late,e.w]] (IP x spot d)) Q:=by
 have hd:e.dep < 6:=own.2.2
 have ok:e.Ok m:=own.2.1
 refine M9 rfl ?_
 unfold Z9G CL
 refine pI rfl ?_
 (repeat (first|with_reducible refine qC hc hv hd ok ?_|refine AH ?_))
 refine uQ (oN (p:=2) rfl (yy hl qg)) ?_
 (try refine AH ?_)
 exact q
end
section
variable {x:Nt} {spot:Int} {m:Nat} {every:List Str}
theorem u4N (hv:Wt x.v):∀ (k:Nat) (ss:Sps) (d:Ds) (Q:W->Sto->Prop),ss.dep < k->(∀ y ∈ ss.all,y.Own m every)->Cel m d.cells->d.sends.length+ss.all.length<=2000->d.tells.length+ss.all.length<=2000->Q .non (IP x spot (ss.run x spot d))->Ev (AT 2 (Z91 k) [.ref 0,.tup ss.ws] (IP x spot d)) Q:=by
 intro k
 induction k with
 | zero=>intro ss d Q hd;omega
 | succ k ih=>
  intro ss d Q hd own hc hs ht q
  refine M9 rfl ?_
  show Ev (IU UN 2 (EN (Z91 k)) _ _) _
  unfold EN
  refine pI rfl ?_
  (try refine AH ?_)
  refine fI (λys L S=>∃ (r:Sps) (d':Ds) (a b c e f g h:Option W),ys=r.ws/\L=[some (.ref 0),some (.tup ss.ws),a,b,c,e,f,g,h]/\S=IP x spot d'/\r.run x spot d'=ss.run x spot d/\r.dep<=k/\(∀ y ∈ r.all,y.Own m every)/\Cel m d'.cells/\d'.sends.length+r.all.length<=2000/\d'.tells.length+r.all.length<=2000) (λ_ _=>False) ?_ ?_ (λ_ _ z=>z.elim) _ _ _ ⟨ss,d,_,_,_,_,_,_,_,rfl,rfl,rfl,rfl,by omega,own,hc,hs,ht⟩
  ·rintro y ys L S ⟨r,d',a,b,c,e,f,g,h,e1,rfl,rfl,e2,hd,own,hc,hs,ht⟩
   refine⟨rfl,?_⟩
   cases r with
   | nil=>cases e1
   | cons s r=>
    simp only[Sps.ws,List.cons.injEq] at e1
    obtain⟨rfl,rfl⟩:=e1
    simp only[Sps.run] at e2
    simp only[Sps.dep] at hd
    simp only[Sps.all,qs,qr] at hs ht
    have own1:s.Own m every:=own s (by simp [Sps.all])
    have own2:∀ y ∈ s.under,y.Own m every:=λy hy=>own y (by simp [Sps.all,hy])
    have own3:∀ y ∈ r.all,y.Own m every:=λy hy=>own y (by simp [Sps.all,hy])
    have hc':=s.run_cl (x:=x) (spot:=spot) hv d' own1 own2 hc
    have hl:=s.run_len (x:=x) (spot:=spot) d'
    have fin:∀ (a b c e f g h:Option W),∃ (r':Sps) (d2:Ds) (a' b' c' e' f' g' h':Option W),r.ws=r'.ws/\[some (.ref 0),some (.tup ss.ws),a,b,c,e,f,g,h]=[some (.ref 0),some (.tup ss.ws),a',b',c',e',f',g',h']/\IP x spot (s.run x spot d')=IP x spot d2/\r'.run x spot d2=ss.run x spot d/\r'.dep<=k/\(∀ y ∈ r'.all,y.Own m every)/\Cel m d2.cells/\d2.sends.length+r'.all.length<=2000/\d2.tells.length+r'.all.length<=2000:=
     λa b c e f g h=>⟨r,s.run x spot d',a,b,c,e,f,g,h,rfl,rfl,rfl,e2,by omega,own3,hc',by omega,by omega⟩
    clear e2
    cases s with
    | put k e=>
     simp only[Sp.w]
     (try refine AH ?_)
     refine M9 rfl ?_
     unfold Z9T tN
     refine pI rfl ?_
     (try refine AH ?_)
     refine X7c hc hv own1 ?_
     (try refine AH ?_)
     exact fin _ _ _ _ _ _ _
    | add k e=>
     simp only[Sp.w]
     (try refine AH ?_)
     refine M9 rfl ?_
     unfold Z9T tN
     refine pI rfl ?_
     (try refine AH ?_)
     refine SFv hc hv own1 ?_
     (try refine AH ?_)
     exact fin _ _ _ _ _ _ _
    | swap k j=>
     simp only[Sp.w]
     (try refine AH ?_)
     refine ZHm hc own1 ?_
     (try refine AH ?_)
     exact fin _ _ _ _ _ _ _
    | tell e=>
     have dd:e.dep < 6:=own1.2
     have ok:e.Ok m:=own1.1
     simp only[Sp.w]
     (repeat (first|with_reducible refine qC hc hv dd ok ?_|refine AH ?_))
     refine uQ (oN (p:=3) rfl (by simp only[DX,qq];exact jy (show _<=2000 by omega) qg)) ?_
     have e5:(IP x spot d').set 3 (.lst (DX d'.tells++[.int (e.val d'.cells x.t x.v)]))=IP x spot ((Sp.tell e).run x spot d'):=by
      simp [IP,Sp.run,DX]
     rw[e5]
     exact fin _ _ _ _ _ _ _
    | send to kind late e=>
     simp only[Sp.w]
     (try refine AH ?_)
     refine IUU hc hv qh own1 ?_
     (try refine AH ?_)
     exact fin _ _ _ _ _ _ _
    | ite e a b=>
     have dd:e.dep < 6:=own1.2
     have ok:e.Ok m:=own1.1
     simp only[Sp.dep] at hd
     simp only[Sp.under,qr] at hs ht
     simp only[Sp.run] at fin
     simp only[Sp.w]
     (try refine AH ?_)
     refine M9 rfl ?_
     unfold Z9v bM
     refine pI rfl ?_
     (repeat (first|with_reducible refine qC hc hv dd ok ?_|refine AH ?_))
     simp only[Sp.under,ji] at own2
     by_cases z:e.val d'.cells x.t x.v=0
     ·refine RD (by simp [z]) ?_
      rw[if_neg (not_not_intro z)] at fin
      (try refine AH ?_)
      refine ih b d' _ qh (λy hy=>own2 y (.inr hy)) hc qh qh ?_
      exact fin _ _ _ _ _ _ _
     ·refine nN (by simp [z]) ?_
      rw[if_pos z] at fin
      (try refine AH ?_)
      refine ih a d' _ qh (λy hy=>own2 y (.inl hy)) hc qh qh ?_
      exact fin _ _ _ _ _ _ _
  ·rintro L S ⟨r,d',a,b,c,e,f,g,h,e1,rfl,rfl,e2,hd,own,hc,hs,ht⟩
   refine⟨rfl,?_⟩
   cases r with
   | nil=>
    simp only[Sps.run] at e2
    subst e2
    (try refine AH ?_)
    exact q
   | cons s r=>cases e1
end
def Ds.w (d:Ds):W:=.tup [.tup (DX d.cells),.tup d.sends,.tup (DX d.tells)]
def ZQ (hs:List Ho) (x:Nt) (cs:List Int) (spot:Int):Ds:=(NH hs x.to x.kind).run x spot ⟨cs,[],[]⟩
theorem lC {n:Nat}:∀ {xs ys:List W},cH n xs=true->cH n ys=true->cH n (xs++ys)=true
 | [],_,_,h=>h
 | x :: xs,ys,g,h=>by
  simp only[cH,js] at g
  simp only[zh,cH,g.1,lC g.2 h,je]
section
variable {x:Nt} {spot:Int} {n:Nat}
mutual
theorem Sp.run_below:∀ (s:Sp) (d:Ds),cH n d.sends=true->cH n (s.run x spot d).sends=true
 | .put k e,d,h=>h
 | .add k e,d,h=>h
 | .swap k j,d,h=>h
 | .tell e,d,h=>h
 | .send _ _ _ _,d,h=>lC h rfl
 | .ite e a b,d,h=>by
  simp only[Sp.run]
  split
  ·exact a.run_below d h
  ·exact b.run_below d h
theorem Sps.run_below:∀ (s:Sps) (d:Ds),cH n d.sends=true->cH n (s.run x spot d).sends=true
 | .nil,d,h=>h
 | .cons s r,d,h=>r.run_below _ (s.run_below d h)
end
end
theorem zO {hs:List Ho} {to kind:Str}:NH hs to kind = .nil \/ ∃ h ∈ hs,h.name=to/\∃ r ∈ h.rules,r.1=kind/\NH hs to kind=r.2:=by
 unfold NH HR
 cases e:hs.find? λh=>decide (h.name=to) with
 | none=>exact .inl rfl
 | some h=>
  have e1:h.name=to:=by simpa using List.find?_some e
  have e2:=List.mem_of_find?_eq_some e
  show oY h.rules kind = .nil \/ _
  unfold oY
  cases e3:h.rules.find? λr=>decide (r.1=kind) with
  | none=>exact .inl rfl
  | some r=>exact .inr ⟨h,e2,e1,r,List.mem_of_find?_eq_some e3,(by simpa using List.find?_some e3),rfl⟩
section
variable {x:Nt} {spot:Int} {d:Ds} {Q:W->Sto->Prop} {hs:List Ho} {cs:List Int} {S:Sto}
theorem W93 (q:Q d.w (IP x spot d)):Ev (AT 1 Z9L [.ref 0] (IP x spot d)) Q:=by
 refine M9 rfl ?_
 unfold Z9L qA
 refine pI rfl ?_
 (try refine AH ?_)
 exact q
theorem bOK (q:Q (.ref 0) (IP x spot ⟨cs,[],[]⟩)):Ev (zV "Doing" 4 Z9F [x.w,.tup (DX cs),.int spot] []) Q:=by
 refine AO rfl ?_
 unfold Z9F rV
 refine pI rfl ?_
 (try refine AH ?_)
 refine bNj (p:=.ref 1) (S':=[.ins "Doing" [("letter",x.w)],.lst (DX cs)]) rfl ?_
 (try refine AH ?_)
 exact⟨rfl,q⟩
structure At (hs:List Ho) (x:Nt) (cs:List Int):Prop where
 net:UM hs
 hv:Wt x.v
 cl:∀ h ∈ hs,h.name=x.to->Cel h.cells.length cs
end
section
variable {x:Nt} {spot:Int} {d:Ds} {Q:W->Sto->Prop} {hs:List Ho} {cs:List Int} {S:Sto}
theorem zL (a:At hs x cs) (q:Q (ZQ hs x cs spot).w S):Ev (H0 4 Z9w [O1 hs,x.w,.tup (DX cs),.int spot] S) Q:=by
 refine D8 rfl (by simp only[yT,Nt.below0,cH,W3,DX,JO,je]) ?_
 unfold Z9w Z8L
 refine pI rfl ?_
 (repeat (first|with_reducible refine bOK ?_|refine AH ?_))
 refine F3 a.net ?_
 (try refine AH ?_)
 have fin:∀ {m:Nat},(NH hs x.to x.kind).dep < 6->(NH hs x.to x.kind).all.length<=100->(∀ y ∈ (NH hs x.to x.kind).all,y.Own m (hs.map Ho.name))->Cel m cs->∀ {Q':W->Sto->Prop},Q' .non (IP x spot (ZQ hs x cs spot))->Ev (AT 2 (Z91 6) [.ref 0,.tup (NH hs x.to x.kind).ws] (IP x spot ⟨cs,[],[]⟩)) Q':=λd l o c Q' q'=>u4N a.hv 6 _ _ _ d o c (by simp only[jh];omega) (by simp only[jh];omega) q'
 have go:∀ {Q':W->Sto->Prop},Q' .non (IP x spot (ZQ hs x cs spot))->Ev (AT 2 (Z91 6) [.ref 0,.tup (NH hs x.to x.kind).ws] (IP x spot ⟨cs,[],[]⟩)) Q':=by
  intro Q' q'
  rcases zO (hs:=hs) (to:=x.to) (kind:=x.kind) with e|⟨h,hh,ht,r,hr,_,e⟩
  ·have e2:ZQ hs x cs spot=⟨cs,[],[]⟩:=by
    unfold ZQ
    rw[e]
    rfl
   rw[e2] at q'
   rw[e]
   refine M9 rfl ?_
   show Ev (IU UN 2 (EN (Z91 5)) _ _) _
   unfold EN
   refine pI rfl ?_
   (try refine AH ?_)
   exact q'
  ·have ok:=a.net.ok h hh
   exact fin (m:=h.cells.length) (by rw[e];exact ok.sd r hr) (by rw[e];exact jb (ok.sl r hr) qg) (by rw[e];exact ok.st r hr) (a.cl h hh ht) q'
 refine go ?_
 (repeat (first|with_reducible refine W93 ?_|refine AH ?_))
 refine⟨_,qK ?_,q⟩
 have b:cH 0 (ZQ hs x cs spot).sends=true:=Sps.run_below _ _ rfl
 simp only[Ds.w,W3,cH,DX,JO,b,je]
end
theorem NUm {k n:Nat} {x:Nt} {spot late val:Int} {to kind:Str} {j:Nat} (h1:PyData.strOk to=true) (h2:PyData.strOk kind=true) (h3:PyData.strOk x.to=true) (l1:to.length<=40) (l2:kind.length<=40) (l3:x.to.length<=40) (t0:0<=x.t/\x.t<=10000) (d0:0<=late/\late<=100) (v0:Wt val) (s0:0<=spot/\spot<=10000) (j0:j<=10000) (hk:1<=k) (hn:400<=n):Rp k n (KY x spot to kind late val j):=by
 refine Rp.mono (yX (k:=0) (n:=40) ?_ (Nat.le_of_ble_eq_true rfl:8 * (40+1)<=400)) hk hn
 have big:(10:Nat) ^ 12=1000000000000:=rfl
 intro w hw
 simp only[qo,qu,or_false] at hw
 rcases hw with rfl|rfl|rfl|rfl|rfl|rfl|rfl|rfl
 ·exact LB qh (jg _)
 ·exact sU h1 l1
 ·exact sU h2 l2
 ·have:=v0.1
  have:=v0.2
  exact LB qh (jg _)
 ·exact sU h3 l3
 ·exact LB qh (jg _)
 ·exact LB qh (jg _)
 ·exact LB qh (jg _)
structure Nt.Fine (x:Nt) (spot:Int) (places:List Str):Prop where
 v:Wt x.v
 to:Nam x.to
 t0:0<=x.t
 t1:x.t<=5000
 s0:0<=spot
 s1:spot<=10000
 pl:∀ z ∈ places,Nam z
structure Ds.Fine (m:Nat) (d:Ds):Prop where
 cl:Cel m d.cells
 snt:∀ w ∈ d.sends,Rp 1 400 w
 tld:∀ c ∈ d.tells,Wt c
section
variable {x:Nt} {spot:Int} {m:Nat} {places:List Str}
mutual
theorem Sp.run_fine (f:x.Fine spot places):∀ (s:Sp) (d:Ds),s.Own m places->(∀ y ∈ s.under,y.Own m places)->d.sends.length+(1+s.under.length)<=2000->d.Fine m->(s.run x spot d).Fine m
 | .put k e,d,o,u,_,h=>⟨(Sp.put k e).run_cl f.v d o u h.cl,h.snt,h.tld⟩
 | .add k e,d,o,u,_,h=>⟨(Sp.add k e).run_cl f.v d o u h.cl,h.snt,h.tld⟩
 | .swap k j,d,o,u,_,h=>⟨(Sp.swap k j).run_cl f.v d o u h.cl,h.snt,h.tld⟩
 | .tell e,d,o,u,_,h=>by
  refine⟨(Sp.tell e).run_cl f.v d o u h.cl,h.snt,λc hc=>?_⟩
  rcases ji.mp hc with hc|hc
  ·exact h.tld c hc
  ·rw[qp.mp hc]
   exact h.cl.val f.v o.1
 | .send to kind late e,d,o,u,l,h=>by
  refine⟨(Sp.send to kind late e).run_cl f.v d o u h.cl,λw hw=>?_,h.tld⟩
  rcases ji.mp hw with hw|hw
  ·exact h.snt w hw
  ·rw[qp.mp hw]
   have nt:=f.pl to o.1.1
   have nk:Nam kind:=o.1.2.1
   have l1:=o.1.2.2.1
   have l2:=o.1.2.2.2
   have t0:=f.t0
   have t1:=f.t1
   have s0:=f.s0
   have s1:=f.s1
   exact NUm nt.strOk nk.strOk f.to.strOk (jb nt.2.1 qg) (jb nk.2.1 qg) (jb f.to.2.1 qg) ⟨t0,by omega⟩ ⟨by omega,by omega⟩ (h.cl.val f.v o.2.1) ⟨s0,s1⟩ qh qg qg
 | .ite e a b,d,o,u,l,h=>by
  simp only[Sp.under,ji,qr] at u l
  simp only[Sp.run]
  split
  ·exact a.run_fine f d (λy hy=>u y (.inl hy)) qh h
  ·exact b.run_fine f d (λy hy=>u y (.inr hy)) qh h
theorem Sps.run_fine (f:x.Fine spot places):∀ (s:Sps) (d:Ds),(∀ y ∈ s.all,y.Own m places)->d.sends.length+s.all.length<=2000->d.Fine m->(s.run x spot d).Fine m
 | .nil,d,_,_,h=>h
 | .cons s r,d,o,l,h=>by
  simp only[Sps.all,qo,ji,qs,qr] at o l
  have hl:=s.run_len (x:=x) (spot:=spot) d
  exact r.run_fine f _ (λy hy=>o y (.inr (.inr hy))) qh (s.run_fine f d (o s (.inl rfl)) (λy hy=>o y (.inr (.inl hy))) qh h)
end
end
structure Kt where
 many:Int
 places:List Str
 kinds:List Str
 p:Nat
def Kt.w (k:Kt):W:=.dk [.inr "many",.inr "places",.inr "kinds",.inr "left"] [.int k.many,.lst (CU k.places),.lst (CU k.kinds),.ref (k.p+2)]
structure Kt.Ok (k:Kt):Prop where
 m1:1<=k.many
 m4:k.many<=4
 pl:0 < k.places.length/\k.places.length<=20
 kl:0 < k.kinds.length/\k.kinds.length<=20
 kn:∀ z ∈ k.kinds,Nam z
theorem sG {n:Nat} {R S:Sto} {Q:W->Sto->Prop} {zs:List Str} (h:Dw (n+1) R S) (hr:R.all (oB (R.length+2))=true) (hx:0 < zs.length) (hl:zs.length<=20) (q:∀ z S',z ∈ zs->Dw n R S'->Q (.str z) S'):Ev (mN 2 Z90 [.ref 1,.lst (CU zs)] S) Q:=
 jC h hr (λe=>by
  have:=congrArg yx e
  rw[xM] at this
  simp only[jh] at this
  omega) (by rw[xM];omega) (λy hy=>by
  obtain⟨z,_,rfl⟩:=jc.mp hy
  rfl) λy S' hy h'=>by
  obtain⟨z,hz,rfl⟩:=jc.mp hy
  exact q z S' hz h'
section
variable {n:Nat} {R S:Sto} {Q:W->Sto->Prop} {k:Kt}
theorem IS (hr:R.all (oB (R.length+2))=true) (ok:k.Ok) {v:Int} (v0:0<=v) (v1:v < 4) (h:Dw (n+254) R S) (q:∀ (e:Sm) S',e.Ok k.many->e.dep < 6->Dw n R S'->Q e.w S'):Ev (mN 3 (Z9d 6) [.ref 1,.int k.many,.int (1+v)] S) Q:=
 u9T (n:=n) hr (by have:=ok.m1;omega) (by have:=ok.m4;omega) qh (h.mono (by simp [drs])) λe S' h1 h2 h3=>q e S' h1 qh h3
theorem lKL (hr:R.all (oB (R.length+2))=true) (ok:k.Ok) (h:Dw (n+300) R S) (q:∀ (to kind:Str) (late:Int) (e:Sm) S',(Sp.send to kind late e).Own k.many k.places->Dw n R S'->Q (Sp.send to kind late e).w S'):Ev (Z9l [.ref 1,k.w] S) Q:=by
 unfold Z9l Z7L
 refine pI rfl ?_
 unfold Kt.w
 (try refine AH ?_)
 refine aX (n:=n+299) h hr qg qg λv1 S1 a0 a1 h1=>?_
 (try refine AH ?_)
 refine aX (n:=n+298) h1 hr qg qg λv2 S2 b0 b1 h2=>?_
 (try refine AH ?_)
 refine aX (n:=n+297) h2 hr qg qg λv3 S3 c0 c1 h3=>?_
 (try refine AH ?_)
 refine aX (n:=n+296) h3 hr qg qg λv4 S4 d0 d1 h4=>?_
 obtain⟨w,mem,_,e⟩:=IM (S:=S4) (x:=.lst [.int v1,.int v2,.int v3]) rfl (by simp) d0 d1
 obtain⟨late,rfl,l0,l1⟩:∃ i:Int,w = .int i/\0<=i/\i < 20:=by
  simp only[qo,qu,or_false] at mem
  rcases mem with rfl|rfl|rfl
  ·exact⟨_,rfl,a0,by omega⟩
  ·exact⟨_,rfl,b0,by omega⟩
  ·exact⟨_,rfl,c0,c1⟩
 refine zB e ?_
 (try refine AH ?_)
 refine sG (n:=n+295) h4 hr ok.pl.1 ok.pl.2 λto S5 m5 h5=>?_
 (try refine AH ?_)
 refine sG (n:=n+294) h5 hr ok.kl.1 ok.kl.2 λkind S6 m6 h6=>?_
 (try refine AH ?_)
 refine aX (n:=n+293) h6 hr qg qg λv7 S7 e0 e1 h7=>?_
 (try refine AH ?_)
 refine IS (n:=n) hr ok e0 e1 (h7.mono qh) λe S8 o8 d8 h8=>?_
 (try refine AH ?_)
 exact q to kind (1+late) e S8 ⟨⟨m5,ok.kn kind m6,by omega,by omega⟩,o8,d8⟩ h8
theorem UP (hr:R.all (oB (R.length+2))=true) (ok:k.Ok) (h:Dw (n+300) R S) (q:∀ (to kind:Str) (late:Int) (e:Sm) S',(Sp.send to kind late e).Own k.many k.places->Dw n R S'->Q (Sp.send to kind late e).w S'):Ev (mN 2 Z9l [.ref 1,k.w] S) Q:=
 WBf (λw=>∃ (to kind:Str) (late:Int) (e:Sm),w=(Sp.send to kind late e).w/\(Sp.send to kind late e).Own k.many k.places) rfl h hr (by rintro _ ⟨_,_,_,_,rfl,_⟩;exact Sp.below0 _) (λQ' q'=>lKL hr ok h λto kind late e S' o h'=>q' _ S' ⟨to,kind,late,e,rfl,o⟩ h') (by rintro _ S' ⟨to,kind,late,e,rfl,o⟩ h';exact q to kind late e S' o h')
end
def Sps.ofL:List Sp->Sps
 | []=>.nil
 | s :: r=>.cons s (Sps.ofL r)
theorem Q0:∀ fs:List Sp,(Sps.ofL fs).ws=spW fs
 | []=>rfl
 | s :: r=>by
  show s.w :: (Sps.ofL r).ws=_
  rw[Q0 r]
  rfl
def FP (fs:List Sp):List Sp:=fs.flatMap λs=>s :: s.under
theorem I7:∀ fs:List Sp,(Sps.ofL fs).all=FP fs
 | []=>rfl
 | s :: r=>by
  show s :: (s.under++(Sps.ofL r).all)=_
  rw[I7 r]
  rfl
theorem GU {d:Nat}:∀ {fs:List Sp},(∀ s ∈ fs,s.dep<=d)->(Sps.ofL fs).dep<=d
 | [],_=>jf _
 | s :: r,h=>Nat.max_le.mpr ⟨h s qw,GU λy hy=>h y (qy _ hy)⟩
theorem VY (fs:List Sp) (s:Sp):FP (fs++[s])=FP fs++s :: s.under:=by
 unfold FP
 rw[List.flatMap_append]
 simp
def Lf (R:Sto) (p:Nat) (left:Nat):Sto:=R.set p (.lst [.int left])
theorem J0 {R:Sto} {p left:Nat}:(Lf R p left).length=R.length:=jq
theorem vJ {R T:Sto} {p left:Nat} (hp:p < R.length):(Lf R p left++T)[p]? = some (.lst [.int left]):=by
 unfold Lf
 rw[jl (by rw[jq];exact hp),jj hp]
theorem UYD {R T:Sto} {p left m:Nat} (hp:p < R.length):(Lf R p left++T).set p (.lst [.int m])=Lf R p m++T:=by
 unfold Lf
 rw[List.set_append,if_pos (by rw[jq];exact hp),List.set_set]
theorem I5 {R T:Sto} {p left:Nat} (hp:p < R.length):Lf (R++T) p left=Lf R p left++T:=by
 unfold Lf
 rw[List.set_append,if_pos hp]
theorem GL {R:Sto} {p left:Nat} {o:Ob}:(Lf R p left++[o])[R.length]? = some o:=by
 rw[zm (by rw[J0];exact jg _),J0,Nat.sub_self]
 rfl
theorem BVv {R:Sto} {p left:Nat} {o o':Ob}:(Lf R p left++[o]).set R.length o'=Lf R p left++[o']:=by
 rw[List.set_append,if_neg (by rw[J0];exact Nat.lt_irrefl _),J0,Nat.sub_self]
 rfl
theorem yY {R:Sto} {p left n:Nat} (h:R.all (oB n)=true):(Lf R p left).all (oB n)=true:=by
 rw[zc] at h ⊢
 intro o ho
 rcases yd ho with ho|rfl
 ·exact h o ho
 ·rfl
theorem oQ {n m:Nat} (le:n<=m) {S:Sto} (h:S.all (oB n)=true):S.all (oB m)=true:=by
 rw[zc] at h ⊢
 intro o ho
 have:=h o ho
 cases o <;> exact C5 le this
theorem yK {n k:Nat} {R S:Sto} {xs:List W} (h:Dw n R S) (e:R[k]? = some (.lst xs)):oX S (.ref (k+2))=true:=by
 unfold oX
 rw[XY h e]
 rfl
theorem tG {n p left:Nat} {R S:Sto} (h:Dw n R S) (e:R[p]? = some (.lst [.int (left:Nat)])):ixW S (.ref (p+2)) (.int 0)=some (.int (left:Nat)):=by
 show(yG S (.ref (p+2))).bind (λxs=>atI xs 0)=_
 rw[xP (XY h e)]
 rfl
theorem UK {n p left:Nat} {R S:Sto} {w:W} (h:Dw n R S) (e:R[p]? = some (.lst [.int (left:Nat)])):IE (.ref (p+2)) (.int 0) w S=some (.ok (),S.set (p+2) (.lst [w])):=by
 have g:S[p+2]? = some (.lst [.int (left:Nat)]):=by rw[h.get,e]
 unfold IE
 simp only[g]
 rfl
section
variable {k:Kt}
def ES (k:Kt) (f:Nat):Prop:=∀ (d left:Nat) (R:Sto) (n:Nat) (S:Sto) (Q:W->Sto->Prop),2 * d+2<=f->k.p < R.length->left<=100->R.all (oB (R.length+2))=true->Dw (n+1000 * left+1) (Lf R k.p left) S->(∀ (fs:List Sp) (left':Nat) S',(∀ s ∈ fs,s.dep<=d)->(∀ y ∈ FP fs,y.Own k.many k.places)->(FP fs).length+left'<=left->Dw (n+1000 * left') (Lf R k.p left') S'->Q (.tup (spW fs)) S')->Ev (mN 3 (Z9q f) [.ref 1,k.w,.int (d:Nat)] S) Q
def z0 (k:Kt) (f:Nat):Prop:=∀ (d left:Nat) (R:Sto) (n:Nat) (S:Sto) (Q:W->Sto->Prop),2 * d+1<=f->k.p < R.length->left<=100->R.all (oB (R.length+2))=true->Dw (n+1000 * left+700) (Lf R k.p left) S->(∀ (s:Sp) (left':Nat) S',s.dep<=d->(∀ y ∈ s :: s.under,y.Own k.many k.places)->s.under.length+left'<=left->Dw (n+1000 * left') (Lf R k.p left') S'->Q s.w S')->Ev (mN 3 (Z8P f) [.ref 1,k.w,.int (d:Nat)] S) Q
theorem GE (fs:List Sp):(spW fs).length=fs.length:=qq _
theorem LK (fs:List Sp):fs.length<=(FP fs).length:=by
 induction fs with
 | nil=>exact jg _
 | cons s r ih=>
  unfold FP at ih ⊢
  rw[yo,qr,qs,qs]
  omega
theorem GX {f:Nat} (ok:k.Ok) (ih:z0 k f):ES k (f+1):=by
 intro d left R n S Q hf hp hl hr h q
 refine pL (R:=Lf R k.p left) rfl h ?_
 show Ev (IU WY 3 (Z8N (Z9q f) (Z8P f)) _ _) _
 unfold Z8N
 refine pI rfl ?_
 have hw:=h.push (.lst [])
 have hlen:=h.len
 rw[J0] at hlen
 have hrr:∀ (m:Nat) (fs:List Sp),(Lf R k.p m++[Ob.lst (spW fs)]).all (oB ((Lf R k.p m++[Ob.lst (spW fs)]).length+2))=true:=λm fs=>by
  rw[zq,oQ (n:=R.length+2) (by rw[qr,J0];omega) (yY hr)]
  simp only[ze,Qc,oB,cY,je]
 (try refine AH ?_)
 rw[hlen]
 refine aX (n:=n+1000 * left) (hw.mono qh) (hrr left []) qg qg λv1 S1 a0 a1 h1=>?_
 (try refine AH ?_)
 refine fI (λys L S'=>∃ (fs:List Sp) (m:Nat) (a:Option W),L=[some (.ref 1),some k.w,some (.int (d:Nat)),some (.ref (R.length+2)),a]/\(∀ s ∈ fs,s.dep<=d)/\(∀ y ∈ FP fs,y.Own k.many k.places)/\(FP fs).length+m<=left/\Dw (n+1000 * m) (Lf R k.p m++[Ob.lst (spW fs)]) S') (λ_ _=>False) ?_ ?_ (λ_ _ z=>z.elim) _ _ _ ⟨[],left,_,rfl,(λ_ z=>nomatch z),(λ_ z=>nomatch z),by simp [FP],h1⟩
 ·rintro y ys L S' ⟨fs,m,a,rfl,hd,ho,hc,hw⟩
  refine⟨True.intro,?_⟩
  (repeat (first|((with_reducible refine zB (tG hw (vJ hp)) ?_))|refine AH ?_))
  refine UL (λe=>?_) (λ_=>?_)
  ·obtain⟨j,rfl⟩:∃ j,m=j+1:=⟨m - 1,by have:=of_decide_eq_true e;omega⟩
   have ej:(((j+1:Nat):Int) - 1)=(j:Nat):=by omega
   have hw2:=hw.put k.p (.lst [.int (j:Nat)])
   rw[UYD hp] at hw2
   (repeat (first|((with_reducible refine zB (tG hw (vJ hp)) ?_))|((with_reducible refine QJ (UK hw (vJ hp)) ?_);rw[ej])|refine AH ?_))
   refine⟨yK (k:=R.length) hw2 GL,?_⟩
   (try refine AH ?_)
   have hrn:(R++[Ob.lst (spW fs)]).all (oB ((R++[Ob.lst (spW fs)]).length+2))=true:=by
    rw[zq,oQ (n:=R.length+2) (by rw[qr];omega) hr]
    simp only[ze,Qc,oB,cY,je]
   refine ih d j (R++[.lst (spW fs)]) (n+1000 * 0) _ _ qh (by rw[qr];omega) qh hrn ?_ λs left' S3 h1 h2 h3 h4=>?_
   ·rw[I5 hp]
    exact hw2.mono qh
   rw[I5 hp] at h4
   (try refine AH ?_)
   have lfs:fs.length < lim:=jy (show fs.length<=100 by have:=LK fs;omega) qg
   refine uQ (EQ (k:=R.length) h4 GL (by rw[GE];exact lfs)) ?_
   have h5:=h4.put R.length (.lst (spW fs++[s.w]))
   rw[BVv] at h5
   refine⟨fs++[s],left',_,rfl,?_,?_,?_,?_⟩
   ·intro y hy
    rcases ji.mp hy with hy|hy
    ·exact hd y hy
    ·rw[qp.mp hy]
     exact h1
   ·intro y hy
    rw[VY] at hy
    rcases ji.mp hy with hy|hy
    ·exact ho y hy
    ·exact h2 y hy
   ·rw[VY,qr,qs]
    omega
   ·rw[B5]
    exact h5.mono qh
  ·(try refine AH ?_)
   exact⟨fs,m,_,rfl,hd,ho,hc,hw⟩
 ·rintro L S' ⟨fs,m,a,rfl,hd,ho,hc,hw⟩
  refine⟨True.intro,?_⟩
  (repeat (first|((with_reducible refine jK (w:=.tup (spW fs)) ?_ ?_);exact zY (XY (k:=R.length) hw GL))|refine AH ?_))
  refine⟨Lf R k.p m,[.lst (spW fs)],_,n+1000 * m,qK (by simp only[W3,cY]),by rw[J0,J0],?_,hw,λS2 h2=>q fs m S2 hd ho hc h2⟩
  rw[J0]
  exact yY hr
theorem SXh {f:Nat} (ok:k.Ok) (ih:ES k f):z0 k (f+1):=by
 intro d left R n S Q hf hp hl hr h q
 have hr2:∀ m,(Lf R k.p m).all (oB ((Lf R k.p m).length+2))=true:=λm=>by
  rw[J0]
  exact yY hr
 have m1:=ok.m1
 have m4:=ok.m4
 refine pL (R:=Lf R k.p left) rfl h ?_
 have fin:∀ {s:Sp} {m:Nat} {S':Sto},s.dep<=d->(∀ y ∈ s :: s.under,y.Own k.many k.places)->s.under.length+m<=left->Dw (n+1000 * m) (Lf R k.p m) S'->∃ R' T w' n,frz 60 S' ((Lf R k.p left).length+2) s.w=some w'/\R'.length=(Lf R k.p left).length/\R'.all (oB (R'.length+2))=true/\Dw n (R'++T) S'/\∀ S2,Dw n R' S2->Q w' S2:=λ{s m S'} h1 h2 h3 h4=>⟨Lf R k.p m,[],s.w,n+1000 * m,qK (F7 (jf _) s.below0),by rw[J0,J0],hr2 m,by rw[jw];exact h4,λS2 h=>q s m S2 h1 h2 h3 h⟩
 show Ev (IU xB 3 (Z7M (Z9q f) (Z8P f)) _ _) _
 unfold Z7M
 refine pI rfl ?_
 (try refine AH ?_)
 refine aX (n:=n+1000 * left+699) (h.mono qh) (hr2 left) qg qg λv1 S1 a0 a1 h1=>?_
 (try refine AH ?_)
 refine aX (n:=n+1000 * left+698) h1 (hr2 left) qh qh λv2 S2 b0 b1 h2=>?_
 (try refine AH ?_)
 refine aX (n:=n+1000 * left+697) h2 (hr2 left) qg qg λv3 S3 c0 c1 h3=>?_
 (try refine AH ?_)
 refine IS (n:=n+1000 * left+440) (hr2 left) ok c0 c1 (h3.mono qh) λe S4 oe de h4=>?_
 (try refine AH ?_)
 refine UL (λz=>?_) (λz=>?_)
 ·have z:=of_decide_eq_true z
  (try refine AH ?_)
  refine aX (n:=n+1000 * left) (h4.mono qh) (hr2 left) qh qh λv4 S5 d0 d1 h5=>?_
  have one:∀ {s:Sp},s.under=[]->s.dep=0->s.Own k.many k.places->∃ R' T w' n,frz 60 S5 ((Lf R k.p left).length+2) s.w=some w'/\R'.length=(Lf R k.p left).length/\R'.all (oB (R'.length+2))=true/\Dw n (R'++T) S5/\∀ S2,Dw n R' S2->Q w' S2:=λ{s} u dd o=>fin (s:=s) qh (by rw[u];intro y hy;rw[qp.mp hy];exact o) (by rw[u];simp) h5
  have four:v1=0 \/ v1=1 \/ v1=2 \/ v1=3:=by omega
  rcases four with rfl|rfl|rfl|rfl
  ·(try refine AH ?_)
   exact one (s:=.put v2 e) rfl rfl ⟨⟨b0,b1⟩,oe,de⟩
  ·(try refine AH ?_)
   exact one (s:=.add v2 e) rfl rfl ⟨⟨b0,b1⟩,oe,de⟩
  ·(try refine AH ?_)
   exact one (s:=.add v2 e) rfl rfl ⟨⟨b0,b1⟩,oe,de⟩
  ·(try refine AH ?_)
   exact one (s:=.swap v2 v4) rfl rfl ⟨⟨b0,b1⟩,d0,d1⟩
 ·(try refine AH ?_)
  refine UL (λz4=>?_) (λz4=>?_)
  ·(try refine AH ?_)
   exact fin (s:=.tell e) (m:=left) (jf _) (by intro y hy;rw[qp.mp hy];exact⟨oe,de⟩) (by simp [Sp.under]) (h4.mono qh)
  ·have snd:∀ {Q':W->Sto->Prop},(∀ (to kind:Str) (late:Int) (e:Sm) S',(Sp.send to kind late e).Own k.many k.places->Dw (n+1000 * left) (Lf R k.p left) S'->Q' (Sp.send to kind late e).w S')->Ev (mN 2 Z9l [.ref 1,k.w] S4) Q':=λq'=>UP (hr2 left) ok (h4.mono qh) q'
   have fins:∀ (to kind:Str) (late:Int) (e:Sm) S',(Sp.send to kind late e).Own k.many k.places->Dw (n+1000 * left) (Lf R k.p left) S'->∃ R' T w' n,frz 60 S' ((Lf R k.p left).length+2) (Sp.send to kind late e).w=some w'/\R'.length=(Lf R k.p left).length/\R'.all (oB (R'.length+2))=true/\Dw n (R'++T) S'/\∀ S2,Dw n R' S2->Q w' S2:=λto kind late e S' o h5=>fin (s:=.send to kind late e) (m:=left) (jf _) (by intro y hy;rw[qp.mp hy];exact o) (by simp [Sp.under]) h5
   (try refine AH ?_)
   by_cases z5:v1=5
   ·refine nN (decide_eq_true z5) ?_
    (try refine AH ?_)
    refine snd λto kind late e S5 o h5=>?_
    (try refine AH ?_)
    exact fins to kind late e S5 o h5
   ·refine RD (decide_eq_false z5) ?_
    (try refine AH ?_)
    by_cases zd:d=0
    ·refine nN (decide_eq_true qh) ?_
     (try refine AH ?_)
     refine snd λto kind late e S5 o h5=>?_
     (try refine AH ?_)
     exact fins to kind late e S5 o h5
    ·refine RD (decide_eq_false qh) ?_
     obtain⟨j,rfl⟩:∃ j,d=j+1:=⟨d - 1,by omega⟩
     have ej:(((j+1:Nat):Int) - 1)=(j:Nat):=by omega
     (try refine AH ?_)
     rw[ej]
     refine ih j left R (n+100) S4 _ qh hp hl hr (h4.mono qh) λfs1 l1 S5 p1 p2 p3 p4=>?_
     (try refine AH ?_)
     rw[ej]
     refine ih j l1 R n S5 _ qh hp qh hr (p4.mono qh) λfs2 l2 S6 r1 r2 r3 r4=>?_
     (try refine AH ?_)
     have w:(Sp.ite e (.ofL fs1) (.ofL fs2)).w = .tup [.str "if",e.w,.tup (spW fs1),.tup (spW fs2)]:=by
      simp only[Sp.w,Q0]
     rw[<- w]
     refine fin (s:=.ite e (.ofL fs1) (.ofL fs2)) (m:=l2) ?_ ?_ ?_ r4
     ·have a:=GU p1
      have b:=GU r1
      simp only[Sp.dep]
      omega
     ·intro y hy
      simp only[Sp.under,I7] at hy
      rcases qo.mp hy with rfl|hy
      ·exact⟨oe,de⟩
      ·rcases ji.mp hy with hy|hy
       ·exact p2 y hy
       ·exact r2 y hy
     ·simp only[Sp.under,I7,qr]
      omega
theorem zK (ok:k.Ok):∀ f:Nat,ES k f/\z0 k f
 | 0=>⟨λd _ _ _ _ _ h=>by omega,λd _ _ _ _ _ h=>by omega⟩
 | f+1=>⟨GX ok (zK ok f).2,SXh ok (zK ok f).1⟩
end
structure uZ (k:Kt) (r:Str × Sps):Prop where
 sd:r.2.dep < 6
 sl:r.2.all.length<=40
 st:∀ s ∈ r.2.all,s.Own k.many k.places
section
variable {k:Kt}
theorem bYR {left n:Nat} {R S:Sto} {Q:W->Sto->Prop} (ok:k.Ok) (nd:k.kinds.Nodup) (hp:k.p < R.length) (hr:R.all (oB (R.length+2))=true) (h:Dw (n+30000 * k.kinds.length) (Lf R k.p left) S) (q:∀ (rs:List (Str × Sps)) (m:Nat) S',(∀ r ∈ rs,r.1 ∈ k.kinds)->(rs.map (·.1)).Nodup->rs.length<=k.kinds.length->(∀ r ∈ rs,uZ k r)->Dw n (Lf R k.p m) S'->Q (.tup (rs.map sJ)) S'):Ev (mN 2 Z9k [.ref 1,k.w] S) Q:=by
 refine pL (R:=Lf R k.p left) rfl h ?_
 unfold Z9k Z74
 refine pI rfl ?_
 have hw:=h.push (.lst [])
 have hlen:=h.len
 rw[J0] at hlen
 have hrr:∀ (m:Nat) (rs:List (Str × Sps)),(Lf R k.p m++[Ob.lst (rs.map sJ)]).all (oB ((Lf R k.p m++[Ob.lst (rs.map sJ)]).length+2))=true:=λm rs=>by
  rw[zq,oQ (n:=R.length+2) (by rw[qr,J0];omega) (yY hr)]
  simp only[ze,Qc,oB,C5 (jf _) fV,je]
 (try refine AH ?_)
 rw[hlen]
 have kn:=ok.kn
 have kl:=ok.kl
 refine fI (λys L S'=>∃ (done rest:List Str) (rs:List (Str × Sps)) (m:Nat) (a b:Option W),k.kinds=done++rest/\ys=CU rest/\L=[some (.ref 1),some k.w,some (.ref (R.length+2)),a,b]/\(∀ r ∈ rs,r.1 ∈ done)/\(rs.map (·.1)).Nodup/\rs.length<=done.length/\(∀ r ∈ rs,uZ k r)/\Dw (n+30000 * rest.length) (Lf R k.p m++[.lst (rs.map sJ)]) S') (λ_ _=>False) ?_ ?_ (λ_ _ z=>z.elim) _ _ _ ⟨[],k.kinds,[],left,_,_,rfl,rfl,rfl,(λ_ z=>nomatch z),Qb,jg _,(λ_ z=>nomatch z),hw⟩
 ·rintro y ys L S' ⟨done,rest,rs,m,a,b,ek,ey,rfl,h1,h2,h3,h4,hw⟩
  refine⟨rfl,?_⟩
  obtain⟨kind,rest,rfl⟩:∃ z r',rest=z :: r':=by
   cases rest with
   | nil=>cases ey
   | cons z r=>exact⟨z,r,rfl⟩
  cases ey
  have dl:done.length+(rest.length+1)<=20:=by
   have:=congrArg yx ek
   simp only[qr,qs] at this
   omega
  have new:kind ∉ done:=λz=>by
   rw[ek,zv] at nd
   exact nd.2.2 kind z kind qw rfl
  simp only[qs] at hw
  (try refine AH ?_)
  refine aX (n:=n+30000 * rest.length+29999) (hw.mono qh) (hrr m rs) qg qg λv1 S1 a0 a1 w1=>?_
  (try refine AH ?_)
  refine UL (λ_=>?_) (λ_=>?_)
  ·(try refine AH ?_)
   have w2:=w1
   obtain⟨l,l1,el⟩:∃ l:Nat,l<=28/\l=11:=⟨11,by decide,rfl⟩
   have w3:=w2.put k.p (.lst [.int (l:Nat)])
   rw[UYD hp] at w3
   (repeat (first|((with_reducible refine QJ (UK (w:=.int 11) w2 (vJ hp)) ?_))|refine AH ?_))
   rw[show W.int 11 = .int (l:Nat) from by rw[el];rfl]
   refine aX (n:=n+30000 * rest.length+29997) (w3.mono qh) (hrr l rs) qg qg λv3 S3 c0 c1 w4=>?_
   (try refine AH ?_)
   refine eE2 (Q':=λx S'=>∃ ls:List Sp,x = .tup (spW ls)/\ls.length<=1/\(FP ls).length<=1/\(∀ s ∈ ls,s.dep<=3)/\(∀ y ∈ FP ls,y.Own k.many k.places)/\Dw (n+30000 * rest.length+29001) (Lf R k.p l++[.lst (rs.map sJ)]) S') ?_ ?_
   ·refine UL (λ_=>?_) (λ_=>?_)
    ·(try refine AH ?_)
     refine UP (n:=n+30000 * rest.length+29001) (hrr l rs) ok (w4.mono qh) λto kind late e S5 o w5=>?_
     (try refine AH ?_)
     refine⟨[.send to kind late e],rfl,jg _,jg _,?_,?_,w5⟩
     ·intro s hs
      rw[qp.mp hs]
      exact jf _
     ·intro s hs
      rw[qp.mp (show s ∈ [Sp.send to kind late e] from hs)]
      exact o
    ·(try refine AH ?_)
     exact⟨[],rfl,jf _,jf _,(λ_ z=>nomatch z),(λ_ z=>nomatch z),w4.mono qh⟩
   rintro _ S5 ⟨ls,rfl,ll,la,ld,lo,w5⟩
   (try refine AH ?_)
   have hrn:(R++[Ob.lst (rs.map sJ)]).all (oB ((R++[Ob.lst (rs.map sJ)]).length+2))=true:=by
    rw[zq,oQ (n:=R.length+2) (by rw[qr];omega) hr]
    simp only[ze,Qc,oB,C5 (jf _) fV,je]
   have hls:oX S5 (.ref (R.length+2))=true:=yK (k:=R.length) w5 GL
   refine⟨hls,?_⟩
   (try refine AH ?_)
   refine(zK ok 10).1 3 l (R++[.lst (rs.map sJ)]) (n+30000 * rest.length) S5 _ qg (by rw[qr];omega) qh hrn ?_ λfs m' S6 p1 p2 p3 p4=>?_
   ·rw[I5 hp]
    exact w5.mono qh
   rw[I5 hp] at p4
   have al:FP (ls++fs)=FP ls++FP fs:=by
    unfold FP
    rw[List.flatMap_append]
   have lf:=LK fs
   refine fKq (by rw[GE,GE];exact jb (show _<=100 by omega) qg) ?_
   rw[<- B5]
   (try refine AH ?_)
   have rw_:sJ (kind,Sps.ofL (ls++fs)) = .tup [.str kind,.tup (spW (ls++fs))]:=by
    unfold sJ
    rw[Q0]
   refine uQ (EQ (k:=R.length) p4 GL (by rw[qq];exact jy (show _<=20 by omega) qg)) ?_
   have w7:=p4.put R.length (.lst (rs.map sJ++[.tup [.str kind,.tup (spW (ls++fs))]]))
   rw[BVv] at w7
   refine⟨done++[kind],rest,rs++[(kind,Sps.ofL (ls++fs))],m',_,_,by rw[ek];simp,rfl,rfl,?_,?_,?_,?_,?_⟩
   ·intro r hr
    rcases ji.mp hr with hr|hr
    ·exact zk _ (h1 r hr)
    ·rw[qp.mp hr]
     simp
   ·rw[zn,zv]
    refine⟨h2,by simp,λx hx y hy e=>?_⟩
    obtain⟨r,hr,rfl⟩:=jc.mp hx
    rw[qp.mp hy] at e
    have e:r.1=kind:=e
    exact new (e ▸ h1 r hr)
   ·simp only[qr,qs,jh]
    omega
   ·intro r hr
    rcases ji.mp hr with hr|hr
    ·exact h4 r hr
    ·rw[qp.mp hr]
     refine⟨jy (GU (d:=3) λs hs=>?_) qg,?_,?_⟩
     ·rcases ji.mp hs with hs|hs
      ·exact ld s hs
      ·exact p1 s hs
     ·rw[I7,al,qr]
      omega
     ·intro s hs
      rw[I7,al] at hs
      rcases ji.mp hs with hs|hs
      ·exact lo s hs
      ·exact p2 s hs
   ·rw[zn,jn,zx,rw_]
    exact w7.mono qh
  ·(try refine AH ?_)
   exact⟨done++[kind],rest,rs,m,_,_,by rw[ek];simp,rfl,rfl,(λr hr=>zk _ (h1 r hr)),h2,by rw[qr];omega,h4,w1.mono qh⟩
 ·rintro L S' ⟨done,rest,rs,m,a,b,ek,ey,rfl,h1,h2,h3,h4,hw⟩
  refine⟨rfl,?_⟩
  cases rest with
  | cons z r=>cases ey
  | nil=>
   rw[jw] at ek
   (repeat (first|((with_reducible refine jK (w:=.tup (rs.map sJ)) ?_ ?_);exact zY (XY (k:=R.length) hw GL))|refine AH ?_))
   refine⟨Lf R k.p m,[.lst (rs.map sJ)],_,n,qK (by simp only[W3,C5 (jf _) fV]),by rw[J0,J0],?_,hw,λS2 g=>q rs m S2 (λr hr=>by rw[ek];exact h1 r hr) h2 (by rw[ek];exact h3) h4 g⟩
   rw[J0]
   exact yY hr
end
def hoT (h:Ho):W:=.tup [.str h.name,.tup (DX h.cells),.tup (h.rules.map sJ)]
theorem EM (h:Ho):W3 0 (hoT h)=true:=by simp only[hoT,W3,cH,DX,JO,fV,je]
theorem RM {n:Nat} {hs:List Ho}:cH n (hs.map hoT)=true:=oA λh=>F7 (jf _) (EM h)
theorem q2H {m i j u:Nat} {many:Int} (h0:0<=many) (h1:many<=4) {R S:Sto} (hr:R.all (oB (R.length+2))=true) {L:Lo} {Q:W->Sto->Prop} (ne:u ≠ i) (hL:L[i]?.join=some (.ref 1)) (hm:L[j]?.join=some (.int many)) (h:Dw (m+12) R S) (q:∀ (cs:List Int) S',(cs.length:Int)=many->(∀ c ∈ cs,Wt c)->Dw m R S'->Q (.lst (DX cs)) S') :
  Ev (wK VR (itR1 (O9 (uV j) JN)) (fU u) dJ (fD (mN 1 Z9E) (O9 (uV i) JN)) [u] L S) Q:=by
 refine fY4 ?_
 refine dQ (mO (C6 hm (k8 ⟨many,rfl,h0,by omega,?_⟩)))
 refine lT (λys acc S'=>∃ cs:List Int,acc=DX cs/\(∀ c ∈ cs,Wt c)/\(cs.length+ys.length:Int)=many/\Dw (m+3 * ys.length) R S') ?_ ?_ _ _ _ ⟨[],rfl,by simp,?_,?_⟩
 ·rintro x xs acc S ⟨cs,rfl,hc,hl,hd⟩
  refine⟨True.intro,?_⟩
  refine fR (X9 (nN rfl ?_))
  refine N0 (mO (C6 (w:=.ref 1) ?_ (k8 ?_)))
  ·show((L.set u none).set u (some x))[i]?.join=_
   rw[jm ne,jm ne]
   exact hL
  ·refine B1 (n:=m+3 * xs.length) (hd.mono (by simp only[qs];omega)) hr λv S' v0 v1 h'=>⟨?_,cs++[v],by simp [DX],?_,?_,h'⟩
   ·simp only[DX,qq,qs] at hl ⊢
    exact jy (show cs.length<=4 by omega) qg
   ·intro c hcm
    rcases ji.mp hcm with z|z
    ·exact hc c z
    ·rw[qp.mp z]
     exact⟨v0,v1⟩
   ·simp only[qr,qs,jh] at hl ⊢
    omega
 ·rintro acc S ⟨cs,rfl,hc,hl,hd⟩
  refine⟨True.intro,?_⟩
  exact vZ (q cs S (by simpa using hl) hc (hd.mono (by simp)))
 ·rw[QU]
  show((0:Nat)+_:Int)=_
  omega
 ·rw[QU]
  exact h.mono qh
structure W3v (hs:List Ho) (kinds:List Str):Prop where
 net:UM hs
 k1:1<=kinds.length
 k9:kinds.length<=9
 kn:∀ z ∈ kinds,Nam z
def ySf (hs:List Ho) (kinds:List Str):W:=.tup [.lst (hs.map hoT),.lst (CU kinds)]
theorem B4 {many:Int} {places kinds:List Str} {p:Nat} (h:2<=kinds.length):W.dk ((qR [] ([(Sum.inr ("many" : Str),W.int many),(Sum.inr ("places" : Str),W.lst (CU places)),(Sum.inr ("kinds" : Str),W.lst (PD (CU kinds) (some 1) none)),(Sum.inr ("left" : Str),W.ref (p+2))]:List (Key × W))).map (·.1)) ((qR [] ([(Sum.inr ("many" : Str),W.int many),(Sum.inr ("places" : Str),W.lst (CU places)),(Sum.inr ("kinds" : Str),W.lst (PD (CU kinds) (some 1) none)),(Sum.inr ("left" : Str),W.ref (p+2))]:List (Key × W))).map (·.2))=Kt.w ⟨many,places,kinds.drop 1,p⟩:=by
 have e:qR [] ([(Sum.inr ("many" : Str),W.int many),(Sum.inr ("places" : Str),W.lst (CU places)),(Sum.inr ("kinds" : Str),W.lst (PD (CU kinds) (some 1) none)),(Sum.inr ("left" : Str),W.ref (p+2))]:List (Key × W))=([(Sum.inr ("many" : Str),W.int many),(Sum.inr ("places" : Str),W.lst (CU places)),(Sum.inr ("kinds" : Str),W.lst (PD (CU kinds) (some 1) none)),(Sum.inr ("left" : Str),W.ref (p+2))]:List (Key × W)):=by
  unfold qR
  have:=QC (f:=λkv:Key × W=>kv) (xs:=([(Sum.inr ("many" : Str),W.int many),(Sum.inr ("places" : Str),W.lst (CU places)),(Sum.inr ("kinds" : Str),W.lst (PD (CU kinds) (some 1) none)),(Sum.inr ("left" : Str),W.ref (p+2))]:List (Key × W))) (acc:=[]) (show([Sum.inr "many",Sum.inr "places",Sum.inr "kinds",Sum.inr "left"]:List Key).Nodup by decide +kernel) (λ_ _ m=>nomatch m)
  rw[jv,List.map_id'] at this
  exact this
 have c:PD (CU kinds) (some 1) none=CU (kinds.drop 1):=by
  rw[show(some (1:Int))=some ((1:Nat):Int) from rfl,WS (by rw[xM];omega)]
  unfold CU
  rw[List.map_drop]
 rw[e,c]
 rfl
theorem xH {k n:Nat} {S:Sto} {ws:List W} (h:cH 0 ws=true):LD (frz k S n) ws=some ws:=oW λx hx=>qK (F7 (jf _) (SB h x hx))
theorem gGq {k n:Nat} {S:Sto} {ws ws':List W} (hb:W3 n (.tup ws)=false) (h:LD (frz k S n) ws=some ws'):frz (k+1) S n (.tup ws)=some (.tup ws'):=by
 unfold frz
 rw[if_neg (by rw[hb];decide)]
 show(LD (frz k S n) ws).map W.tup=_
 rw[h]
 rfl
theorem yV {k n m:Nat} {S:Sto} {xs:List W} (h:S[m]? = some (.lst xs)) (le:n<=m) (hb:cH 0 xs=true):frz (k+1) S n (.ref m)=some (.lst xs):=by
 unfold frz
 rw[if_neg (by simp only[W3,decide_eq_true_eq];omega)]
 simp only[h,xH hb]
 rfl
theorem K4 {hs:List Ho} {S:Sto} {Q:W->Sto->Prop} (net:UM hs) (q:Q (O1 hs) S):Ev (H0 1 Z9u [.lst (hs.map hoT)] S) Q:=by
 have n6:=net.n6
 refine D8 rfl (by simp only[cH,W3,RM,je]) ?_
 unfold Z9u Z8t
 refine pI rfl ?_
 (try refine AH ?_)
 refine pY hoT Ho.w (by rfl) _ _ (by simp only[jh];exact jb (show _<=6 by omega) qg) ?_ ?_
 ·intro h hh R r
  unfold hoT
  (try refine AH ?_)
  refine MD rfl (by simp only[W3,DX,JO]) (by simp only[W3,fV]) ?_
  exact r
 rw[jv]
 (try refine AH ?_)
 refine oO net ?_
 (try refine AH ?_)
 exact⟨_,qK yT,q⟩
theorem dE {S T:Sto} {o:Ob}:(S++o :: T)[S.length]? = some o:=by
 rw[zm (jg _),Nat.sub_self]
 rfl
theorem AQ {S T:Sto} {o o1:Ob}:(S++o :: o1 :: T)[S.length+1]? = some o1:=by
 rw[zm qh,show S.length+1 - S.length=1 from by omega]
 rfl
theorem PM {S T:Sto} {o o1 o2:Ob}:(S++o :: o1 :: o2 :: T)[S.length+2]? = some o2:=by
 rw[zm qh,show S.length+2 - S.length=2 from by omega]
 rfl
theorem MO {S T:Sto} {o o1 o2 o3:Ob}:(S++o :: o1 :: o2 :: o3 :: T)[S.length+3]? = some o3:=by
 rw[zm qh,show S.length+3 - S.length=3 from by omega]
 rfl
theorem ZK {S T:Sto} {o o':Ob}:(S++o :: T).set S.length o'=S++o' :: T:=by
 rw[List.set_append,if_neg (Nat.lt_irrefl _),Nat.sub_self]
 rfl
theorem PX {S T U:Sto}:S++T++U=S++(T++U):=ye _ _ _
theorem vD {R:Sto} (hR:R.all (oB (R.length+2))=true) {n:Nat} {many:Int} {S:Sto} {Q:W->Sto->Prop} (m0:0<=many) (m1:many<=20) (h:Dw (n+9 * many.toNat) R S) (q:∀ (fs:List Str) S',(fs.length:Int)=many->(∀ z ∈ fs,Nam z)->fs.Nodup->Dw n (R++[.lst (CU fs)]) S'->Q (.ref (R.length+2)) S'):Ev (Z9x [.ref 1,.int many] S) Q:=by
 unfold Z9x Z8F
 refine pI rfl ?_
 (try refine AH ?_)
 have h0:=h.push (.lst [])
 rw[h.len]
 refine fI (λys L S'=>∃ fs a b c d e,L=[some (.ref 1),some (.int many),some (.str n5),some (.ref (R.length+2)),a,b,c,d,e]/\(fs.length+ys.length:Int)=many/\(∀ z ∈ fs,Nam z)/\fs.Nodup/\Dw (n+9 * ys.length) (R++[.lst (CU fs)]) S') (λ_ _=>False) ?_ ?_ (λ_ _ z=>z.elim) _ _ _ ⟨[],_,_,_,_,_,rfl,?_,(λ_ z=>nomatch z),Qb,?_⟩
 ·rintro x xs L S ⟨fs,a,b,c,d,e,rfl,hl,hn,hd,hw⟩
  refine⟨True.intro,?_⟩
  simp only[qs] at hl hw
  have hr:(R++[Ob.lst (CU fs)]).all (oB ((R++[Ob.lst (CU fs)]).length+2))=true:=by
   rw[zq,oQ (n:=R.length+2) (by rw[qr];omega) hR]
   simp only[ze,Qc,oB,UA,je]
  (try refine AH ?_)
  refine vI (a:=n5) (b := " ") qf ?_
  (try refine AH ?_)
  refine jC (n:=n+9 * xs.length+8) (hw.mono qh) hr qf qf ?_ λy S1 hy h1=>?_
  ·intro y hy
   obtain⟨z,_,rfl⟩:=jc.mp hy
   rfl
  obtain⟨z,hz,rfl⟩:=jc.mp hy
  have hz:=FT z hz
  (try refine AH ?_)
  refine aX (n:=n+9 * xs.length+7) h1 hr qg qg λv2 S2 b0 b1 h2=>?_
  (try refine AH ?_)
  refine eE2 (Q':=λ(o:Oc) S'=>∃ z b c d,o=Oc.nx [some (.ref 1),some (.int many),some (.str n5),some (.ref (R.length+2)),some x,some (.str z),b,c,d]/\Nam z/\Dw (n+9 * xs.length) (R++[.lst (CU fs)]) S') ?_ ?_
  ·refine UL (λ_=>?_) (λ_=>?_)
   ·(try refine AH ?_)
    refine aX (n:=n+9 * xs.length+6) h2 hr qg qg λv3 S3 d0 d1 h3=>?_
    (try refine AH ?_)
    refine fI (λys L S'=>∃ z b c d,L=[some (.ref 1),some (.int many),some (.str n5),some (.ref (R.length+2)),some x,some (.str z),b,c,d]/\(z.length+ys.length:Int)=1+v3/\(∀ c ∈ z.cps.toList,c ∈ abc.cps.toList)/\Dw (n+9 * xs.length+ys.length) (R++[.lst (CU fs)]) S') (λ_ _=>False) ?_ ?_ (λ_ _ z=>z.elim) _ _ _ ⟨_,_,_,_,rfl,?_,(λ_ z=>nomatch z),?_⟩
    ·rintro x ys L S ⟨z,b,c,d,rfl,hl,hz,hw⟩
     refine⟨True.intro,?_⟩
     simp only[qs] at hl hw
     (try refine AH ?_)
     refine S3D (n:=n+9 * xs.length+ys.length) (hw.mono qh) hr λc S4 hc h4=>?_
     have ls:(sgn c).length=1:=rfl
     refine uA (by rw[ls];exact jb (show z.length+1<=10 by omega) qg) ?_
     (try refine AH ?_)
     refine⟨_,_,_,_,rfl,by rw[YX,ls];omega,?_,h4⟩
     intro k hk
     rw[SX] at hk
     rcases ji.mp hk with hk|hk
     ·exact hz k hk
     ·have:k=c:=by simpa [sgn] using hk
      exact this ▸ hc
    ·rintro L S ⟨z,b,c,d,rfl,hl,hz,hw⟩
     refine⟨True.intro,⟨_,_,_,_,rfl,⟨?_,?_,hz⟩,hw⟩⟩
     ·simp only[jh] at hl
      omega
     ·simp only[jh] at hl
      omega
    ·rw[QU]
     show((0:Nat)+_:Int)=_
     omega
    ·rw[QU]
     exact h3.mono qh
   ·(try refine AH ?_)
    exact⟨_,_,_,_,rfl,hz,h2.mono qh⟩
  rintro _ S3 ⟨z,b',c',d',rfl,hz,h3⟩
  (try refine AH ?_)
  refine rL (λw=>match w with | .str s=>.str (cutS z none (some 5)++s)|w=>w) True.intro (by rw[qq];decide +kernel) ?_ ?_
  ·intro y hy R r
   obtain⟨k,hk,rfl⟩:=jc.mp hy
   (try refine AH ?_)
   refine⟨.str (cutS z none (some 5)),if_pos (jb hz.2.1 qg),?_⟩
   (try refine AH ?_)
   refine uA ?_ r
   have:=cutS_length z none (some 5)
   have:=hz.2.1
   exact jb (show(cutS z none (some 5)).length+1<=10 by omega) qg
  refine Z7 (Y:=CU (abc.cps.toList.map λc=>cutS z none (some 5)++sgn c)) ?_ ?_
  ·unfold CU
   rw[zf,zf]
   rfl
  (try refine AH ?_)
  refine⟨?_,?_⟩
  ·have e2:fA S3 (.ref (R.length+2))=some (CU fs):=XY h3 dE
   exact congrArg Option.isSome e2
  have e1:[W.str z]++CU (abc.cps.toList.map λc=>cutS z none (some 5)++sgn c)=CU (CF z):=rfl
  obtain⟨sp,hsp⟩:∃ sp,sp=CF z:=⟨_,rfl⟩
  rw[e1,<- hsp]
  (try refine AH ?_)
  refine lT (λys acc S'=>S'=S3/\∃ us vs,sp=us++vs/\ys=CU vs/\acc=CU (us.filter λy=>decide (y ∉ fs))) ?_ ?_ _ _ _ ⟨rfl,[],sp,rfl,rfl,rfl⟩
  ·rintro y ys acc S ⟨rfl,us,vs,e3,e4,rfl⟩
   refine⟨rfl,?_⟩
   obtain⟨v,vs,rfl⟩:∃ v vs',vs=v :: vs':=by
    cases vs with
    | nil=>cases e4
    | cons v vs=>exact⟨v,vs,rfl⟩
   cases e4
   (try refine AH ?_)
   have e5:∀ Q:W->Sto->Prop,Q (.bl (!decide (v ∈ fs))) S->Ev (opS (λS x y=>Qf (λb=>W.bl !b) (inW S x y)) (W.str v) (W.ref (R.length+2)) S) Q:=λQ q=>G6 (by rw[W8 (xP (XY h3 dE)) (by simp)];rfl) q
   refine e5 _ ?_
   (try refine AH ?_)
   have e6:sp=(us++[v])++vs:=by rw[e3];simp
   by_cases m:v ∈ fs
   ·refine RD (by simp [m]) ?_
    refine⟨rfl,us++[v],vs,e6,rfl,?_⟩
    rw[List.filter_append]
    simp [m]
   ·refine nN (by simp [m]) ?_
    (try refine AH ?_)
    refine⟨?_,rfl,us++[v],vs,e6,rfl,?_⟩
    ·have l1:(us.filter λy=>decide (y ∉ fs)).length<=us.length:=List.length_filter_le _ _
     have l2:sp.length=27:=by
      rw[hsp]
      unfold CF
      rw[qs,qq]
      decide +kernel
     rw[e6] at l2
     simp only[qr,qs,jh] at l2
     unfold CU
     rw[qq]
     exact jy (show _<=30 by omega) qg
    ·rw[List.filter_append]
     simp [m,CU]
  ·rintro acc S ⟨rfl,us,vs,e3,e4,rfl⟩
   refine⟨rfl,?_⟩
   have e5:vs=[]:=by
    cases vs with
    | nil=>rfl
    | cons v vs=>cases e4
   subst e5
   rw[jw] at e3
   subst e3
   obtain⟨p,r,e6,np,nm⟩:=IN (fs:=fs) hz qh
   rw[hsp,e6]
   (try refine AH ?_)
   refine zB (w:=.str p) (XZ (xs:=CU r)) ?_
   (try refine AH ?_)
   refine uQ (EQ (k:=R.length) (xs:=CU fs) h3 dE (by unfold CU;rw[qq];exact jy (show _<=20 by omega) qg)) ?_
   refine⟨fs++[p],_,_,_,_,_,rfl,?_,?_,?_,?_⟩
   ·simp only[qr,qs,jh]
    omega
   ·intro y hy
    rcases ji.mp hy with hy|hy
    ·exact hn y hy
    ·rw[qp.mp hy]
     exact np
   ·rw[zv]
    exact⟨hd,by simp,λa ha b hb e=>nm (by rw[<- qp.mp hb,<- e];exact ha)⟩
   ·have:=h3.put R.length (.lst (CU fs++[W.str p]))
    rw[ZK] at this
    rw[show CU fs++[W.str p]=CU (fs++[p]) from by simp [CU]] at this ⊢
    exact this
 ·rintro L S ⟨fs,a,b,c,d,e,rfl,hl,hn,hd,hw⟩
  refine⟨True.intro,?_⟩
  (try refine AH ?_)
  exact q fs S (by simpa using hl) hn hd hw
 ·rw[QU]
  show((0:Nat)+_:Int)=_
  omega
 ·rw[QU]
  exact h0.mono qh
theorem u7 {R:Sto} (hR:R.all (oB (R.length+2))=true) {n:Nat} {many:Int} {S:Sto} {Q:W->Sto->Prop} (m0:0<=many) (m1:many<=20) (h:Dw (n+9 * many.toNat) R S) (q:∀ (fs:List Str) S',(fs.length:Int)=many->(∀ z ∈ fs,Nam z)->fs.Nodup->Dw n R S'->Q (.lst (CU fs)) S'):Ev (mN 2 Z9x [.ref 1,.int many] S) Q:=
 U2p rfl h (vD hR m0 m1 h λfs S' hl hn hd h'=>⟨R,_,.lst (CU fs),AOl (k:=R.length) h' dE (UA fs) (jg _),rfl,hR,h',λS2 h2=>q fs S2 hl hn hd h2⟩)
theorem SWJ {R:Sto} (hR:R.all (oB (R.length+2))=true) {n:Nat} {most:Int} {S:Sto} {Q:W->Sto->Prop} (m1:1<=most) (m6:most<=6) (h:Dw (n+1000000) R S) (q:∀ (hs:List Ho) (kinds:List Str) S',W3v hs kinds->Dw n R S'->Q (ySf hs kinds) S'):Ev (mN 2 Z8H [.ref 1,.int most] S) Q:=by
 refine pL (R:=R) rfl h ?_
 unfold Z8H Z59
 refine pI rfl ?_
 (try refine AH ?_)
 refine aX (n:=n+999999) h hR qh qh λv1 S1 a0 a1 h1=>?_
 (try refine AH ?_)
 refine u7 hR (n:=n+999000) qh qh (h1.mono qh) λplaces S2 l2 nam2 nd2 h2=>?_
 (try refine AH ?_)
 refine aX (n:=n+998999) h2 hR qg qg λv3 S3 b0 b1 h3=>?_
 (try refine AH ?_)
 refine u7 hR (n:=n+998000) qh qh (h3.mono qh) λkinds S4 l4 nam4 nd4 h4=>?_
 (try refine AH ?_)
 have h5:=h4.push (.lst [])
 rw[h4.len]
 refine fI (λys L S'=>∃ (hs:List Ho) (rest:List Str) (G:Sto) (a b c d:Option W),places=hs.map Ho.name++rest/\ys=CU rest/\L=[some (.ref 1),some (.int most),some (.lst (CU places)),some (.lst (CU kinds)),some (.ref (R.length+2)),a,b,c,d]/\(∀ h ∈ hs,h.Ok places)/\G.all (oB 0)=true/\Dw (n+150000 * rest.length) (R ++ .lst (hs.map hoT) :: G) S') (λ_ _=>False) ?_ ?_ (λ_ _ z=>z.elim) _ _ _ ⟨[],places,[],_,_,_,_,rfl,rfl,rfl,(λ_ z=>nomatch z),rfl,h5.mono qh⟩
 ·rintro y ys L S ⟨hs,rest,G,a,b,c,d,ep,ey,rfl,okx,hg,hw⟩
  refine⟨rfl,?_⟩
  obtain⟨name,rest,rfl⟩:∃ z r',rest=z :: r':=by
   cases rest with
   | nil=>cases ey
   | cons z r=>exact⟨z,r,rfl⟩
  cases ey
  have lx:hs.length<=5:=by
   have:=congrArg yx ep
   simp only[qr,qq,qs] at this
   omega
  have nm:name ∈ places:=by rw[ep];simp
  simp only[qs] at hw
  have hr:(R++Ob.lst (hs.map hoT) :: G).all (oB ((R++Ob.lst (hs.map hoT) :: G).length+2))=true:=by
   rw[zq,oQ (n:=R.length+2) (by rw[qr];omega) hR,ze,oQ (jf _) hg]
   simp only[oB,RM,je]
  (try refine AH ?_)
  refine aX (n:=n+150000 * rest.length+149999) (hw.mono qh) hr qg qg λv5 S5 c0 c1 h6=>?_
  (try refine AH ?_)
  have h7:=h6.push (.lst [.int 0])
  have kl:2<=kinds.length/\kinds.length<=5:=by omega
  rw[show S5.length=(R++Ob.lst (hs.map hoT) :: G).length+2 from h6.len,B4 kl.1]
  obtain⟨kt,hkt⟩:∃ kt:Kt,kt=⟨1+v5,places,kinds.drop 1,(R++Ob.lst (hs.map hoT) :: G).length⟩:=⟨_,rfl⟩
  rw[<- hkt]
  have ok:kt.Ok:=by
   rw[hkt]
   exact⟨by show(1:Int)<=1+v5;omega,by show 1+v5<=(4:Int);omega,⟨by show 0 < places.length;omega,by show places.length<=20;omega⟩,⟨by simp only[yh];omega,by simp only[yh];omega⟩,λz hz=>nam4 z (List.mem_of_mem_drop hz)⟩
  have ndk:kt.kinds.Nodup:=by
   rw[hkt]
   exact nd4.sublist (List.drop_sublist 1 kinds)
  have hpk:kt.p=(R++Ob.lst (hs.map hoT) :: G).length:=by rw[hkt]
  have hrk:((R++Ob.lst (hs.map hoT) :: G)++[Ob.lst [.int 0]]).all (oB (((R++Ob.lst (hs.map hoT) :: G)++[Ob.lst [.int 0]]).length+2))=true:=by
   rw[zq,oQ (n:=(R++Ob.lst (hs.map hoT) :: G).length+2) (by have:=qr (as:=R++Ob.lst (hs.map hoT) :: G) (bs:=[Ob.lst [.int 0]]);omega) hr]
   rfl
  have lfm:∀ m:Nat,Lf ((R++Ob.lst (hs.map hoT) :: G)++[Ob.lst [.int 0]]) kt.p m=(R++Ob.lst (hs.map hoT) :: G)++[Ob.lst [.int (m:Nat)]]:=λm=>by
   unfold Lf
   rw[hpk,ZK]
  refine⟨yK (k:=R.length) h7 (by rw[PX];exact dE),?_⟩
  (repeat (first|with_reducible refine q2H (m:=n+150000 * rest.length+149980) (many:=1+v5) qh qh hrk qg ?_ ?_ ?_ ?_|refine uT ?_))
  ·rfl
  ·rfl
  ·exact h7.mono qh
  intro cs S7 cl cw h8
  (try refine AH ?_)
  have lk5:kt.kinds.length<=4:=by rw[hkt];simp only[yh];omega
  refine bYR (n:=n+150000 * rest.length) (left:=0) ok ndk (R:=(R++Ob.lst (hs.map hoT) :: G)++[Ob.lst [.int 0]]) (by rw[hpk];simp) hrk (by rw[lfm];exact h8.mono qh) λrs m S9 r1 r2 r3 r4 h9=>?_
  rw[lfm] at h9
  (try refine AH ?_)
  refine uQ (EQ (k:=R.length) (xs:=hs.map hoT) h9 (by rw[PX];exact dE) (by rw[qq];exact jy lx qg)) ?_
  have h10:=h9.put R.length (.lst (hs.map hoT++[hoT ⟨name,cs,rs⟩]))
  rw[PX,zh,ZK] at h10
  refine⟨hs++[⟨name,cs,rs⟩],rest,G++[.lst [.int (m:Nat)]],_,_,_,_,by rw[ep];simp,rfl,rfl,?_,?_,?_⟩
  ·intro x hx
   rcases ji.mp hx with hx|hx
   ·exact okx x hx
   ·rw[qp.mp hx]
    have em:kt.many=(cs.length:Int):=by rw[cl,hkt]
    have epl:kt.places=places:=by rw[hkt]
    refine⟨nam2 name nm,by show 1<=cs.length;omega,by show cs.length<=4;omega,cw,by show rs.length<=8;omega,λr hr=>ok.kn _ (r1 r hr),r2,λr hr=>(r4 r hr).sd,λr hr=>(r4 r hr).sl,λr hr s hs'=>?_⟩
    have:=(r4 r hr).st s hs'
    rw[em,epl] at this
    exact this
  ·rw[zq,hg]
   rfl
  ·rw[zn]
   exact h10
 ·rintro L S ⟨hs,rest,G,a,b,c,d,ep,ey,rfl,okx,hg,hw⟩
  refine⟨rfl,?_⟩
  cases rest with
  | cons z r=>cases ey
  | nil=>
   rw[jw] at ep
   subst ep
   rw[qq] at l2
   (try refine AH ?_)
   have fz:frz 60 S (R.length+2) (.tup [.ref (R.length+2),.lst (CU kinds)])=some (ySf hs kinds):=by
    refine gGq (by simp [W3,cH]) ?_
    have f1:frz 59 S (R.length+2) (.ref (R.length+2))=some (.lst (hs.map hoT)):=yV (by have:=hw.get R.length;rw[dE] at this;exact this) (jg _) RM
    have f2:frz 59 S (R.length+2) (.lst (CU kinds))=some (.lst (CU kinds)):=qK (by simp only[W3,UA])
    simp only[LD,f1,f2]
   refine⟨R,.lst (hs.map hoT) :: G,_,n,fz,rfl,hR,hw.mono qh,λS2 g=>q hs kinds S2 ⟨⟨by omega,by omega,nd2,okx⟩,by omega,by omega,nam4⟩ g⟩
theorem HU {hs:List Ho} (nd:(hs.map Ho.name).Nodup) {i j:Nat} (hi:i < hs.length) (hj:j < hs.length) (e:hs[i].name=hs[j].name):i=j:=by
 have hi':i < (hs.map Ho.name).length:=by rw[qq];exact hi
 have hj':j < (hs.map Ho.name).length:=by rw[qq];exact hj
 have e':(hs.map Ho.name)[i]=(hs.map Ho.name)[j]:=by
  rw[List.getElem_map,List.getElem_map]
  exact e
 rcases Nat.lt_trichotomy i j with h|h|h
 ·exact absurd e' (List.pairwise_iff_getElem.mp nd i j hi' hj' h)
 ·exact h
 ·exact absurd e'.symm (List.pairwise_iff_getElem.mp nd j i hj' hi' h)
def Lt8.nt (x:Lt8):Nt:=⟨x.time,x.number,x.to,x.kind,x.sender,x.sent,x.place,x.turn⟩
structure Lg (hs:List Ho) (x:Lt8):Prop where
 v:Wt x.number
 to:x.to ∈ hs.map Ho.name
 kind:Nam x.kind
 t0:1<=x.time
 t1:x.time<=1100
 own:x.sender = "" \/ Nam x.sender
 l:0<=x.sent/\x.sent<=1100
 m:0<=x.place/\x.place<=10000
 n:0<=x.turn/\x.turn<=10000
 st:x.sent < x.time
def Sg (hs:List Ho) (t:Int) (w:W):Prop:=∃ y:Lt8,w=y.w/\Lg hs y/\t < y.time
section
variable {hs:List Ho} {x:Lt8} {spot:Int} {m:Nat}
mutual
theorem Sp.run_sg (lg:Lg hs x) (nm:Nam x.to) (t:x.time<=1000) (s0:0<=spot) (s1:spot<=10000):∀ (s:Sp) (d:Ds),s.Own m (hs.map Ho.name)->(∀ y ∈ s.under,y.Own m (hs.map Ho.name))->d.sends.length+(1+s.under.length)<=2000->Cel m d.cells->(∀ w ∈ d.sends,Sg hs x.time w)->∀ w ∈ (s.run x.nt spot d).sends,Sg hs x.time w
 | .put _ _,d,_,_,_,_,h=>h
 | .add _ _,d,_,_,_,_,h=>h
 | .swap _ _,d,_,_,_,_,h=>h
 | .tell _,d,_,_,_,_,h=>h
 | .send to kind late e,d,o,u,l,c,h=>λw hw=>by
  rcases ji.mp hw with hw|hw
  ·exact h w hw
  ·rw[qp.mp hw]
   have l1:=o.1.2.2.1
   have l2:=o.1.2.2.2
   have t0:=lg.t0
   have vv:Wt (e.val d.cells x.time x.number):=c.val lg.v o.2.1
   exact⟨⟨x.time+late,to,kind,e.val d.cells x.time x.number,x.to,x.time,spot,(d.sends.length:Nat)⟩,rfl,⟨vv,o.1.1,o.1.2.1,by show 1<=x.time+late;omega,by show x.time+late<=1100;omega,.inr nm,⟨by show 0<=x.time;omega,by show x.time<=1100;omega⟩,⟨s0,s1⟩,⟨by show(0:Int)<=(d.sends.length:Nat);omega,by show((d.sends.length:Nat):Int)<=10000;omega⟩,by show x.time < x.time+late;omega⟩,by show x.time < x.time+late;omega⟩
 | .ite e a b,d,o,u,l,c,h=>by
  simp only[Sp.under,ji,qr] at u l
  simp only[Sp.run]
  split
  ·exact a.run_sg lg nm t s0 s1 d (λy hy=>u y (.inl hy)) qh c h
  ·exact b.run_sg lg nm t s0 s1 d (λy hy=>u y (.inr hy)) qh c h
theorem Sps.run_sg (lg:Lg hs x) (nm:Nam x.to) (t:x.time<=1000) (s0:0<=spot) (s1:spot<=10000):∀ (s:Sps) (d:Ds),(∀ y ∈ s.all,y.Own m (hs.map Ho.name))->d.sends.length+s.all.length<=2000->Cel m d.cells->(∀ w ∈ d.sends,Sg hs x.time w)->∀ w ∈ (s.run x.nt spot d).sends,Sg hs x.time w
 | .nil,d,_,_,_,h=>h
 | .cons s r,d,o,l,c,h=>by
  simp only[Sps.all,qo,ji,qs,qr] at o l
  have hl:=s.run_len (x:=x.nt) (spot:=spot) d
  have hc:Cel m (s.run x.nt spot d).cells:=s.run_cl (x:=x.nt) lg.v d (o s (.inl rfl)) (λy hy=>o y (.inr (.inl hy))) c
  exact r.run_sg lg nm t s0 s1 _ (λy hy=>o y (.inr (.inr hy))) qh hc (s.run_sg lg nm t s0 s1 d (o s (.inl rfl)) (λy hy=>o y (.inr (.inl hy))) qh c h)
end
end
structure Out (hs:List Ho) (x:Lt8) (m:Nat) (d:Ds):Prop where
 cl:Cel m d.cells
 sg:∀ w ∈ d.sends,Sg hs x.time w
 tl:∀ c ∈ d.tells,Wt c
 ls:d.sends.length<=40
 lt:d.tells.length<=40
theorem xV {hs:List Ho} (net:UM hs) {z:Str} (h:z ∈ hs.map Ho.name):Nam z:=by
 obtain⟨ho,hh,rfl⟩:=jc.mp h
 exact(net.ok ho hh).nam
theorem mY {hs:List Ho} {x:Lt8} {cs:List Int} {spot:Int} {m:Nat} (net:UM hs) (lg:Lg hs x) (t:x.time<=1000) (s0:0<=spot) (s1:spot<=10000) (cl:Cel m cs) (hm:∀ h ∈ hs,h.name=x.to->h.cells.length=m):Out hs x m (ZQ hs x.nt cs spot):=by
 have nm:=xV net lg.to
 unfold ZQ
 have f0:(⟨cs,[],[]⟩:Ds).Fine m:=⟨cl,(λ_ z=>nomatch z),(λ_ z=>nomatch z)⟩
 have fine:x.nt.Fine spot (hs.map Ho.name):=⟨lg.v,nm,yf qg lg.t0,yf lg.t1 qg,s0,s1,λz hz=>xV net hz⟩
 rcases zO (hs:=hs) (to:=x.to) (kind:=x.kind) with e|⟨h,hh,ht,r,hr,_,e⟩
 ·rw[show NH hs x.nt.to x.nt.kind=_ from e]
  exact⟨cl,(λ_ z=>nomatch z),(λ_ z=>nomatch z),jf _,jf _⟩
 ·rw[show NH hs x.nt.to x.nt.kind=_ from e]
  have ok:=net.ok h hh
  have sl:=ok.sl r hr
  have st:=ok.st r hr
  rw[hm h hh ht] at st
  have l:=r.2.run_len (x:=x.nt) (spot:=spot) ⟨cs,[],[]⟩
  simp only[jh] at l
  have fin:=r.2.run_fine fine _ st (by simp only[jh];omega) f0
  exact⟨fin.cl,r.2.run_sg lg nm t s0 s1 _ st (by simp only[jh];omega) cl (λ_ z=>nomatch z),fin.tld,by omega,by omega⟩
theorem HE (ls:List Lt8):(srt ls).Perm ls:=(vO _ ls rfl).1
theorem RR (ls:List Lt8):(srt ls).length=ls.length:=(HE ls).length_eq
theorem WB (ls:List Lt8):srt (srt ls)=srt ls:=
 List.Perm.eq_of_pairwise (le:=λa b=>leL a b=true) (λa b _ _ h1 h2=>ELV h1 h2) (vO _ (srt ls) rfl).2 (vO _ ls rfl).2 (HE _)
theorem IW {x y:Lt8} (h:leL x y=true):x.time<=y.time:=by
 by_cases e:y.time=x.time
 ·omega
 ·have:ltL y x=PySem.W.dataLt (.int y.time) (.int x.time):=by rw[pMw,n3U e]
  have h2:ltL y x=false:=by simpa [leL] using h
  rw[h2] at this
  have d:PySem.W.dataLt (.int y.time) (.int x.time)=decide (y.time < x.time):=PySem.W.dataLt_int _ _
  rw[d] at this
  have:=of_decide_eq_false this.symm
  omega
theorem kD {ls:List Lt8} {x:Lt8} {xs:List Lt8} (e:srt ls=x :: xs):∀ y ∈ xs,x.time<=y.time:=by
 have h:=(vO _ ls rfl).2
 rw[e] at h
 exact λy hy=>IW ((List.pairwise_cons.mp h).1 y hy)
structure Rn where
 left:List Lt8
 held:Str->List Int
 past:List (Lt8 × List Int)
def uJ (past:List (Lt8 × List Int)) (x:Lt8):Nat:=(past.filter λp=>decide (p.1.time=x.time/\p.1.to=x.to)).length
def xL (w:W):Lt8:=(TV w).getD ⟨0, "", "",0, "",0,0,0⟩
theorem BZ (y:Lt8):xL y.w=y:=rfl
def Rn.out (hs:List Ho) (r:Rn) (x:Lt8):Ds:=ZQ hs x.nt (r.held x.to) (uJ r.past x:Nat)
def Rn.did (hs:List Ho) (r:Rn) (x:Lt8) (xs:List Lt8):Rn:=⟨srt (xs++(r.out hs x).sends.map xL),λz=>if z=x.to then(r.out hs x).cells else r.held z,r.past++[(x,(r.out hs x).tells)]⟩
def Rn.due (stop:Int) (r:Rn):Bool:=match r.left with
 | []=>false
 | x :: _=>decide (x.time<=stop)
def Rn.step (hs:List Ho) (stop:Int) (r:Rn):Rn:=match r.left with
 | []=>r
 | x :: xs=>if x.time<=stop then r.did hs x xs else r
def Rn.go (hs:List Ho) (stop:Int):Nat->Rn->Rn
 | 0,r=>r
 | n+1,r=>(Rn.go hs stop n r).step hs stop
structure Rn.Ok (hs:List Ho) (r:Rn):Prop where
 lg:∀ x ∈ r.left,Lg hs x
 so:srt r.left=r.left
 pl:∀ p ∈ r.past,Lg hs p.1/\p.1.time<=1000/\(∀ c ∈ p.2,Wt c)/\p.2.length<=40
 ln:r.left.length<=20+40 * r.past.length
 cl:∀ h ∈ hs,Cel h.cells.length (r.held h.name)
section
variable {hs:List Ho} {r:Rn} {stop:Int} {x:Lt8} {xs:List Lt8} {n:Nat}
theorem Rn.step_not (h:r.due stop=false):r.step hs stop=r:=by
 unfold Rn.step
 unfold Rn.due at h
 split
 ·rfl
 ·rename_i y ys e
  rw[e] at h
  rw[if_neg (of_decide_eq_false h)]
theorem Rn.step_due (e:r.left=x :: xs) (h:x.time<=stop):r.step hs stop=r.did hs x xs:=by
 unfold Rn.step
 rw[e]
 show(if x.time<=stop then _ else _)=_
 rw[if_pos h]
theorem Rn.due_is (h:r.due stop=true):∃ x xs,r.left=x :: xs/\x.time<=stop:=by
 unfold Rn.due at h
 split at h
 ·cases h
 ·rename_i y ys e
  exact⟨y,ys,e,of_decide_eq_true h⟩
theorem Rn.go_more {k n:Nat} (h:(r.go hs stop k).due stop=false) (le:k<=n):r.go hs stop n=r.go hs stop k:=by
 induction le with
 | refl=>rfl
 | step _ ih=>
  show(r.go hs stop _).step hs stop=_
  rw[ih,Rn.step_not h]
theorem Rn.did_past:(r.did hs x xs).past.length=r.past.length+1:=by
 unfold Rn.did
 rw[qr]
 rfl
theorem Rn.step_past:(r.step hs stop).past.length=r.past.length+(if r.due stop=true then 1 else 0):=by
 by_cases h:r.due stop=true
 ·obtain⟨x,xs,e,t⟩:=Rn.due_is h
  rw[Rn.step_due e t,Rn.did_past,if_pos h]
 ·rw[Rn.step_not (by simpa using h),if_neg h]
  rfl
theorem Rn.go_past:∀ n,(r.go hs stop n).past.length<=r.past.length+n
 | 0=>jg _
 | n+1=>by
  have:=Rn.go_past n
  have h2:(r.go hs stop (n+1)).past.length=_:=Rn.step_past
  rw[h2]
  split <;> omega
theorem EUO {past:List (Lt8 × List Int)}:uJ past x<=past.length:=List.length_filter_le _ _
theorem Rn.Ok.at (net:UM hs) (ok:r.Ok hs) (lg:Lg hs x):At hs x.nt (r.held x.to):=⟨net,lg.v,λh hh e=>by
 have e:h.name=x.to:=e
 rw[<- e]
 exact ok.cl h hh⟩
theorem Rn.Ok.out (net:UM hs) (ok:r.Ok hs) (lg:Lg hs x) (t:x.time<=1000) (few:r.past.length<=400):∃ m,Cel m (r.held x.to)/\Out hs x m (r.out hs x)/\∀ h ∈ hs,h.name=x.to->h.cells.length=m:=by
 obtain⟨h,hh,e⟩:=jc.mp lg.to
 have hm:∀ h' ∈ hs,h'.name=x.to->h'.cells.length=h.cells.length:=λh' hh' e'=>by
  obtain⟨i1,l1,e1⟩:=yg hh
  obtain⟨i2,l2,e2⟩:=yg hh'
  have:i1=i2:=HU net.nd l1 l2 (by rw[e1,e2,e,e'])
  subst this
  rw[<- e1,<- e2]
 have c:=ok.cl h hh
 rw[e] at c
 have sl:=EUO (past:=r.past) (x:=x)
 exact⟨_,c,mY net lg (yf t qg) (Int.natCast_nonneg _) qh c hm,hm⟩
theorem lU {d:Ds} {m:Nat} (o:Out hs x m d):∀ y ∈ d.sends.map xL,Lg hs y/\x.time < y.time:=by
 intro y hy
 obtain⟨w,hw,rfl⟩:=jc.mp hy
 obtain⟨z,rfl,lg,t⟩:=o.sg w hw
 rw[BZ]
 exact⟨lg,t⟩
theorem jZK {d:Ds} {m:Nat} (o:Out hs x m d):d.sends=(d.sends.map xL).map Lt8.w:=by
 rw[zf]
 refine(List.map_id' _).symm.trans (yp λw hw=>?_)
 obtain⟨z,rfl,_⟩:=o.sg w hw
 show z.w=(xL z.w).w
 rw[BZ]
theorem Rn.Ok.did (net:UM hs) (ok:r.Ok hs) (e:r.left=x :: xs) (t:x.time<=1000) (few:r.past.length<=400):(r.did hs x xs).Ok hs:=by
 have lg:=ok.lg x (by rw[e];exact qw)
 obtain⟨m,c,o,hm⟩:=ok.out net lg t few
 refine⟨λy hy=>?_,WB _,λp hp=>?_,?_,λh hh=>?_⟩
 ·have hy:=(HE _).mem_iff.mp hy
  rcases ji.mp hy with hy|hy
  ·exact ok.lg y (by rw[e];exact qy _ hy)
  ·exact(lU o y hy).1
 ·rcases ji.mp hp with hp|hp
  ·exact ok.pl p hp
  ·rw[qp.mp hp]
   exact⟨lg,t,o.tl,o.lt⟩
 ·have h1:(r.did hs x xs).left.length=xs.length+(r.out hs x).sends.length:=by
   show(srt _).length=_
   rw[RR,qr,qq]
  have h2:=ok.ln
  rw[e,qs] at h2
  have h3:=o.ls
  rw[h1,Rn.did_past]
  omega
 ·show Cel _ (if h.name=x.to then _ else _)
  by_cases z:h.name=x.to
  ·rw[if_pos z,hm h hh z]
   exact o.cl
  ·rw[if_neg z]
   exact ok.cl h hh
theorem Rn.Ok.step (net:UM hs) (ok:r.Ok hs) (s:stop<=1000) (few:r.past.length<=400):(r.step hs stop).Ok hs:=by
 by_cases h:r.due stop=true
 ·obtain⟨x,xs,e,t⟩:=Rn.due_is h
  rw[Rn.step_due e t]
  exact ok.did net e (yf t s) few
 ·rw[Rn.step_not (by simpa using h)]
  exact ok
theorem Rn.Ok.go (net:UM hs) (ok:r.Ok hs) (s:stop<=1000) (z:r.past=[]):∀ n,n<=401->(r.go hs stop n).Ok hs
 | 0,_=>ok
 | n+1,h=>(Rn.Ok.go net ok s z n qh).step net s (by
   have:=Rn.go_past (hs:=hs) (stop:=stop) (r:=r) n
   rw[z,jh] at this
   omega)
def Ends (hs:List Ho) (stop:Int) (r:Rn) (n:Nat):Prop:=∃ k,k<=n/\(r.go hs stop k).due stop=false
theorem Ends.past {n k:Nat} (h:Ends hs stop r n) (z:r.past=[]):(r.go hs stop k).past.length<=n:=by
 obtain⟨j,l,d⟩:=h
 rcases Nat.le_total j k with le|le
 ·rw[Rn.go_more d le]
  have:=Rn.go_past (hs:=hs) (stop:=stop) (r:=r) j
  rw[z,jh] at this
  omega
 ·have:=Rn.go_past (hs:=hs) (stop:=stop) (r:=r) k
  rw[z,jh] at this
  omega
theorem Ends.same {n k:Nat} (h:Ends hs stop r n) (le:n<=k):r.go hs stop k=r.go hs stop n:=by
 obtain⟨j,l,d⟩:=h
 rw[Rn.go_more d (jb l le),Rn.go_more d l]
end
def Rb (k n:Nat) (w:W):Prop:=∃ d,(∀ f:Nat->Option PyData,OF f w=some d)/\PyData.showable d=true/\PyData.hasDict d=false/\PyData.leavesShort 13 d=true/\PyData.depth d<=k/\PyData.bulk d<=n/\PyData.canLay0 d=true
def Rbs (k n:Nat) (ws:List W):Prop:=∃ ds,(∀ f:Nat->Option PyData,MJ f ws=some ds)/\PyData.showableAll ds=true/\PyData.hasDictAll ds=false/\PyData.leavesShortAll 13 ds=true/\PyData.depthAll ds<=k/\PyData.bulkAll ds<=n/\PyData.canLayAll0 ds=true/\ds.length=ws.length
theorem Rb.mono {k n k' n':Nat} {w:W} (h:Rb k n w) (hk:k<=k') (hn:n<=n'):Rb k' n' w:=by
 obtain⟨d,h1,h2,h3,h4,h5,h6,h7⟩:=h
 exact⟨d,h1,h2,h3,h4,jb h5 hk,jb h6 hn,h7⟩
theorem Rbs.mono {k n k' n':Nat} {ws:List W} (h:Rbs k n ws) (hk:k<=k') (hn:n<=n'):Rbs k' n' ws:=by
 obtain⟨d,h1,h2,h3,h4,h5,h6,h7⟩:=h
 exact⟨d,h1,h2,h3,h4,jb h5 hk,jb h6 hn,h7⟩
def YL (hs:List Ho) (held:Str->List Int):List (Key × W):=hs.map λh=>(.inr h.name,.tup (DX (held h.name)))
def EH (past:List (Lt8 × List Int)):List W:=past.map λp=>p.1.w
def DFq (p:Lt8 × List Int):List W:=p.2.map λv=>.tup [.int p.1.time,.str p.1.to,.int v]
def iT (past:List (Lt8 × List Int)):List W:=past.flatMap DFq
def sP (ls:List Lt8):List W:=ls.map Lt8.w
def Rn.soon (stop:Int) (r:Rn):Int:=match r.left with
 | []=>stop+1
 | x :: _=>if x.time<=stop+1 then x.time else stop+1
section
variable {hs:List Ho} {r:Rn} {stop:Int} {x:Lt8} {held:Str->List Int} {z:Str} {cs:List Int}
theorem bW:∀ {past:List (Lt8 × List Int)},(∀ p ∈ past,p.2.length<=40)->(iT past).length<=past.length * 40
 | [],_=>jf _
 | p :: past,h=>by
  have h1:=h p qw
  have h2:=bW λq hq=>h q (qy _ hq)
  have h3:(DFq p).length=p.2.length:=qq _
  unfold iT at h2 ⊢
  rw[yo,qr,qs,Nat.succ_mul,h3]
  omega
theorem V6 (held:Str->List Int):∀ {hs:List Ho},z ∈ hs.map Ho.name->jT (YL hs held) (.inr z)=some (.tup (DX (held z)))
 | [],h=>nomatch h
 | h :: hs,m=>by
  unfold jT YL
  rw[jn,zp]
  by_cases e:h.name=z
  ·have:decide ((Sum.inr h.name:Key) = .inr z)=true:=decide_eq_true (by rw[e])
   rw[this,<- e]
   rfl
  ·have:decide ((Sum.inr h.name:Key) = .inr z)=false:=decide_eq_false λc=>e (Sum.inr.inj c)
   rw[this]
   have m:z ∈ hs.map Ho.name:=by
    rcases qo.mp m with m|m
    ·exact absurd m.symm e
    ·exact m
   exact V6 held m
theorem zU (held:Str->List Int) (h:z ∈ hs.map Ho.name):pK (YL hs held) (.inr z) (.tup (DX cs))=YL hs λy=>if y=z then cs else held y:=by
 unfold pK
 rw[if_pos]
 ·unfold YL
  rw[zf]
  refine yp λho hh=>?_
  show(if (Sum.inr ho.name:Key) = .inr z then _ else _)=_
  show _=((Sum.inr ho.name:Key),W.tup (DX (if ho.name=z then cs else held ho.name)))
  by_cases e:ho.name=z
  ·rw[if_pos (by rw[e]),if_pos e]
  ·rw[if_neg λc=>e (Sum.inr.inj c),if_neg e]
 ·obtain⟨ho,hh,e⟩:=jc.mp h
  rw[List.any_eq_true]
  exact⟨_,jc.mpr ⟨ho,hh,rfl⟩,decide_eq_true (by rw[e])⟩
theorem m3u {S:Sto} {a c:Int} {b d:Str} (hb:PyData.strOk b=true) (hd:PyData.strOk d=true):eqW S (.tup [.int a,.str b]) (.tup [.int c,.str d])=some (decide (a=c/\b=d)):=by
 have s1:SeqAt.shaped (.tuple [.int a,.str b])=true:=by
  unfold SeqAt.shaped
  simp [PyData.canLay0,PyData.canLayAll0,hb,PyData.depth,PyData.depthAll]
 have s2:SeqAt.shaped (.tuple [.int c,.str d])=true:=by
  unfold SeqAt.shaped
  simp [PyData.canLay0,PyData.canLayAll0,hd,PyData.depth,PyData.depthAll]
 show(if SeqAt.shaped (.tuple [.int a,.str b]) && SeqAt.shaped (.tuple [.int c,.str d]) then some (PyData.eqv (.tuple [.int a,.str b]) (.tuple [.int c,.str d])) else none)=_
 rw[s1,s2]
 show some (PyData.eqv (.tuple [.int a,.str b]) (.tuple [.int c,.str d]))=_
 have:PyData.eqv (.tuple [.int a,.str b]) (.tuple [.int c,.str d])=(decide (a=c) && decide (b=d)):=by
  simp only[PyData.eqv,PyData.eqvAll,je]
  rw[Bool.eq_iff_iff]
  simp
 rw[this]
 simp
theorem RAJ:∀ ls:List Lt8,LD TV (ls.map Lt8.w)=some ls
 | []=>rfl
 | x :: ls=>by
  rw[jn,LD,RAJ ls]
  rfl
theorem dN {S:Sto} {w:W} {ls:List Lt8} (h:fA S w=some (sP ls)) (l:ls.length<=9000000):F8 S w=some (.lst (sP (srt ls))):=by
 unfold F8
 rw[h]
 show((LD TV (ls.map Lt8.w)).bind λls=>if ls.length<=9000000 then some (W.lst ((srt ls).map Lt8.w)) else none)=_
 rw[RAJ]
 show(if ls.length<=9000000 then some (W.lst ((srt ls).map Lt8.w)) else none)=_
 rw[if_pos l]
 rfl
end
def DN (p:Nat) (hs:List Ho) (stop:Int) (r:Rn):List (Str × W):=[("left",.lst (sP r.left)),("plan",O1 hs),("until",.int stop),("kept",.ref (p+1)),("past",.ref (p+2)),("heard",.ref (p+3))]
structure PlainAt (S:Sto) (p:Nat) (hs:List Ho) (stop:Int) (r:Rn):Prop where
 ins:S[p]? = some (.ins "Plain" (DN p hs stop r))
 kept:S[p+1]? = some (.dk (YL hs r.held))
 past:S[p+2]? = some (.lst (EH r.past))
 heard:S[p+3]? = some (.lst (iT r.past))
def MGh (S:Sto) (p:Nat) (hs:List Ho) (stop:Int) (r:Rn):Sto:=(((S.set (p+1) (.dk (YL hs r.held))).set (p+2) (.lst (EH r.past))).set p (.ins "Plain" (DN p hs stop r))).set (p+3) (.lst (iT r.past))
structure Own (J:Rn->Sto->Prop) (p:Nat) (hs:List Ho) (stop:Int):Prop where
 at_:∀ r S,J r S->PlainAt S p hs stop r
 put:∀ r S r',J r S->J r' (MGh S p hs stop r')
theorem YV {α:Type} {x:α} {xs:List α}:PD (x :: xs) none (some 1)=[x]:=by
 unfold PD
 rw[HT.sIx_none,show(some (1:Int))=some ((1:Nat):Int) from rfl,HT.sIx_nat]
 have:min 1 (x :: xs).length=1:=by simp only[qs];omega
 rw[this]
 rfl
theorem RJ {α:Type} {x:α} {xs:List α}:PD (x :: xs) (some 1) none=xs:=by
 unfold PD
 rw[HT.sIx_none,show(some (1:Int))=some ((1:Nat):Int) from rfl,HT.sIx_nat]
 have:min 1 (x :: xs).length=1:=by simp only[qs];omega
 rw[this]
 show xs.take ((x :: xs).length - 1)=xs
 rw[zw (by simp)]
theorem C2Q {S:Sto} {x:W} {xs:List W}:slW S (.lst (x :: xs)) none (some 1)=some (.lst [x]):=by
 show some (W.lst (PD (x :: xs) none (some 1)))=_
 rw[YV]
theorem Z4a {S:Sto}:slW S (.lst []) none (some 1)=some (.lst []):=rfl
theorem VNX {S:Sto} {x:W} {xs:List W}:slW S (.lst (x :: xs)) (some 1) none=some (.lst xs):=by
 show some (W.lst (PD (x :: xs) (some 1) none))=_
 rw[RJ]
theorem LCX {S:Sto} {i j:Int}:minL S [.lst [.int i,.int j]]=some (.int (if i<=j then i else j)):=rfl
section
variable {S:Sto} {p:Nat} {hs:List Ho} {stop:Int} {r:Rn} {x:Lt8} {Q:W->Sto->Prop}
theorem PlainAt.fLeft (a:PlainAt S p hs stop r):P8 S "left" (.ref p)=some (.lst (sP r.left)):=tV a.ins rfl
theorem PlainAt.fPlan (a:PlainAt S p hs stop r):P8 S "plan" (.ref p)=some (O1 hs):=tV a.ins rfl
theorem PlainAt.fUntil (a:PlainAt S p hs stop r):P8 S "until" (.ref p)=some (.int stop):=tV a.ins rfl
theorem PlainAt.fKept (a:PlainAt S p hs stop r):P8 S "kept" (.ref p)=some (.ref (p+1)):=tV a.ins rfl
theorem PlainAt.fPast (a:PlainAt S p hs stop r):P8 S "past" (.ref p)=some (.ref (p+2)):=tV a.ins rfl
theorem PlainAt.cls (a:PlainAt S p hs stop r) {m:Str} (h:(["left", "plan", "until", "kept", "past", "heard"]:List Str).contains m=false):LP S m (.ref p)=some "Plain" := GGb a.ins h
theorem PlainAt.app (a:PlainAt S p hs stop r) (T:Sto):PlainAt (S++T) p hs stop r:=by
 have go:∀ {i:Nat} {o:Ob},S[i]? = some o->(S++T)[i]? = some o:=λ{i o} e=>by
  have l:i < S.length:=by
   by_cases h:i < S.length
   ·exact h
   ·rw[Qe qh] at e
    cases e
  rw[jl l]
  exact e
 exact⟨go a.ins,go a.kept,go a.past,go a.heard⟩
theorem bH:(stop < r.soon stop) ↔ r.due stop=false:=by
 unfold Rn.soon Rn.due
 cases e:r.left with
 | nil=>exact⟨λ_=>rfl,λ_=>by show stop < stop+1;omega⟩
 | cons y ys=>
  show(stop < if y.time<=stop+1 then y.time else stop+1) ↔ decide (y.time<=stop)=false
  rw[decide_eq_false_iff_not]
  split <;> omega
theorem uVC (a:PlainAt S p hs stop r) (q:Q (.int (r.soon stop)) S):Ev (AT 1 Z9X [.ref p] S) Q:=by
 refine M9 rfl ?_
 unfold Z9X lB
 refine pI rfl ?_
 unfold Rn.soon at q
 have fl:=a.fLeft
 cases e:r.left with
 | nil=>
  rw[e] at q fl
  have fl:P8 S "left" (.ref p)=some (.lst []):=fl
  (repeat (first|(with_reducible refine⟨_,fl,?_⟩)|(with_reducible refine⟨_,a.fUntil,?_⟩)|(with_reducible refine⟨_,Z4a,?_⟩)|refine AH ?_))
  exact q
 | cons y ys=>
  rw[e] at q fl
  have fl:P8 S "left" (.ref p)=some (.lst (y.w :: sP ys)):=fl
  (repeat (first|(with_reducible refine⟨_,fl,?_⟩)|(with_reducible refine⟨_,a.fUntil,?_⟩)|(with_reducible refine⟨_,C2Q,?_⟩)|((with_reducible refine jK LCX ?_))|refine uT ?_))
  exact q
theorem n4J (a:PlainAt S p hs stop r) (net:UM hs) (ok:r.Ok hs) (few:r.past.length<=400) (lg:Lg hs x) (q:Q (.int (uJ r.past x:Nat)) S):Ev (AT 2 Z9U [.ref p,x.w] S) Q:=by
 refine M9 rfl ?_
 unfold Z9U IX
 refine pI rfl ?_
 have n1:=(xV net lg.to).strOk
 unfold Lt8.w
 (repeat (first|(with_reducible refine⟨_,a.fPast,?_⟩)|(with_reducible refine⟨_,bU a.past,?_⟩)|refine AH ?_))
 refine F5 (λq:Lt8 × List Int=>q.1.w) (λq=>q.1.w) (λq=>decide (q.1.time=x.time/\q.1.to=x.to)) (bU a.past) _ _ ?_ ?_ ?_
 ·simp only[jh]
  exact jb (show _<=400 by omega) qg
 ·intro y hy R R0 t f
  have n2:=(xV net (ok.pl y hy).1.to).strOk
  have ep:∀ {Q':W->Sto->Prop},Q' (.bl (decide (y.1.time=x.time/\y.1.to=x.to))) S->Ev (opS (λS x y=>(eqW S x y).map W.bl) (.tup [.int y.1.time,.str y.1.to]) (.tup [.int x.time,.str x.to]) S) Q':=λq'=>G6 (by rw[m3u n2 n1];rfl) q'
  (try refine AH ?_)
  refine ep ?_
  (try refine AH ?_)
  refine UL (λh=>?_) (λh=>?_)
  ·(try refine AH ?_)
   exact t h
  ·exact f h
 ·rw[jv]
  (try refine AH ?_)
  refine jK (kL (S:=S) (x:=.lst _) rfl (by simp)) ?_
  rw[qq]
  (try refine AH ?_)
  exact q
end
theorem nRZ {n:Nat} {F:List W->M W} {ws:List W} {S:Sto} {Q:W->Sto->Prop} (h:Ev (AT n F ws S) Q):Ev (NI n F ws S) Q:=by
 unfold AT at h
 unfold NI
 by_cases hl:ws.length=n
 ·rw[if_pos hl] at h ⊢
  cases e:F ws S with
  | none=>
   rw[e] at h
   exact h
  | some r=>
   rw[e] at h
   obtain⟨r,S'⟩:=r
   cases r with
   | ok w=>exact h
   | er w=>exact h
 ·rw[if_neg hl] at h ⊢
  exact h
theorem j5u {α:Type} {r:Option (Res α × Sto)} {Q:α->Sto->Prop} (h:Eo r Q λ_ _=>False):Ev r Q:=by
 unfold Eo at h
 unfold Ev
 split at h
 ·exact h
 ·exact h.elim
 ·exact h.elim
theorem mRg {k:Lo->M Bool} {b:Lo->M Oc} {Q:Oc->Sto->Prop} {E:W->Sto->Prop} (I:Nat->Lo->Sto->Prop) (step:∀ n L S,I n L S->Eo (k L S) (λc S'=>if c=true then ∃ m,n=m+1/\Eo (b L S') (λo S''=>match o with
   | .nx L2=>I m L2 S''
   | .ct L2=>I m L2 S''
   | .bk L2=>Q (.nx L2) S''
   | .rt w=>Q (.rt w) S'') E else Q (.nx L) S') E):∀ n L S,I n L S->Eo (eE k b L S) Q E:=by
 have go:∀ n L S,I n L S->Eo (C0 k b (n+1) L S) Q E:=by
  intro n
  induction n with
  | zero=>
   intro L S h
   show Eo (M.bind (k L) (λc=>if c then(b L).bind (AU (C0 k b 0)) else M.ret (.nx L)) S) Q E
   rw[rX]
   refine(step 0 L S h).imp (λc S' h2=>?_) λ_ _ z=>z
   cases c with
   | false=>exact h2
   | true=>
    obtain⟨m,e,_⟩:∃ m,0=m+1/\_:=h2
    cases e
  | succ n ih=>
   intro L S h
   show Eo (M.bind (k L) (λc=>if c then(b L).bind (AU (C0 k b (n+1))) else M.ret (.nx L)) S) Q E
   rw[rX]
   refine(step (n+1) L S h).imp (λc S' h2=>?_) λ_ _ z=>z
   cases c with
   | false=>exact h2
   | true=>
    obtain⟨m,e,h3⟩:∃ m,n+1=m+1/\_:=h2
    cases e
    show Eo (M.bind (b L) (AU (C0 k b (n+1))) S') Q E
    rw[rX]
    refine Eo.imp h3 (λo S'' h4=>?_) λ_ _ h=>h
    cases o with
    | nx L2=>exact ih L2 S'' h4
    | ct L2=>exact ih L2 S'' h4
    | bk L2=>exact h4
    | rt w=>exact h4
 intro n L S h
 have g:=go n L S h
 unfold Eo at g
 cases e:C0 k b (n+1) L S with
 | none=>
  rw[e] at g
  exact g.elim
 | some r=>
  rw[e] at g
  unfold Eo
  rw[vB e]
  exact g
theorem I4A {a:Lo->M W} {L:Lo} {S:Sto} {Q:Bool->Sto->Prop} {E:W->Sto->Prop} (h:Eo (a L S) (λx S'=>∃ c,CZ S' x=some c/\Q c S') E):Eo (YG a L S) Q E:=by
 unfold YG
 refine eoB (h.imp ?_ λ_ _ z=>z)
 rintro x S' ⟨c,e,z⟩
 unfold CGj
 rw[e]
 exact z
theorem YU {c_ m:Str} {f:List W->M W} {a:Lo->M W} {as:Lo->M (List W)} {L:Lo} {S:Sto} {Q E:W->Sto->Prop} (h:Ev (a L S) λx S'=>LP S' m x=some c_/\Ev (as L S') λws S''=>Eo (f (x :: ws) S'') Q E):Eo (PL c_ m f a as L S) Q E:=by
 unfold PL
 refine eoB (Ev.eo (h.imp ?_))
 rintro x S' ⟨e,q⟩
 refine eoB (Ev.eo ?_)
 unfold BQ
 rw[if_pos e,II]
 exact eoB (Ev.eo q)
theorem MEQ {cs:List Str} {f:Str} {o v:Lo->M W} {L:Lo} {S:Sto} {Q:Oc->Sto->Prop} {E:W->Sto->Prop} (h:Eo (v L S) (λy S'=>Ev (o L S') λx S''=>Ev (LG cs f x y S'') λ_ S3=>Q (.nx L) S3) E):Eo (mB cs f o v L S) Q E:=by
 unfold mB
 exact eoB (h.imp (λy S' z=>eoB (Ev.eo (z.imp λx S'' z=>eoB (Ev.eo (z.imp λ_ S3 z=>z))))) λ_ _ z=>z)
theorem IL {a:Lo->M W} {L:Lo} {S:Sto} {Q:W->Sto->Prop} {E:W->Sto->Prop} (h:Eo (a L S) (λx S'=>∃ w,F8 S' x=some w/\Q w S') E):Eo (C7 a L S) Q E:=by
 unfold C7
 refine eoB (h.imp ?_ λ_ _ z=>z)
 rintro x S' ⟨w,e,z⟩
 rw[e]
 exact z
section
variable {S:Sto} {p:Nat} {hs:List Ho} {stop:Int} {r:Rn} {x:Lt8} {Q:W->Sto->Prop} {J:Rn->Sto->Prop}
theorem GP {a b:List Lt8}:sP a++sP b=sP (a++b):=(zn).symm
theorem ZY {d:Ds} {m:Nat} (o:Out hs x m d):d.sends=sP (d.sends.map xL):=jZK o
theorem y3 (own:Own J p hs stop) (h:J r S) (net:UM hs) (ok:r.Ok hs) (s1:stop<=1000) (fw:r.due stop=true->r.past.length < 300) (q:∀ S',J (r.step hs stop) S'->Q (.bl (r.due stop)) S'):Ev (AT 1 Z9W [.ref p] S) Q:=by
 have a:=own.at_ _ _ h
 refine M9 rfl ?_
 unfold Z9W mV
 refine pI rfl ?_
 (repeat (first|(with_reducible refine⟨a.cls qf,?_⟩)|(with_reducible refine⟨_,a.fUntil,?_⟩)|with_reducible refine uVC a ?_|refine AH ?_))
 refine UL (λz=>?_) (λz=>?_)
 ·have nd:r.due stop=false:=bH.mp (of_decide_eq_true z)
  rw[nd,Rn.step_not nd] at q
  (try refine AH ?_)
  exact q S h
 ·have nd:r.due stop=true:=by
   cases e:r.due stop with
   | true=>rfl
   | false=>exact absurd (bH.mpr e) (of_decide_eq_false z)
  obtain⟨x,xs,e,t⟩:=Rn.due_is nd
  rw[nd,Rn.step_due e t] at q
  have few:=fw nd
  have lg:=ok.lg x (by rw[e];exact qw)
  obtain⟨m,c,o,hm⟩:=ok.out net lg (yf t s1) qh
  have fl:P8 S "left" (.ref p)=some (.lst (x.w :: sP xs)):=by
   have:=a.fLeft
   rw[e] at this
   exact this
  (repeat (first|(with_reducible refine⟨_,a.fPast,?_⟩)|refine AH ?_))
  refine jK (kL (bU a.past) (by simp)) ?_
  (try refine AH ?_)
  refine RD (decide_eq_false (by unfold EH;rw[qq];omega)) ?_
  (repeat (first|(with_reducible refine⟨_,fl,?_⟩)|refine AH ?_))
  refine zB (w:=x.w) XZ ?_
  unfold Lt8.w
  (try refine AH ?_)
  rw[show W.tup [.int x.time,.str x.to,.str x.kind,.int x.number,.str x.sender,.int x.sent,.int x.place,.int x.turn]=x.w from rfl]
  (repeat (first|(with_reducible refine⟨_,a.fPlan,?_⟩)|(with_reducible refine⟨_,a.fKept,?_⟩)|((with_reducible refine yQ (A8 a.kept rfl (V6 _ lg.to)) ?_))|(with_reducible refine⟨a.cls qf,?_⟩)|with_reducible refine n4J a net ok qh lg ?_|refine AH ?_))
  refine zL (x:=x.nt) (ok.at net lg) ?_
  rw[show(ZQ hs x.nt (r.held x.to) (uJ r.past x:Nat))=r.out hs x from rfl]
  unfold Ds.w
  refine LQ rfl ?_
  refine RJI ?_
  refine dAu ?_
  (repeat (first|(with_reducible refine⟨_,a.fKept,?_⟩)|refine AH ?_))
  refine aO (iAG a.kept rfl (by unfold YL;rw[qq];exact jy net.n6 qg)) ?_
  rw[zU _ lg.to]
  have i1:=aL (o:=Ob.dk (YL hs λy=>if y=x.to then(r.out hs x).cells else r.held y)) (show p+1 ≠ p by omega) a.ins
  have p1:=aL (o:=Ob.dk (YL hs λy=>if y=x.to then(r.out hs x).cells else r.held y)) (show p+1 ≠ p+2 by omega) a.past
  have h1:=aL (o:=Ob.dk (YL hs λy=>if y=x.to then(r.out hs x).cells else r.held y)) (show p+1 ≠ p+3 by omega) a.heard
  (repeat (first|((with_reducible refine⟨_,tV i1 (w:=.ref (p+2)) rfl,?_⟩))|refine AH ?_))
  refine⟨by unfold oX;rw[uK p1];rfl,?_⟩
  (try refine AH ?_)
  refine uQ (oN p1 (by unfold EH;rw[qq];exact yy few qg)) ?_
  have i2:=aL (o:=Ob.lst (EH r.past++[x.w])) (show p+2 ≠ p by omega) i1
  have h2:=aL (o:=Ob.lst (EH r.past++[x.w])) (show p+2 ≠ p+3 by omega) h1
  have fl2:=tV i2 (f := "left") (w:=.lst (sP r.left)) rfl
  rw[show sP r.left=x.w :: sP xs from by rw[e];rfl] at fl2
  (try refine AH ?_)
  refine B9 ?_
  (repeat (first|(with_reducible refine⟨_,fl2,?_⟩)|(with_reducible refine⟨_,VNX,?_⟩)|refine uT ?_))
  have ls:=o.ls
  have ln:=ok.ln
  rw[e,qs] at ln
  rw[ZY o]
  refine MT (a:=sP xs) (b:=sP ((r.out hs x).sends.map xL)) (by unfold sP;rw[qq,qq,qq];exact jb (show _<=13000 by omega) qg) ?_
  rw[GP]
  refine⟨_,dN (ls:=xs++(r.out hs x).sends.map xL) rfl (by rw[qr,qq];omega),?_⟩
  have i3:=U5 (o:=Ob.ins "Plain" (DN p hs stop (r.did hs x xs))) i2
  have h3:=aL (o:=Ob.ins "Plain" (DN p hs stop (r.did hs x xs))) (show p ≠ p+3 by omega) h2
  (try refine AH ?_)
  refine AJ (A7 i2 (show(6:Nat) < 1000 by decide)) ?_
  rw[show MF "left" (.lst (sP (srt (xs++(r.out hs x).sends.map xL)))) (DN p hs stop r)=DN p hs stop (r.did hs x xs) from rfl]
  (repeat (first|((with_reducible refine⟨_,tV i3 (w:=.ref (p+3)) rfl,?_⟩))|refine AH ?_))
  refine⟨by unfold oX;rw[uK h3];rfl,?_⟩
  (try refine AH ?_)
  refine pY W.int (λv=>.tup [.int x.time,.str x.to,.int v]) (by rfl) _ _ ?_ ?_ ?_
  ·simp only[jh]
   have:=o.lt
   exact jb (show _<=40 by omega) qg
  ·intro v hv R q'
   (try refine AH ?_)
   exact q'
  rw[jv]
  (try refine AH ?_)
  refine XX (GX3 h3 rfl ?_) ?_
  ·have:=bW λq hq=>(ok.pl q hq).2.2.2
   have:=o.lt
   rw[qq]
   exact jb (show _<=13000 by omega) qg
  (try refine AH ?_)
  have e1:EH r.past++[x.w]=EH (r.did hs x xs).past:=by
   show _=EH (r.past++[(x,(r.out hs x).tells)])
   unfold EH
   rw[zn]
   rfl
  have e2:iT r.past++(r.out hs x).tells.map (λv=>W.tup [.int x.time,.str x.to,.int v])=iT (r.did hs x xs).past:=by
   show _=iT (r.past++[(x,(r.out hs x).tells)])
   unfold iT
   rw[List.flatMap_append,yo,List.flatMap_nil,jw]
   rfl
  rw[e1,e2]
  exact q _ (own.put _ _ (r.did hs x xs) h)
theorem fP0 {N:Nat} (own:Own J p hs stop) (h:J r S) (net:UM hs) (s1:stop<=1000) (ok:∀ k,k<=N->(r.go hs stop k).Ok hs/\((r.go hs stop k).due stop=true->(r.go hs stop k).past.length < 300)) (over:(r.go hs stop N).due stop=false) (q:∀ S',J (r.go hs stop N) S'->Q .non S'):Ev (AT 1 Z9M [.ref p] S) Q:=by
 refine M9 rfl ?_
 unfold Z9M GB
 refine pI rfl ?_
 refine vQQ (λn L S=>∃ k,k+n=N/\L=[some (.ref p)]/\J (r.go hs stop k) S) ?_ N _ _ ⟨0,yj _,rfl,h⟩
 rintro n L S ⟨k,e,rfl,hk⟩
 have okk:=ok k qh
 (repeat (first|((with_reducible refine⟨(own.at_ _ _ hk).cls qf,?_⟩))|refine AH ?_))
 refine nRZ (y3 own hk net okk.1 s1 okk.2 λS' h'=>?_)
 (try refine AH ?_)
 refine UL (λd=>?_) (λd=>?_)
 ·cases n with
  | zero=>
   have:k=N:=by omega
   subst this
   rw[over] at d
   cases d
  | succ n=>
   refine⟨n,rfl,?_⟩
   (try refine AH ?_)
   exact⟨k+1,by omega,rfl,h'⟩
 ·(try refine AH ?_)
  refine q S' ?_
  rw[Rn.go_more d (show k<=N by omega)]
  rw[Rn.step_not d] at h'
  exact h'
theorem e3F (a:PlainAt S p hs stop r) (q:Q (.ref S.length) (S++[.lst (EH r.past)])):Ev (AT 1 Z9K [.ref p] S) Q:=by
 refine M9 rfl ?_
 unfold Z9K cN
 refine pI rfl ?_
 (repeat (first|(with_reducible refine⟨_,a.fPast,?_⟩)|refine AH ?_))
 refine zC (HI a.past) ?_
 (try refine AH ?_)
 exact q
theorem cV {z:Str} (a:PlainAt S p hs stop r) (hz:z ∈ hs.map Ho.name) (q:Q (.tup (DX (r.held z))) S):Ev (AT 2 Z98 [.ref p,.str z] S) Q:=by
 refine M9 rfl ?_
 unfold Z98 IG
 refine pI rfl ?_
 have dn:∀ {Q':W->Sto->Prop},Q' (.bl false) S->Ev (rI6 true (.str z) (.ref (p+1)) S) Q':=λ{Q'} q'=>by
  show Ev (gL ((qW S (.ref (p+1)) (.str z)).map λo=>W.bl (if true then !o.isSome else o.isSome)) S) Q'
  rw[VI a.kept (k:=.str z) rfl,V6 _ hz]
  exact q'
 (repeat (first|(with_reducible refine⟨_,a.fKept,?_⟩)|with_reducible refine dn ?_|((with_reducible refine yQ (A8 a.kept rfl (V6 _ hz)) ?_))|refine AH ?_))
 exact q
end
def dU:W:=.exc "TooMany" ["most"] [.int 300]
section
variable {S:Sto} {p:Nat} {hs:List Ho} {stop:Int} {r:Rn} {Q:W->Sto->Prop} {E:W->Sto->Prop} {J:Rn->Sto->Prop}
theorem jJ (own:Own J p hs stop) (h:J r S) (due:r.due stop=true) (full:r.past.length=300) (q:E dU S):Eo (NI 1 Z9W [.ref p] S) (λ_ _=>False) E:=by
 have a:=own.at_ _ _ h
 refine VQ rfl ?_
 unfold Z9W mV
 refine xC rfl ?_
 refine MN (Ev.eo (Ev.imp (Q:=λoc S'=>oc = .nx [some (.ref p),none,none,none,none,none,none,none]/\S'=S) ?_ ?_))
 ·(repeat (first|(with_reducible refine⟨a.cls qf,?_⟩)|(with_reducible refine⟨_,a.fUntil,?_⟩)|with_reducible refine uVC a ?_|refine AH ?_))
  refine RD (decide_eq_false λz=>by
   have:=bH.mp z
   rw[due] at this
   cases this) ?_
  (try refine AH ?_)
  exact⟨rfl,rfl⟩
 rintro _ S' ⟨rfl,z⟩
 rw[z]
 clear z S'
 refine C1 ?_
 refine MN (M4 ?_)
 (repeat (first|(with_reducible refine⟨_,a.fPast,?_⟩)|refine AH ?_))
 refine jK (kL (bU a.past) (by simp)) ?_
 (try refine AH ?_)
 refine nN (decide_eq_true (by unfold EH;rw[qq,full];rfl)) ?_
 refine SC ?_
 (try refine AH ?_)
 exact⟨rfl,q⟩
theorem mLy {N:Nat} (own:Own J p hs stop) (h:J r S) (net:UM hs) (s1:stop<=1000) (ok:∀ k,k < N->(r.go hs stop k).Ok hs/\(r.go hs stop k).past.length < 300/\(r.go hs stop k).due stop=true) (full:(r.go hs stop N).past.length=300) (due:(r.go hs stop N).due stop=true) (q:∀ S',J (r.go hs stop N) S'->E dU S'):Eo (NI 1 Z9M [.ref p] S) (λ_ _=>False) E:=by
 refine VQ rfl ?_
 unfold Z9M GB
 refine xC rfl ?_
 refine mRg (λn L S=>∃ k,k+n=N/\L=[some (.ref p)]/\J (r.go hs stop k) S) ?_ N _ _ ⟨0,yj _,rfl,h⟩
 rintro n L S ⟨k,e,rfl,hk⟩
 refine I4A (YU ?_)
 (repeat (first|((with_reducible refine⟨(own.at_ _ _ hk).cls qf,?_⟩))|refine AH ?_))
 cases n with
 | zero=>
  have:k=N:=by omega
  subst this
  exact(jJ own hk due full (q _ hk)).imp (λ_ _ z=>z.elim) λ_ _ z=>z
 | succ n=>
  have o:=ok k qh
  refine Ev.eo (nRZ (y3 own hk net o.1 s1 (λ_=>o.2.1) λS' h'=>?_))
  rw[o.2.2]
  refine⟨true,rfl,?_⟩
  rw[if_pos rfl]
  refine⟨n,rfl,Ev.eo ?_⟩
  (try refine AH ?_)
  exact⟨k+1,by omega,rfl,h'⟩
theorem DE {z:Str} (held:Str->List Int):∀ {hs:List Ho},z ∉ hs.map Ho.name->jT (YL hs held) (.inr z)=none
 | [],_=>rfl
 | h :: hs,m=>by
  have ih:=DE held (hs:=hs) λy=>m (qy _ y)
  unfold jT YL at ih ⊢
  rw[jn,zp]
  have:decide ((Sum.inr h.name:Key) = .inr z)=false:=decide_eq_false λc=>m (by rw[<- Sum.inr.inj c];exact qw)
  rw[this]
  exact ih
theorem YC {w:W} (a:PlainAt S p hs stop r) (od:iQ S [w,.ty "str"]=some (.bl false) \/ ∃ z:Str,w = .str z/\z ∉ hs.map Ho.name) (q:E (.exc "NoHouse" ["name"] [w]) S):Eo (NI 2 Z98 [.ref p,w] S) (λ_ _=>False) E:=by
 refine VQ rfl ?_
 unfold Z98 IG
 refine xC rfl ?_
 refine MN (M4 ?_)
 have fin:Eo (U9 "NoHouse" ["name"] (O9 (uV 1) JN) [some (.ref p),some w] S) (λo S'=>Eo (FS (iE (mOp sT (xI "kept" (uV 0)) (uV 1))) o S') (λo S'=>Ev (oU o S') λ_ _=>False) E) E:=by
  refine SC ?_
  (try refine AH ?_)
  exact⟨rfl,q⟩
 rcases od with od|⟨z,rfl,hz⟩
 ·(repeat (first|(with_reducible refine jK od ?_)|refine AH ?_))
  exact fin
 ·have dn:∀ {Q':W->Sto->Prop},Q' (.bl true) S->Ev (rI6 true (.str z) (.ref (p+1)) S) Q':=λ{Q'} q'=>by
   show Ev (gL ((qW S (.ref (p+1)) (.str z)).map λo=>W.bl (if true then !o.isSome else o.isSome)) S) Q'
   rw[VI a.kept (k:=.str z) rfl,DE _ hz]
   exact q'
  (repeat (first|(with_reducible refine⟨_,a.fKept,?_⟩)|with_reducible refine dn ?_|refine AH ?_))
  exact fin
end
inductive Dt where|non|bl (b:Bool)|int (i:Int)|str (z:Str)|tup1 (z:Str)|lst1 (z:Str)|lstI (i:Int)
def Dt.w:Dt->W
 | .non=>.non | .bl b=>.bl b | .int i=>.int i | .str z=>.str z | .tup1 z=>.tup [.str z] | .lst1 z=>.lst [.str z] | .lstI i=>.lst [.int i]
def ShS (z:Str):Prop:=PyData.strOk z=true/\z.length<=10
def SmI (i:Int):Prop:=i.natAbs < 10 ^ 31
def Dt.Fine:Dt->Prop
 | .int i=>SmI i | .str z=>ShS z | .tup1 z=>ShS z | .lst1 z=>ShS z | .lstI i=>SmI i | _=>True
theorem Dt.below0 (x:Dt):W3 0 x.w=true:=by cases x <;> rfl
def dtW (xs:List Dt):List W:=xs.map Dt.w
theorem AC {n:Nat} (xs:List Dt):cH n (dtW xs)=true:=oA λx=>F7 (jf _) x.below0
def Rt (k n:Nat) (w:W):Prop:=∃ d,(∀ f:Nat->Option PyData,OF f w=some d)/\PyData.showable d=true/\PyData.hasDict d=false/\PyData.canLay0 d=true/\PyData.depth d<=k/\(PyData.shown d).length<=n
def Rts (k n:Nat) (ws:List W):Prop:=∃ ds,(∀ f:Nat->Option PyData,MJ f ws=some ds)/\PyData.showableAll ds=true/\PyData.hasDictAll ds=false/\PyData.canLayAll0 ds=true/\PyData.depthAll ds<=k/\((PyData.shownAll ds).map (·.length)).sum+2 * ds.length<=n/\ds.length=ws.length
theorem Rt.mono {k n k' n':Nat} {w:W} (h:Rt k n w) (hk:k<=k') (hn:n<=n'):Rt k' n' w:=by
 obtain⟨d,h1,h2,h3,h4,h5,h6⟩:=h
 exact⟨d,h1,h2,h3,h4,jb h5 hk,jb h6 hn⟩
theorem Rts.mono {k n k' n':Nat} {ws:List W} (h:Rts k n ws) (hk:k<=k') (hn:n<=n'):Rts k' n' ws:=by
 obtain⟨ds,h1,h2,h3,h4,h5,h6,h7⟩:=h
 exact⟨ds,h1,h2,h3,h4,jb h5 hk,jb h6 hn,h7⟩
theorem BY1:Rt 0 4 .non:=⟨.none,λ_=>rfl,rfl,rfl,rfl,jg _,by decide +kernel⟩
theorem lOB {b:Bool}:Rt 0 5 (.bl b):=⟨.bool b,λ_=>rfl,rfl,rfl,rfl,jg _,by cases b <;> decide +kernel⟩
theorem c9 {i:Int} (h:SmI i):Rt 0 32 (.int i):=by
 refine⟨.int i,λ_=>rfl,?_,rfl,rfl,jg _,?_⟩
 ·simp only[PyData.showable,decide_eq_true_eq]
  have big:(10:Nat) ^ 31 < 2 ^ 110:=by decide +kernel
  have lt:i.natAbs < 2 ^ 110:=yy h big
  by_cases z:i.natAbs=0
  ·rw[z]
   decide
  ·exact jz ((Nat.log2_lt z).mpr lt) qg
 ·have e:=int_text_length_le10 (k:=31) qg h
  show(Str.ofString (toString i)).length<=32
  rw[PySem.ofString_length]
  exact e
theorem JJ {z:Str} (h:ShS z):Rt 0 102 (.str z):=by
 refine⟨.str z,λ_=>rfl,rfl,rfl,h.1,jg _,?_⟩
 have:=StrLaws.reprText_len z (λc hc=>by
  have:=h.1
  unfold PyData.strOk at this
  rw[Array.all_eq_true_iff_forall_mem] at this
  exact yy (of_decide_eq_true (this c (by simpa using hc))) qg)
 have h2:=h.2
 show(reprText z).length<=102
 omega
theorem DD {k:Nat}:Rts k 0 []:=⟨[],λ_=>rfl,rfl,rfl,rfl,jf _,jg _,rfl⟩
theorem fO {k n N M:Nat} {w:W} {ws:List W} (h:Rt k n w) (hs:Rts k N ws) (le:n+2+N<=M):Rts k M (w :: ws):=by
 obtain⟨d,h1,h2,h3,h4,h5,h6⟩:=h
 obtain⟨ds,g1,g2,g3,g4,g5,g6,g7⟩:=hs
 refine⟨d :: ds,λf=>by rw[MJ,h1 f,g1 f],?_,?_,?_,?_,?_,by rw[qs,g7,qs]⟩
 ·simp only[PyData.showableAll,h2,g2,je]
 ·simp only[PyData.hasDictAll,h3,g3,Bool.or_false]
 ·simp only[PyData.canLayAll0,h4,g4,je]
 ·simp only[PyData.depthAll]
  exact Nat.max_le.mpr ⟨h5,g5⟩
 ·simp only[PyData.shownAll,jn,List.sum_cons,qs]
  omega
theorem PB {k n:Nat}:∀ {ws:List W},(∀ w ∈ ws,Rt k n w)->Rts k (ws.length * (n+2)) ws
 | [],_=>DD.mono (jg _) (jf _)
 | w :: ws,h=>fO (h w qw) (PB λx hx=>h x (qy _ hx)) (by rw[qs,Nat.succ_mul];omega)
theorem m3 {k n:Nat} {ws:List W} (h:Rts k n ws):Rt (k+1) (n+3) (.tup ws):=by
 obtain⟨ds,g1,g2,g3,g4,g5,g6,g7⟩:=h
 refine⟨.tuple ds,λf=>by rw[OF,g1 f];rfl,g2,g3,g4,by simp only[PyData.depth];omega,?_⟩
 have h2:=tupleText_len_le (PyData.shownAll ds)
 have h3:=PyData.shownAll_length ds
 simp only[PyData.shown]
 omega
theorem tO {k n:Nat} {ws:List W} (h:Rts k n ws):Rt (k+1) (n+3) (.lst ws):=by
 obtain⟨ds,g1,g2,g3,g4,g5,g6,g7⟩:=h
 refine⟨.list ds,λf=>by rw[OF,g1 f];rfl,g2,g3,g4,by simp only[PyData.depth];omega,?_⟩
 have h2:=listText_len_le (PyData.shownAll ds)
 have h3:=PyData.shownAll_length ds
 simp only[PyData.shown]
 omega
theorem Rts.neq {k n:Nat} {ws:List W} (h:Rts k n ws) (hk:k < 64) {S:Sto}:eqW S (.lst ws) (.lst [])=some ws.isEmpty:=by
 obtain⟨ds,g1,g2,g3,g4,g5,g6,g7⟩:=h
 have e1:toD S (.lst ws)=some (.list ds):=by
  show(MJ (mI S) ws).map PyData.list=_
  rw[g1]
  rfl
 have e:eqW S (.lst ws) (.lst [])=match toD S (.lst ws),toD S (.lst []) with
  | some d,some e=>if SeqAt.shaped d && SeqAt.shaped e then some (PyData.eqv d e) else none
  | _,_=>none:=rfl
 rw[e,e1,show toD S (.lst [])=some (.list []) from rfl]
 have sh:SeqAt.shaped (.list ds)=true:=by
  have hd:PyData.depth (.list ds)<=64:=by
   simp only[PyData.depth]
   omega
  have hc:PyData.canLay0 (.list ds)=true:=by
   simp only[PyData.canLay0]
   exact g4
  unfold SeqAt.shaped
  rw[hc,decide_eq_true hd]
  rfl
 show(if SeqAt.shaped (.list ds) && SeqAt.shaped (.list []) then some (PyData.eqv (.list ds) (.list [])) else none)=_
 rw[sh,show SeqAt.shaped (.list [])=true from by decide]
 show some (PyData.eqvAll ds [])=_
 cases ds with
 | nil=>
  cases ws with
  | nil=>rfl
  | cons w ws=>cases g7
 | cons d ds=>
  cases ws with
  | nil=>cases g7
  | cons w ws=>rfl
theorem Dt.rt {x:Dt} (h:x.Fine):Rt 1 110 x.w:=by
 cases x with
 | non=>exact BY1.mono qg qg
 | bl b=>exact lOB.mono qg qg
 | int i=>exact(c9 h).mono qg qg
 | str z=>exact(JJ h).mono qg qg
 | tup1 z=>exact(m3 (fO (JJ h) DD (jg _))).mono (jg _) qg
 | lst1 z=>exact(tO (fO (JJ h) DD (jg _))).mono (jg _) qg
 | lstI i=>exact(tO (fO (c9 h) DD (jg _))).mono (jg _) qg
theorem Dts.rts {xs:List Dt} (h:∀ x ∈ xs,x.Fine):Rts 1 (xs.length * 112) (dtW xs):=by
 have:=PB (k:=1) (n:=110) (ws:=dtW xs) λw hw=>by
  obtain⟨x,hx,rfl⟩:=jc.mp hw
  exact Dt.rt (h x hx)
 unfold dtW at this ⊢
 rw[qq] at this
 exact this
instance (s:Str):Decidable (Nam s):=by
 unfold Nam
 infer_instance
def Dt.nam:Dt->Bool
 | .str s=>decide (Nam s)
 | _=>false
def Dt.num (lo hi:Int):Dt->Bool
 | .int i=>decide (lo<=i) && decide (i<=hi)
 | _=>false
section
variable {S:Sto} {Q:W->Sto->Prop}
theorem O6 {α:Type} (p:α->Bool) (xs:List α):qO S [.lst (xs.map λx=>W.bl (p x))]=some (.bl (xs.all p)):=by
 have e:C4 (xs.map λx=>W.bl (p x))=some (xs.map p):=by
  induction xs with
  | nil=>rfl
  | cons x xs ih=>
   rw[jn,C4,ih]
   rfl
 show((C4 (xs.map λx=>W.bl (p x))).map λbs=>W.bl (bs.all id))=_
 rw[e]
 show some (W.bl ((xs.map p).all id))=_
 rw[List.all_map]
 rfl
theorem ZDp {z:Str} (h:z.length<=10):eP S [.str z]=some (.int z.length):=if_pos (jb h qg)
theorem Q8 {z:Str} (h:¬ Nam z) (q:Q (.bl (Dt.nam (.str z))) S):Q (.bl false) S:=by
 have e:Dt.nam (.str z)=false:=decide_eq_false h
 rw[e] at q
 exact q
theorem nW {x:Dt} (h:x.Fine) (q:Q (.bl x.nam) S):Ev (Z9Q [x.w] S) Q:=by
 unfold Z9Q Z9e
 refine pI rfl ?_
 cases x with
 | str z=>
  have hl:z.length<=10:=h.2
  have e:=ZDp (S:=S) hl
  simp only[Dt.w]
  (repeat (first|((with_reducible refine jK (w:=.int z.length) ?_ ?_);exact e)|refine AH ?_))
  refine UL (λa=>?_) (λa=>?_)
  ·have a:=of_decide_eq_true a
   (try refine AH ?_)
   refine UL (λb=>?_) (λb=>?_)
   ·have b:=of_decide_eq_true b
    (try refine AH ?_)
    refine pY (λc:Nat=>.str ⟨#[c]⟩) (λc=>.bl (decide (c ∈ abc.cps.toList))) True.intro _ _ (by simp only[jh];exact jb (show _<=10 by simpa [Str.length] using hl) qg) ?_ ?_
    ·intro c _ R r
     (try refine AH ?_)
     exact r
    refine vZ ?_
    refine k8 ?_
    refine jK (O6 _ _) ?_
    (try refine AH ?_)
    have e2:Dt.nam (.str z)=z.cps.toList.all λc=>decide (c ∈ abc.cps.toList):=by
     show decide (Nam z)=_
     by_cases c:Nam z
     ·rw[decide_eq_true c]
      exact(zc.mpr λy hy=>decide_eq_true (c.2.2 y hy)).symm
     ·rw[decide_eq_false c]
      symm
      rw[Bool.eq_false_iff]
      intro k
      exact c ⟨by omega,by omega,λy hy=>of_decide_eq_true (zc.mp k y hy)⟩
    rw[e2] at q
    exact q
   ·have b:=of_decide_eq_false b
    (try refine AH ?_)
    exact Q8 (λk=>by have:=k.2.1;omega) q
  ·have a:=of_decide_eq_false a
   (try refine AH ?_)
   exact Q8 (λk=>by have:=k.1;omega) q
 | non=>
  simp only[Dt.w]
  (try refine AH ?_)
  exact q
 | bl b=>
  simp only[Dt.w]
  (try refine AH ?_)
  exact q
 | int i=>
  simp only[Dt.w]
  (try refine AH ?_)
  exact q
 | tup1 z=>
  simp only[Dt.w]
  (try refine AH ?_)
  exact q
 | lst1 z=>
  simp only[Dt.w]
  (try refine AH ?_)
  exact q
 | lstI z=>
  simp only[Dt.w]
  (try refine AH ?_)
  exact q
theorem n3 {x:Dt} (h:x.Fine) (q:Q (.bl x.nam) S):Ev (H0 1 Z9Q [x.w] S) Q:=
 D8 rfl (by simp only[cH,x.below0,je]) (nW h ⟨_,qK rfl,q⟩)
theorem XF {x:Dt} {lo hi:Int} (q:Q (.bl (x.num lo hi)) S):Ev (Z96 [x.w,.int lo,.int hi] S) Q:=by
 cases x with
 | int i=>exact Z2 q
 | _=>
  unfold Z96 Z9r
  refine pI rfl ?_
  simp only[Dt.w]
  (try refine AH ?_)
  exact q
theorem bB {x:Dt} {lo hi:Int} (q:Q (.bl (x.num lo hi)) S):Ev (H0 3 Z96 [x.w,.int lo,.int hi] S) Q:=
 D8 rfl (by simp only[cH,x.below0,W3,je]) (XF ⟨_,qK rfl,q⟩)
theorem AI {x:Dt} (q:Q (.bl (x.num 0 1000002)) S):Ev (H0 1 Z9P [x.w] S) Q:=by
 refine D8 rfl (by simp only[cH,x.below0,je]) ?_
 unfold Z9P Z9c
 refine pI rfl ?_
 (try refine AH ?_)
 refine bB ?_
 (try refine AH ?_)
 exact q
end
inductive Th where|tup (xs:List Dt)|lst (xs:List Dt)|lstT (xs:List Dt)|non|int (i:Int)|str (z:Str)
def Th.w:Th->W
 | .tup xs=>.tup (dtW xs) | .lst xs=>.lst (dtW xs) | .lstT xs=>.lst [.tup (dtW xs)] | .non=>.non | .int i=>.int i | .str z=>.str z
def Th.Fine:Th->Prop
 | .tup xs=>xs.length<=5/\∀ x ∈ xs,x.Fine
 | .lst xs=>xs.length<=5/\∀ x ∈ xs,x.Fine
 | .lstT xs=>xs.length<=5/\∀ x ∈ xs,x.Fine
 | .non=>True | .int i=>SmI i | .str z=>ShS z
def Dt.inn (ts:List Str):Dt->Bool
 | .str z=>decide (z ∈ ts)
 | _=>false
def Th.good (ts:List Str):Th->Bool
 | .tup [a,b,c,d]=>a.num 1 1000 && (b.inn ts && (c.nam && d.num 0 1000002))
 | _=>false
theorem Th.below0:∀ t:Th,W3 0 t.w=true
 | .tup xs=>by simp only[Th.w,W3,AC]
 | .lst xs=>by simp only[Th.w,W3,AC]
 | .lstT xs=>by simp only[Th.w,W3,cH,AC,je]
 | .non=>rfl
 | .int _=>rfl
 | .str _=>rfl
theorem XC {n:Nat} (ts:List Th):cH n (ts.map Th.w)=true:=oA λt=>F7 (jf _) t.below0
theorem E3 {ts:List Str} {xs:List Dt} (h:xs.length ≠ 4):Th.good ts (.tup xs)=false:=by
 match xs,h with
 | [],_=>rfl
 | [_],_=>rfl
 | [_,_],_=>rfl
 | [_,_,_],_=>rfl
 | [_,_,_,_],h=>exact absurd rfl h
 | _ :: _ :: _ :: _ :: _ :: _,_=>rfl
theorem T5K {xs:List Dt} (h:xs.length=4):∃ a b c d,xs=[a,b,c,d]:=by
 match xs,h with
 | [a,b,c,d],_=>exact⟨a,b,c,d,rfl⟩
section
variable {S:Sto} {Q:W->Sto->Prop} {hs:List Ho}
theorem ILf (l:hs.length<=20) (q:Q (.lst (CU (hs.map Ho.name))) S):Ev (H0 1 Z80 [O1 hs] S) Q:=by
 refine D8 rfl (by simp only[cH,yT,je]) ?_
 unfold Z80 Z68
 refine pI rfl ?_
 unfold O1
 (try refine AH ?_)
 refine pY Ho.w (λh=>.str h.name) (by rfl) hs [] (by rw[jh];exact jb (show _<=20 by omega) qg) ?_ ?_
 ·intro h hh R r
  unfold Ho.w
  (try refine AH ?_)
  exact r
 rw[jv]
 refine Z7 (Y:=CU (hs.map Ho.name)) (by unfold CU;rw[zf];rfl) ?_
 exact⟨_,qK (by simp only[W3,UA]),q⟩
theorem BJ {t:Th} (l:hs.length<=20) (f:t.Fine) (q:Q (.bl (t.good (hs.map Ho.name))) S):Ev (Z9B [O1 hs,t.w] S) Q:=by
 unfold Z9B Z8K
 refine pI rfl ?_
 obtain⟨pw,hpw⟩:∃ pw,pw=O1 hs:=⟨_,rfl⟩
 rw[<- hpw]
 cases t with
 | tup xs=>
  have dl:(dtW xs).length=xs.length:=qq _
  simp only[Th.w]
  (try refine AH ?_)
  refine UL (λn4=>?_) (λn4=>?_)
  ·have n4:(xs.length:Int) ≠ 4:=by simpa [dl] using n4
   rw[E3 (λe=>n4 qh)] at q
   (try refine AH ?_)
   exact q
  have n4:(xs.length:Int)=4:=by simpa [dl] using n4
  obtain⟨a,b,c,d,rfl⟩:=T5K (xs:=xs) qh
  have fx:=f.2
  have fc:c.Fine:=fx c (by simp)
  simp only[dtW,jn,zx]
  have q:Q (.bl (a.num 1 1000 && (b.inn (hs.map Ho.name) && (c.nam && d.num 0 1000002)))) S:=q
  (repeat (first|with_reducible refine bB ?_|refine AH ?_))
  refine UL (λx=>?_) (λx=>?_)
  ·have x:a.num 1 1000=false:=by simpa using x
   rw[x] at q
   (try refine AH ?_)
   exact q
  have x:a.num 1 1000=true:=by simpa using x
  rw[x,Bool.true_and] at q
  (try refine AH ?_)
  have no:b.inn (hs.map Ho.name)=false->Q (.bl false) S:=λe=>by
   rw[e] at q
   exact q
  have yes:b.inn (hs.map Ho.name)=true->Q (.bl (c.nam && d.num 0 1000002)) S:=λe=>by
   rw[e] at q
   exact q
  cases b with
  | str z=>
   rw[show(Dt.str z).w=W.str z from rfl]
   (try refine AH ?_)
   rw[hpw]
   refine ILf l ?_
   refine G6 (w:=.bl (!decide (z ∈ hs.map Ho.name))) (by rw[W8 rfl (by simp)];rfl) ?_
   (try refine AH ?_)
   refine UL (λx=>?_) (λx=>?_)
   ·(try refine AH ?_)
    exact no (by simpa [Dt.inn] using x)
   ·have yes:=yes (by simpa [Dt.inn] using x)
    (repeat (first|with_reducible refine n3 fc ?_|with_reducible refine AI ?_|refine AH ?_))
    cases e:c.nam with
    | true=>
     rw[e] at yes
     (repeat (first|with_reducible refine AI ?_|refine AH ?_))
     exact yes
    | false=>
     rw[e] at yes
     (try refine AH ?_)
     exact yes
  | _=>
   simp only[Dt.w]
   (try refine AH ?_)
   exact no rfl
 | _=>
  simp only[Th.w]
  (try refine AH ?_)
  exact q
theorem rF {t:Th} (l:hs.length<=20) (f:t.Fine) (q:Q (.bl (t.good (hs.map Ho.name))) S):Ev (H0 2 Z9B [O1 hs,t.w] S) Q:=
 D8 rfl (by simp only[cH,yT,t.below0,je]) (BJ l f ⟨_,qK rfl,q⟩)
end
def en {α:Type}:Nat->List α->List (Nat × α)
 | _,[]=>[]
 | k,x :: r=>(k,x) :: en (k+1) r
theorem uX5 {α:Type}:∀ (xs:List α) (k:Nat),(en k xs).length=xs.length
 | [],_=>rfl
 | x :: r,k=>by rw[en,qs,qs,uX5 r]
theorem Q9 {α:Type}:∀ {xs:List α} {k:Nat} {p:Nat × α},p ∈ en k xs->p.2 ∈ xs
 | [],_,_,h=>by cases h
 | x :: r,k,p,h=>by
  rcases qo.mp h with rfl|h
  ·exact qw
  ·exact qy _ (Q9 h)
def enP {α:Type} (w:α->W) (p:Nat × α):W:=.tup [.int (p.1:Nat),w p.2]
theorem FJ {α:Type} {w:α->W}:∀ (xs:List α) (k:Nat),tF w k xs=(en k xs).map (enP w)
 | [],_=>rfl
 | x :: r,k=>by
  rw[en,jn,<- FJ r (k+1)]
  rfl
def wZ (ns:List Str):Nat->List Th->Option Nat
 | _,[]=>none
 | k,t :: r=>if t.good ns=true then wZ ns (k+1) r else some k
theorem TX {ns:List Str}:∀ {ts:List Th} {k:Nat},wZ ns k ts=none->∀ t ∈ ts,t.good ns=true
 | [],_,_,_,h=>by cases h
 | t :: r,k,h,x,hx=>by
  rw[wZ] at h
  split at h
  ·rename_i g
   rcases qo.mp hx with rfl|hx
   ·exact g
   ·exact TX h x hx
  ·cases h
def JKi (p:Nat × Th):W:=match p.2 with
 | .tup xs=>.tup (dtW xs++[.str "",.int 0,.int 0,.int (p.1:Nat)])
 | _=>.non
theorem PZ {ns:List Str}:∀ {t:Th},t.good ns=true->∃ a b c d,t = .tup [a,b,c,d]
 | .tup [a,b,c,d],_=>⟨a,b,c,d,rfl⟩
 | .tup [],h=>by cases h
 | .tup [_],h=>by cases h
 | .tup [_,_],h=>by cases h
 | .tup [_,_,_],h=>by cases h
 | .tup (_ :: _ :: _ :: _ :: _ :: _),h=>by cases h
 | .lst _,h=>by cases h
 | .lstT _,h=>by cases h
 | .non,h=>by cases h
 | .int _,h=>by cases h
 | .str _,h=>by cases h
def ZP (i:Int):W:=.exc "NoFirst" ["at"] [.int i]
section
variable {S:Sto} {Q:W->Sto->Prop} {E:W->Sto->Prop} {hs:List Ho}
theorem SW {x:W} {ts:List Th} (l:hs.length<=20) (hx:oV S x=some (ts.map Th.w)) (isi:iQ S [x,.tup [.ty "list",.ty "tuple"]]=some (.bl true)) (f:∀ t ∈ ts,t.Fine) (lt:ts.length<=40) (q:wZ (hs.map Ho.name) 0 ts=none->Q (.lst ((en 0 ts).map JKi)) S) (qe:∀ i:Nat,wZ (hs.map Ho.name) 0 ts=some i->E (ZP i) S):Eo (Z9C [O1 hs,x] S) Q E:=by
 obtain⟨pw,hpw⟩:∃ pw,pw=O1 hs:=⟨_,rfl⟩
 rw[<- hpw]
 unfold Z9C Z8u
 refine xC rfl ?_
 refine MN ?_
 refine M4 ?_
 (repeat (first|((with_reducible refine jK isi ?_))|refine AH ?_))
 refine Ev.eo ?_
 (try refine AH ?_)
 refine C1 ?_
 refine MN ?_
 refine OHh ?_
 (try refine AH ?_)
 refine⟨_,_,rfl,hx,?_⟩
 have e:=aQ (w:=Th.w) ts 0
 refine O7 (λys L S'=>S'=S/\∃ (done rest:List Th) (a b:Option W),ts=done++rest/\ys=tF Th.w done.length rest/\wZ (hs.map Ho.name) 0 ts=wZ (hs.map Ho.name) done.length rest/\L=[some pw,some x,a,b]) (λ_ _=>False) ?_ ?_ (λ_ _ z=>z.elim) _ _ _ ⟨rfl,[],ts,_,_,rfl,e,rfl,rfl⟩
 ·rintro y ys L S' ⟨rfl,done,rest,a,b,e1,e2,ef,rfl⟩
  refine⟨hx,?_⟩
  obtain⟨t,rest,rfl⟩:∃ t r',rest=t :: r':=by
   cases rest with
   | nil=>cases e2
   | cons t r=>exact⟨t,r,rfl⟩
  cases e2
  have ht:t ∈ ts:=by rw[e1];simp
  rw[wZ] at ef
  obtain⟨tw,htw⟩:∃ tw,tw=t.w:=⟨_,rfl⟩
  rw[<- htw]
  (try refine AH ?_)
  refine M4 ?_
  (try refine AH ?_)
  rw[hpw,htw]
  refine rF l (f t ht) ?_
  (try refine AH ?_)
  refine UL (λg=>?_) (λg=>?_)
  ·have g:t.good (hs.map Ho.name)=false:=by simpa using g
   rw[g,if_neg qg] at ef
   refine SC ?_
   (try refine AH ?_)
   exact⟨rfl,qe _ ef⟩
  ·have g:t.good (hs.map Ho.name)=true:=by simpa using g
   rw[g,if_pos rfl] at ef
   refine Ev.eo ?_
   (try refine AH ?_)
   exact⟨rfl,done++[t],rest,_,_,by rw[e1];simp,by rw[qr];rfl,by rw[ef,qr];rfl,rfl⟩
 ·rintro L S' ⟨rfl,done,rest,a,b,e1,e2,ef,rfl⟩
  refine⟨hx,?_⟩
  cases rest with
  | cons h r=>cases e2
  | nil=>
  have good:=TX ef
  have q:=q ef
  refine C1 ?_
  refine Ev.eo ?_
  (try refine AH ?_)
  refine⟨_,_,rfl,hx,?_⟩
  rw[e,FJ]
  refine pY (enP Th.w) JKi hx (en 0 ts) [] (by rw[jh,uX5];exact jb (show _<=40 by omega) qg) ?_ ?_
  ·intro p hp R r
   obtain⟨a,b,c,d,e4⟩:=PZ (good _ (Q9 hp))
   unfold JKi at r
   rw[e4] at r
   unfold enP
   rw[e4]
   simp only[Th.w,dtW,jn,zx] at r ⊢
   (try refine AH ?_)
   exact r
  rw[jv]
  (try refine AH ?_)
  exact q
end
structure F4 where
 t:Int
 to:Str
 kind:Str
 v:Int
def F4.w (f:F4):W:=.tup [.int f.t,.str f.to,.str f.kind,.int f.v]
structure F4.Ok (hs:List Ho) (f:F4):Prop where
 t0:1<=f.t
 t1:f.t<=1000
 to:f.to ∈ hs.map Ho.name
 kind:Nam f.kind
 v:Wt f.v
def F4.lt (p:F4 × Nat):Lt8:=⟨p.1.t,p.1.to,p.1.kind,p.1.v, "",0,0,(p.2:Nat)⟩
def x8 (fs:List F4):List Lt8:=fs.zipIdx.map F4.lt
def P7 (hs:List Ho) (z:Str):List Int:=((hs.find? λh=>decide (h.name=z)).map Ho.cells).getD []
def Rn.start (hs:List Ho) (fs:List F4):Rn:=⟨srt (x8 fs),P7 hs,[]⟩
theorem vH (fs:List F4):(x8 fs).length=fs.length:=by
 unfold x8
 rw[qq,List.length_zipIdx]
theorem TWO {α:Type} {xs:List α} {p:α × Nat} (h:p ∈ xs.zipIdx):p.1 ∈ xs/\p.2 < xs.length:=by
 obtain⟨x,i⟩:=p
 have:=List.mem_zipIdx h
 simp only[jf,yj,Nat.sub_zero,true_and] at this
 exact⟨by rw[this.2];exact zg _,this.1⟩
section
variable {S:Sto} {hs:List Ho} {stop:Int} {fs:List F4} {Q:W->Sto->Prop}
theorem kU (net:UM hs) {h:Ho} (hh:h ∈ hs):P7 hs h.name=h.cells:=by
 obtain⟨g,hg⟩:∃ g,hs.find? (λk=>decide (k.name=h.name))=some g:=by
  rw[<- Option.isSome_iff_exists,List.find?_isSome]
  exact⟨h,hh,decide_eq_true rfl⟩
 have e:g.name=h.name:=of_decide_eq_true (List.find?_some (p:=λk:Ho=>decide (k.name=h.name)) hg)
 have m:=List.mem_of_find?_eq_some hg
 obtain⟨i1,l1,e1⟩:=yg m
 obtain⟨i2,l2,e2⟩:=yg hh
 have:i1=i2:=HU net.nd l1 l2 (by rw[e1,e2,e])
 subst this
 unfold P7
 rw[hg]
 show g.cells=h.cells
 rw[<- e1,<- e2]
theorem rY (net:UM hs):YL hs (P7 hs)=hs.map λh=>(.inr h.name,.tup (DX h.cells)):=
 yp λh hh=>by
  show((Sum.inr h.name:Key),W.tup (DX (P7 hs h.name)))=_
  rw[kU net hh]
theorem tU (ok:∀ f ∈ fs,f.Ok hs) (few:fs.length<=20):∀ x ∈ x8 fs,Lg hs x:=by
 intro x hx
 obtain⟨p,hp,rfl⟩:=jc.mp hx
 obtain⟨m,l⟩:=TWO hp
 have f:=ok p.1 m
 exact⟨f.v,f.to,f.kind,f.t0,yf f.t1 qg,.inl rfl,⟨Int.le_refl _,by show(0:Int)<=1100;decide⟩,⟨Int.le_refl _,by show(0:Int)<=10000;decide⟩,⟨Int.natCast_nonneg _,by show((p.2:Nat):Int)<=10000;omega⟩,by show(0:Int) < p.1.t;have:=f.t0;omega⟩
theorem nI (net:UM hs) (ok:∀ f ∈ fs,f.Ok hs) (few:fs.length<=20):(Rn.start hs fs).Ok hs:=by
 refine⟨λx hx=>tU ok few x ((HE _).mem_iff.mp hx),WB _,(λ_ z=>nomatch z),?_,λh hh=>?_⟩
 ·show(srt (x8 fs)).length<=_
  rw[RR,vH]
  omega
 ·show Cel _ (P7 hs h.name)
  rw[kU net hh]
  exact⟨rfl,(net.ok h hh).wt⟩
end
def F4.th (f:F4):Th:=.tup [.int f.t,.str f.to,.str f.kind,.int f.v]
theorem F4.good {hs:List Ho} {f:F4} (ok:f.Ok hs):f.th.good (hs.map Ho.name)=true:=by
 have v:=ok.v
 show((decide (1<=f.t) && decide (f.t<=1000)) && (decide (f.to ∈ hs.map Ho.name) && (decide (Nam f.kind) && (decide (0<=f.v) && decide (f.v<=1000002)))))=true
 rw[decide_eq_true ok.t0,decide_eq_true ok.t1,decide_eq_true ok.to,decide_eq_true ok.kind,decide_eq_true v.1,decide_eq_true (show f.v<=1000002 by have:=v.2;omega)]
 rfl
theorem B1x:∀ (fs:List F4) (k:Nat),(en k (fs.map F4.th)).map JKi=(fs.zipIdx k).map λp=>(F4.lt p).w
 | [],_=>rfl
 | f :: r,k=>by
  rw[jn,en,jn,List.zipIdx_cons,jn,B1x r (k+1)]
  rfl
theorem BG {ns:List Str}:∀ {ts:List Th} {k:Nat},(∀ t ∈ ts,t.good ns=true)->wZ ns k ts=none
 | [],_,_=>rfl
 | t :: r,k,h=>by
  rw[wZ,if_pos (h t qw)]
  exact BG λx hx=>h x (qy _ hx)
theorem F4.fine {hs:List Ho} {f:F4} (net:UM hs) (ok:f.Ok hs):f.th.Fine:=by
 have v:=ok.v
 have nt:=xV net ok.to
 have nk:=ok.kind
 have t0:=ok.t0
 have t1:=ok.t1
 refine⟨show 4<=5 by decide,λx hx=>?_⟩
 simp only[qo,qu,or_false] at hx
 rcases hx with rfl|rfl|rfl|rfl
 ·show f.t.natAbs < _
  omega
 ·exact⟨nt.strOk,by have:=nt.2.1;omega⟩
 ·exact⟨nk.strOk,by have:=nk.2.1;omega⟩
 ·show f.v.natAbs < _
  have:=v.1
  have:=v.2
  omega
section
variable {S:Sto} {hs:List Ho} {stop:Int} {fs:List F4} {x u:W} {ts:List Th} {Q:W->Sto->Prop} {E:W->Sto->Prop}
theorem o7 {S:Sto} {Q:W->Sto->Prop} (net:UM hs) (ok:∀ f ∈ fs,f.Ok hs) (few:fs.length<=20) (hx:oV S x=some (fs.map F4.w)) (isi:iQ S [x,.tup [.ty "list",.ty "tuple"]]=some (.bl true)) (q:Q (.lst (sP (x8 fs))) S):Ev (NI 2 Z9C [O1 hs,x] S) Q:=by
 have n6:=net.n6
 have g:∀ t ∈ fs.map F4.th,t.good (hs.map Ho.name)=true:=λt ht=>by
  obtain⟨f,hf,rfl⟩:=jc.mp ht
  exact F4.good (ok f hf)
 have nb:=BG (k:=0) g
 refine j5u (VQ rfl (SW (ts:=fs.map F4.th) qh (by rw[hx,zf];rfl) isi (λt ht=>?_) (by rw[qq];omega) (λ_=>?_) λi e=>?_))
 ·obtain⟨f,hf,rfl⟩:=jc.mp ht
  exact F4.fine net (ok f hf)
 ·rw[B1x]
  have e:(fs.zipIdx 0).map (λp=>(F4.lt p).w)=sP (x8 fs):=by
   unfold sP x8
   rw[zf]
   rfl
  rw[e]
  exact q
 ·rw[nb] at e
  cases e
theorem uY {e:W} (fr:∀ {E':W->Sto->Prop},E' e (S++[Ob.ins "Plain" []])->Eo (NI 2 Z9C [O1 hs,x] (S++[Ob.ins "Plain" []])) (λ_ _=>False) E') (q:E e (S++[.ins "Plain" []])):Eo (G4 "Plain" 4 Z9Z [O1 hs,x,u] S) Q E:=by
 refine A0 rfl ?_
 unfold Z9Z OA
 refine xC rfl ?_
 refine MN (MEQ (IL (ETi ?_)))
 (try refine AH ?_)
 exact(fr q).imp (λ_ _ z=>z.elim) λ_ _ z=>z
theorem OR (fr:∀ {Q':W->Sto->Prop},Q' (.lst (sP (x8 fs))) (S++[Ob.ins "Plain" []])->Ev (NI 2 Z9C [O1 hs,x] (S++[Ob.ins "Plain" []])) Q') (few:fs.length<=20) (iu:∀ {S:Sto} {Q':W->Sto->Prop},Q' (.bl false) S->Ev (H0 1 Z9H [u] S) Q')
  (q:E (.exc "NoChoice" ["word"] [.str "until"]) (S++[.ins "Plain" [("left",.lst (sP (srt (x8 fs))))]])):Eo (G4 "Plain" 4 Z9Z [O1 hs,x,u] S) Q E:=by
 refine A0 rfl ?_
 unfold Z9Z OA
 refine xC rfl ?_
 refine MN (Ev.eo (Ev.imp (Q:=λoc S'=>oc = .nx [some (.ref S.length),some (O1 hs),some x,some u,none]/\S'=S++[.ins "Plain" [("left",.lst (sP (srt (x8 fs))))]]) ?_ ?_))
 ·(try refine AH ?_)
  refine B9 ?_
  (try refine AH ?_)
  refine fr ?_
  refine⟨_,dN (ls:=x8 fs) rfl (by rw[vH];omega),?_⟩
  (try refine AH ?_)
  refine AJ (A7 dE (show(0:Nat) < 1000 by decide)) ?_
  rw[ZK]
  exact⟨rfl,rfl⟩
 rintro _ S' ⟨rfl,rfl⟩
 refine C1 ?_
 refine MN (M4 ?_)
 (repeat (first|with_reducible refine iu ?_|refine AH ?_))
 refine SC ?_
 (try refine AH ?_)
 exact⟨rfl,q⟩
theorem IQ (net:UM hs) (fr:∀ {Q':W->Sto->Prop},Q' (.lst (sP (x8 fs))) (S++[Ob.ins "Plain" []])->Ev (NI 2 Z9C [O1 hs,x] (S++[Ob.ins "Plain" []])) Q') (few:fs.length<=20) (s0:1<=stop) (s1:stop<=1000) (q:Q (.ref S.length) (S++[.ins "Plain" (DN S.length hs stop (Rn.start hs fs)),.dk (YL hs (P7 hs)),.lst [],.lst []])):Ev (zV "Plain" 4 Z9Z [O1 hs,x,.int stop] S) Q:=by
 have n6:=net.n6
 refine AO rfl ?_
 unfold Z9Z OA
 refine pI rfl ?_
 (try refine AH ?_)
 refine B9 ?_
 (try refine AH ?_)
 refine fr ?_
 refine⟨_,dN (ls:=x8 fs) rfl (by rw[vH];omega),?_⟩
 (try refine AH ?_)
 refine AJ (A7 dE (show(0:Nat) < 1000 by decide)) ?_
 rw[ZK]
 (try refine AH ?_)
 have iu:∀ {S:Sto} {Q':W->Sto->Prop},Q' (.bl true) S->Ev (H0 1 Z9H [.int stop] S) Q':=by
  intro S Q' q'
  refine D8 rfl rfl ?_
  unfold Z9H Z8T
  refine pI rfl ?_
  (try refine AH ?_)
  rw[decide_eq_true s0]
  (try refine AH ?_)
  rw[decide_eq_true s1]
  exact q'
 refine iu ?_
 (try refine AH ?_)
 refine AJ (A7 dE (show(1:Nat) < 1000 by decide)) ?_
 rw[ZK]
 (try refine AH ?_)
 refine AJ (A7 dE (show(2:Nat) < 1000 by decide)) ?_
 rw[ZK]
 (try refine AH ?_)
 refine j0L ?_
 unfold O1
 (try refine AH ?_)
 refine NS Ho.w (λh=>(.inr h.name,.tup (DX h.cells))) (by rfl) _ _ ?_ ?_ ?_
 ·simp only[jh]
  exact jb (show _<=6 by omega) qg
 ·intro h hh R q'
  unfold Ho.w
  (try refine AH ?_)
  exact q' _ rfl
 rw[QC (acc:=[]) (f:=λh:Ho=>((Sum.inr h.name:Key),W.tup (DX h.cells))) (by
  have:=net.nd
  refine Qa.mpr (List.Pairwise.imp ?_ (Qa.mp this))
  intro a b ne c
  exact ne (Sum.inr.inj c)) (λ_ _ m=>nomatch m),jv,<- rY net]
 refine f0j ?_
 rw[PX,List.singleton_append]
 (try refine AH ?_)
 refine AJ (A7 dE (show(3:Nat) < 1000 by decide)) ?_
 rw[ZK,qr]
 (try refine AH ?_)
 rw[PX,zh,List.singleton_append]
 refine AJ (A7 dE (show(4:Nat) < 1000 by decide)) ?_
 rw[ZK,qr]
 (try refine AH ?_)
 rw[PX,zh,zh,List.singleton_append]
 refine AJ (A7 dE (show(5:Nat) < 1000 by decide)) ?_
 rw[ZK,qr]
 (try refine AH ?_)
 exact⟨rfl,q⟩
end
def DS (n:Nat) (S:Sto):Prop:=∃ R,Dw n R S/\R.all (oB (R.length+2))=true
def Past2 (S S':Sto):Prop:=S'.length=S.length/\∀ i,2<=i->S'[i]? = S[i]?
section
variable {S S':Sto} {n m:Nat}
theorem DS.all (h:DS n S):S.all (oB S.length)=true:=by
 obtain⟨R,h,hr⟩:=h
 obtain⟨l,a⟩:=h.fine hr
 rw[l]
 exact a
theorem DS.two (h:DS n S):2<=S.length:=by
 obtain⟨R,h,hr⟩:=h
 rw[h.len]
 omega
theorem DS.mono (h:DS n S) (le:m<=n):DS m S:=by
 obtain⟨R,h,hr⟩:=h
 exact⟨R,h.mono le,hr⟩
theorem DS.keep (h:DS n S) (k0:S'[0]? = S[0]?) (k1:S'[1]? = S[1]?) (ha:S'.all (oB S'.length)=true):DS n S':=by
 obtain⟨R,⟨gs,r,t,sd,cs,e,z⟩,hr⟩:=h
 have e0:S'[0]? = some (.lst (gs.map .int)):=by rw[k0,e];rfl
 have e1:S'[1]? = some (.dk [(.inr "great",.ref 0),(.inr "rest",.int r),(.inr "turn",.int t),(.inr "seed",.int sd),(.inr "cells",.lst (cs.map .int))]):=by rw[k1,e];rfl
 match S',e0,e1,ha with
 | a :: b :: R',e0,e1,ha=>
  have h0:some a=_:=e0
  have h1:some b=_:=e1
  injection h0 with h0
  injection h1 with h1
  subst h0
  subst h1
  refine⟨R',⟨gs,r,t,sd,cs,rfl,z⟩,?_⟩
  rw[ze,ze,js,js] at ha
  exact ha.2.2
theorem DS.push {o:Ob} (h:DS n S) (ho:oB (S.length+1) o=true):DS n (S++[o]):=by
 have two:=h.two
 refine h.keep (jl qh) (jl qh) ?_
 rw[qr,zq,List.length_singleton,oQ (Nat.le_succ _) h.all,ze,Qc,ho]
 rfl
theorem SWp {S:Sto} {i n:Nat} {o:Ob} (h:S.all (oB n)=true) (ho:oB n o=true):(S.set i o).all (oB n)=true:=by
 rw[zc] at h ⊢
 intro x hx
 rcases yd hx with h'|h'
 ·exact h x h'
 ·rw[h']
  exact ho
theorem DS.set {i:Nat} {o:Ob} (h:DS n S) (hi:2<=i) (ho:oB S.length o=true):DS n (S.set i o):=by
 refine h.keep (jm qh) (jm qh) ?_
 rw[jq]
 exact SWp h.all ho
theorem mW {R:Sto} (h:Dw n R S) (h':Dw m R S'):Past2 S S':=⟨by rw[h.len,h'.len],λi hi=>by
 obtain⟨k,rfl⟩:∃ k,i=k+2:=⟨i - 2,by omega⟩
 rw[h.get,h'.get]⟩
theorem SF {k:Int} {Q:W->Sto->Prop} (h:DS (n+1) S) (h0:0 < k) (h1:k < 1073741824) (q:∀ (v:Int) S',0<=v->v < k->DS n S'->Past2 S S'->Q (.int v) S'):Ev (mN 2 Z99 [.ref 1,.int k] S) Q:=by
 obtain⟨R,h,hr⟩:=h
 exact aX h hr h0 h1 λv S' v0 v1 h'=>q v S' v0 v1 ⟨R,h',hr⟩ (mW h h')
theorem A3 {xs:List W} {Q:W->Sto->Prop} (h:DS (n+1) S) (hx:xs ≠ []) (hl:xs.length < 1000000) (hb:∀ x ∈ xs,W3 0 x=true) (q:∀ (x:W) S',x ∈ xs->DS n S'->Past2 S S'->Q x S'):Ev (mN 2 Z90 [.ref 1,.lst xs] S) Q:=by
 obtain⟨R,h,hr⟩:=h
 exact jC h hr hx hl hb λv S' hv h'=>q v S' hv ⟨R,h',hr⟩ (mW h h')
end
def ups (a m:Nat):List Nat:=(List.range (m - a)).map (a + ·)
theorem c6B {a m:Nat} (h:m<=a):ups a m=[]:=by
 unfold ups
 rw[show m - a=0 by omega]
 rfl
theorem CM {a m:Nat} (h:a < m):ups a m=a :: ups (a+1) m:=by
 unfold ups
 rw[show m - a=(m - (a+1))+1 by omega,List.range_succ_eq_map,jn,zf]
 congr 1
 refine yp λi _=>?_
 show a+(i+1)=a+1+i
 omega
theorem MA (a m:Nat):(lS (a:Int) (m:Int)).items=(ups a m).map λi=>W.int (i:Nat):=by
 show(List.range ((m:Int) - (a:Int)).toNat).map (λ(i:Nat)=>W.int ((a:Int)+(i:Int)))=_
 unfold ups
 rw[show((m:Int) - (a:Int)).toNat=m - a by omega,zf]
 refine yp λi _=>?_
 show W.int ((a:Int)+(i:Int))=W.int ((a+i:Nat):Int)
 congr 1
theorem P6 {S:Sto} {i:Nat} {o:Ob} (e:S[i]? = some o):i < S.length:=(jk.mp e).1
theorem bX {m:Nat} {ws:List W} (h:cH m ws=true):oB m (.lst ws)=true:=h
section
variable {S S':Sto} {n:Nat} {Q:W->Sto->Prop}
theorem K0 (h:DS (n+3) S) (q:∀ (v:Int) S',0<=v->v < 1000003->DS n S'->Past2 S S'->Q (.int v) S'):Ev (mN 1 Z9E [.ref 1] S) Q:=by
 obtain⟨R,h,hr⟩:=h
 exact B1 h hr λv S' v0 v1 h'=>q v S' v0 v1 ⟨R,h',hr⟩ (mW h h')
theorem Past2.trans {S'':Sto} (a:Past2 S S') (b:Past2 S' S''):Past2 S S'':=⟨b.1.trans a.1,λi hi=>(b.2 i hi).trans (a.2 i hi)⟩
end
def ZM5 (t:Int):Str:=Str.ofString (toString t)
theorem SQ:∀ n:Fin 1001,PyData.strOk (ZM5 ((n.1:Nat):Int))=true/\(ZM5 ((n.1:Nat):Int)).length<=10:=by decide +kernel
theorem uOE {t:Int} (h0:0<=t) (h1:t<=1000):ShS (ZM5 t):=by
 have:=SQ ⟨t.toNat,by omega⟩
 rwa [show(((⟨t.toNat,by omega⟩:Fin 1001).1:Nat):Int)=t from Int.toNat_of_nonneg h0] at this
def bP (f:F4):List Th:=[.tup [.int f.t,.str f.to,.str f.kind],.tup [.int f.t,.str f.to,.str f.kind,.int f.v,.int 1],.lst [.int f.t,.str f.to,.str f.kind,.int f.v],.non,.int 5,.str "",.tup [],
 .tup [.int 0,.str f.to,.str f.kind,.int f.v],.tup [.int 1001,.str f.to,.str f.kind,.int f.v],.tup [.bl true,.str f.to,.str f.kind,.int f.v],.tup [.str (ZM5 f.t),.str f.to,.str f.kind,.int f.v],.tup [.int f.t,.str "zzzzzzz",.str f.kind,.int f.v],
 .tup [.int f.t,.non,.str f.kind,.int f.v],.tup [.int f.t,.lst1 f.to,.str f.kind,.int f.v],.tup [.int f.t,.str f.to,.str "",.int f.v],.tup [.int f.t,.str f.to,.str "abcdefg",.int f.v],.tup [.int f.t,.str f.to,.str "Ab",.int f.v],.tup [.int f.t,.str f.to,.int 3,.int f.v],
 .tup [.int f.t,.str f.to,.str f.kind,.int (-1)],.tup [.int f.t,.str f.to,.str f.kind,.int 1000003],.tup [.int f.t,.str f.to,.str f.kind,.bl true],.tup [.int f.t,.str f.to,.str f.kind,.non],.tup [.int f.t,.str f.to,.str "a1",.int f.v],.tup [.int (-f.t),.str f.to,.str f.kind,.int f.v]]
section
variable {S:Sto} {n:Nat} {hs:List Ho} {f:F4} {Q:W->Sto->Prop}
theorem K6 {ns:List Str} {a b c d:Dt} (h:a.num 1 1000=false \/ b.inn ns=false \/ c.nam=false \/ d.num 0 1000002=false):(Th.tup [a,b,c,d]).good ns=false:=by
 show(a.num 1 1000 && (b.inn ns && (c.nam && d.num 0 1000002)))=false
 rcases h with h|h|h|h <;> rw[h]
 ·rfl
 ·rw[Bool.false_and,Qd]
 ·rw[Bool.false_and,Qd,Qd]
 ·rw[Qd,Qd,Qd]
theorem mT (net:UM hs) (ok:f.Ok hs):∀ t ∈ bP f,t.good (hs.map Ho.name)=false:=by
 have zz:(Dt.str "zzzzzzz").inn (hs.map Ho.name)=false:=decide_eq_false λh=>by
  have:=(xV net h).2.1
  exact absurd this qf
 have t0:=ok.t0
 intro t ht
 simp only[bP,qo,qu,or_false] at ht
 rcases ht with rfl|rfl|rfl|rfl|rfl|rfl|rfl|rfl|rfl|rfl|rfl|rfl|rfl|rfl|rfl|rfl|rfl|rfl|rfl|rfl|rfl|rfl|rfl|rfl
 ·rfl
 ·rfl
 ·rfl
 ·rfl
 ·rfl
 ·rfl
 ·rfl
 ·exact K6 (.inl rfl)
 ·exact K6 (.inl rfl)
 ·exact K6 (.inl rfl)
 ·exact K6 (.inl rfl)
 ·exact K6 (.inr (.inl zz))
 ·exact K6 (.inr (.inl rfl))
 ·exact K6 (.inr (.inl rfl))
 ·exact K6 (.inr (.inr (.inl qf)))
 ·exact K6 (.inr (.inr (.inl qf)))
 ·exact K6 (.inr (.inr (.inl qf)))
 ·exact K6 (.inr (.inr (.inl rfl)))
 ·exact K6 (.inr (.inr (.inr rfl)))
 ·exact K6 (.inr (.inr (.inr rfl)))
 ·exact K6 (.inr (.inr (.inr rfl)))
 ·exact K6 (.inr (.inr (.inr rfl)))
 ·exact K6 (.inr (.inr (.inl qf)))
 ·refine K6 (.inl ?_)
  show(decide ((1:Int) <= -f.t) && decide (-f.t<=1000))=false
  rw[decide_eq_false qh]
  rfl
theorem sQ (net:UM hs) (ok:f.Ok hs):∀ t ∈ bP f,t.Fine:=by
 have v:=ok.v
 have v0:=v.1
 have v1:=v.2
 have nt:=xV net ok.to
 have nk:=ok.kind
 have t0:=ok.t0
 have t1:=ok.t1
 have ft:(Dt.int f.t).Fine:=show f.t.natAbs < _ by omega
 have fm:(Dt.int (-f.t)).Fine:=show(-f.t).natAbs < _ by omega
 have fo:(Dt.str f.to).Fine:=⟨nt.strOk,by have:=nt.2.1;omega⟩
 have fl:(Dt.lst1 f.to).Fine:=⟨nt.strOk,by have:=nt.2.1;omega⟩
 have fk:(Dt.str f.kind).Fine:=⟨nk.strOk,by have:=nk.2.1;omega⟩
 have fv:(Dt.int f.v).Fine:=show f.v.natAbs < _ by omega
 have fd:(Dt.str (ZM5 f.t)).Fine:=uOE qh t1
 have f0:(Dt.int 0).Fine:=show SmI 0 by unfold SmI;decide +kernel
 have f1:(Dt.int 1).Fine:=show SmI 1 by unfold SmI;decide +kernel
 have f3:(Dt.int 3).Fine:=show SmI 3 by unfold SmI;decide +kernel
 have f9:(Dt.int (-1)).Fine:=show SmI (-1) by unfold SmI;decide +kernel
 have fM:(Dt.int 1000003).Fine:=show SmI 1000003 by unfold SmI;decide +kernel
 have fN:(Dt.int 1001).Fine:=show SmI 1001 by unfold SmI;decide +kernel
 have sh:∀ z:Str,PyData.strOk z=true->z.length<=10->(Dt.str z).Fine:=λz h1 h2=>⟨h1,h2⟩
 have s0:=sh "" qf qf
 have s1:=sh "zzzzzzz" qf qf
 have s2:=sh "abcdefg" qf qf
 have s3:=sh "Ab" qf qf
 have s4:=sh "a1" qf qf
 have tup:∀ xs:List Dt,xs.length<=5->(∀ x ∈ xs,x.Fine)->(Th.tup xs).Fine:=λxs h1 h2=>⟨h1,h2⟩
 have four:∀ a b c d:Dt,a.Fine->b.Fine->c.Fine->d.Fine->(Th.tup [a,b,c,d]).Fine:=λa b c d ha hb hc hd=>tup _ (show 4<=5 by decide) λx hx=>by
  simp only[qo,qu,or_false] at hx
  rcases hx with rfl|rfl|rfl|rfl <;> assumption
 intro t ht
 simp only[bP,qo,qu,or_false] at ht
 rcases ht with rfl|rfl|rfl|rfl|rfl|rfl|rfl|rfl|rfl|rfl|rfl|rfl|rfl|rfl|rfl|rfl|rfl|rfl|rfl|rfl|rfl|rfl|rfl|rfl
 ·refine tup _ (show 3<=5 by decide) λx hx=>?_
  simp only[qo,qu,or_false] at hx
  rcases hx with rfl|rfl|rfl <;> assumption
 ·refine tup _ (show 5<=5 by decide) λx hx=>?_
  simp only[qo,qu,or_false] at hx
  rcases hx with rfl|rfl|rfl|rfl|rfl <;> assumption
 ·refine⟨show 4<=5 by decide,λx hx=>?_⟩
  simp only[qo,qu,or_false] at hx
  rcases hx with rfl|rfl|rfl|rfl <;> assumption
 ·exact True.intro
 ·show SmI 5
  unfold SmI
  decide +kernel
 ·exact s0
 ·exact tup _ (jf _) λx hx=>by cases hx
 all_goals first|exact four _ _ _ _ (by assumption) (by assumption) (by assumption) (by assumption)|exact four _ _ _ _ True.intro (by assumption) (by assumption) (by assumption)|exact four _ _ _ _ (by assumption) True.intro (by assumption) (by assumption)|exact four _ _ _ _ (by assumption) (by assumption) (by assumption) True.intro
theorem fL (ok:f.Ok hs) (h:DS (n+1) S) (q:∀ t S',t ∈ bP f->DS n S'->Past2 S S'->Q t.w S'):Ev (AT 2 Z9D [.ref 1,f.w] S) Q:=by
 refine M9 rfl ?_
 unfold Z9D Z8I
 refine pI rfl ?_
 unfold F4.w
 have sl:slW S (.tup [.int f.t,.str f.to,.str f.kind,.int f.v]) none (some 3)=some (.tup [.int f.t,.str f.to,.str f.kind]):=rfl
 have ad:MY S (.tup [.int f.t,.str f.to,.str f.kind,.int f.v]) (.tup [.int 1])=some (.tup [.int f.t,.str f.to,.str f.kind,.int f.v,.int 1]):=rfl
 have t0:=ok.t0
 have t1:=ok.t1
 have sw:(λ_:Sto=>bGV) S [.int f.t]=some (.str (ZM5 f.t)):=if_pos (by
  by_cases z:f.t.natAbs=0
  ·rw[z]
   decide
  ·exact jz ((Nat.log2_lt z).mpr (show f.t.natAbs < 2 ^ 10 by omega)) qg)
 have ne:NLp (.int f.t)=some (.int (-f.t)):=rfl
 (repeat (first|(with_reducible refine⟨_,sl,?_⟩)|(with_reducible refine G6 ad ?_)|(with_reducible refine jK sw ?_)|(with_reducible refine MT (by simp only[qs,jh,qr];decide) ?_)|(with_reducible refine A0k ?_)|refine AH ?_))
 refine A3 (xs:=(bP f).map Th.w) h (by simp [bP]) (by simp [bP]) (λx hx=>?_) λw S' hw d p=>?_
 ·obtain⟨t,_,rfl⟩:=jc.mp hx
  exact t.below0
 ·obtain⟨t,ht,rfl⟩:=jc.mp hw
  (try refine AH ?_)
  exact q t S' ht d p
end
section
variable {S:Sto} {Q:W->Sto->Prop} {w:W} {i:Int} {z:Str}
theorem KPR (a b:Bool):PyData.eqv (.bool a) (.bool b)=decide (a=b):=by
 cases a <;> cases b <;> simp [PyData.eqv]
theorem ZS (a b c d:Bool):ZG S (.lst [.bl a,.bl b,.bl c,.bl d]) [.bl true]=some (.int (([a,b,c,d].countP λy=>decide (y=true):Nat):Int)):=by
 show some (W.int (([a,b,c,d].countP λy=>PyData.eqv (.bool y) (.bool true):Nat):Int))=_
 simp only[KPR]
theorem PFe (q:Q .non S):Ev (IH hI .non S) Q:=by
 unfold hI
 refine V5 ?_
 (try refine AH ?_)
 exact q
theorem N2 {x:W} {r:W} (h:ZG S x [.bl true]=some r) (q:Q r S):Ev (RY x [.bl true] S) Q:=by
 show Ev (gL (ZG S x [.bl true]) S) Q
 rw[h]
 exact q
theorem OX (q:Q (.tup [.str "first",.int i]) S):Ev (IH hI (.exc "NoFirst" ["at"] [.int i]) S) Q:=by
 unfold hI
 refine V5 ?_
 have c1:ZG S (.lst [.bl true,.bl false,.bl false,.bl false]) [.bl true]=some (.int 1):=ZS true false false false
 (repeat (first|(with_reducible refine N2 c1 ?_)|(with_reducible refine H9 ?_)|refine uT ?_))
 exact q
theorem uO (q:Q (.tup [.str "choice",.str z]) S):Ev (IH hI (.exc "NoChoice" ["word"] [.str z]) S) Q:=by
 unfold hI
 refine V5 ?_
 have c1:ZG S (.lst [.bl false,.bl true,.bl false,.bl false]) [.bl true]=some (.int 1):=ZS false true false false
 (repeat (first|(with_reducible refine N2 c1 ?_)|(with_reducible refine H9 ?_)|refine uT ?_))
 exact q
theorem i5y (q:Q (.tup [.str "house",w]) S):Ev (IH hI (.exc "NoHouse" ["name"] [w]) S) Q:=by
 unfold hI
 refine V5 ?_
 have c1:ZG S (.lst [.bl false,.bl false,.bl true,.bl false]) [.bl true]=some (.int 1):=ZS false false true false
 (repeat (first|(with_reducible refine N2 c1 ?_)|(with_reducible refine H9 ?_)|refine uT ?_))
 exact q
theorem u4 (q:Q (.tup [.str "many",.int i]) S):Ev (IH hI (.exc "TooMany" ["most"] [.int i]) S) Q:=by
 unfold hI
 refine V5 ?_
 have c1:ZG S (.lst [.bl false,.bl false,.bl false,.bl true]) [.bl true]=some (.int 1):=ZS false false false true
 (repeat (first|(with_reducible refine N2 c1 ?_)|(with_reducible refine H9 ?_)|refine uT ?_))
 exact q
end
theorem FI {S:Sto} {p i:Nat} {xs:List W} {v:W} (e:S[p]? = some (.lst xs)) (h:i < xs.length):IE (.ref p) (.int (i:Nat)) v S=some (.ok (),S.set p (.lst (xs.set i v))):=by
 have n:ixN xs.length ((i:Nat):Int)=some i:=by
  unfold ixN
  rw[if_pos (Int.natCast_nonneg _),if_pos qh]
  rfl
 show(match S[p]? with
  | some (.lst xs)=>match ixN xs.length ((i:Nat):Int) with
   | some j=>some (Res.ok (),S.set p (.lst (xs.set j v)))
   | none=>none
  | _=>none)=_
 rw[e]
 show(match ixN xs.length ((i:Nat):Int) with
   | some j=>some (Res.ok (),S.set p (.lst (xs.set j v)))
   | none=>none)=_
 rw[n]
theorem IZ9 {S:Sto} {p i:Nat} {xs:List W} {w:W} (e:S[p]? = some (.lst xs)) (h:xs[i]? = some w):ixW S (.ref p) (.int (i:Nat))=some w:=by
 show((yG S (.ref p)).bind λxs=>atI xs ((i:Nat):Int))=_
 rw[bU e]
 show atI xs ((i:Nat):Int)=_
 rw[atI_nat]
 exact h
theorem Th.rt:∀ {t:Th},t.Fine->Rt 4 600 t.w
 | .tup xs,h=>(m3 (Dts.rts h.2)).mono qg (by have:=h.1;omega)
 | .lst xs,h=>(tO (Dts.rts h.2)).mono qg (by have:=h.1;omega)
 | .lstT xs,h=>by
  have l:=h.1
  exact(tO (fO (m3 (Dts.rts h.2)) DD (jg _))).mono qg qh
 | .non,_=>BY1.mono qg qg
 | .int _,h=>(c9 h).mono qg qg
 | .str _,h=>(JJ h).mono qg qg
theorem GT {k n:Nat} {ws:List W} (h:Rts k n ws) (hk:k < 64) {S:Sto}:eqW S (.tup ws) (.tup ws)=some true:=by
 obtain⟨ds,g1,g2,g3,g4,g5,g6,g7⟩:=h
 have e1:toD S (.tup ws)=some (.tuple ds):=by
  show(MJ (mI S) ws).map PyData.tuple=_
  rw[g1]
  rfl
 have hc:PyData.canLay0 (.tuple ds)=true:=by
  simp only[PyData.canLay0]
  exact g4
 have hd:PyData.depth (.tuple ds)<=64:=by
  simp only[PyData.depth]
  omega
 show(match toD S (.tup ws),toD S (.tup ws) with
  | some d,some e=>if SeqAt.shaped d && SeqAt.shaped e then some (PyData.eqv d e) else none
  | _,_=>none)=_
 rw[e1]
 show(if SeqAt.shaped (.tuple ds) && SeqAt.shaped (.tuple ds) then some (PyData.eqv (.tuple ds) (.tuple ds)) else none)=_
 have sh:SeqAt.shaped (.tuple ds)=true:=by
  unfold SeqAt.shaped
  rw[hc,decide_eq_true hd]
  rfl
 rw[PySem.SeqAt.eqv_refl _ hc,sh]
 rfl
theorem J4f {k n:Nat} {ws:List W} (h:Rts k n ws) (hk:k < 64) {S:Sto} {p q:Nat} (e:S[p]? = some (.lst ws)) (e2:S[q]? = some (.lst [])):eqW S (.ref p) (.ref q)=some ws.isEmpty:=by
 have h0:=h.neq hk (S:=S)
 obtain⟨ds,g1,_⟩:=h
 have r1:toD S (.ref p)=some (.list ds):=by
  show mI S p=_
  unfold mI
  rw[e]
  show(MJ (λ_=>none) ws).map PyData.list=_
  rw[g1]
  rfl
 have r2:toD S (.lst ws)=some (.list ds):=by
  show(MJ (mI S) ws).map PyData.list=_
  rw[g1]
  rfl
 have r3:toD S (.ref q)=some (.list []):=by
  show mI S q=_
  unfold mI
  rw[e2]
  rfl
 have key:∀ a b:W,yC a b=none->eqW S a b=match toD S a,toD S b with
  | some d,some e=>if SeqAt.shaped d && SeqAt.shaped e then some (PyData.eqv d e) else none
  | _,_=>none:=λa b z=>by
  unfold eqW
  rw[z]
  all_goals rfl
 rw[key _ _ rfl,r2,show toD S (.lst [])=some (.list []) from rfl] at h0
 rw[key _ _ rfl,r1,r3]
 exact h0
theorem M0 {ns:List Str}:∀ {ts:List Th} {i k:Nat} {t:Th},(∀ j t,j < i->ts[j]? = some t->t.good ns=true)->ts[i]? = some t->t.good ns=false->wZ ns k ts=some (k+i)
 | [],i,k,t,_,e,_=>by cases e
 | x :: r,0,k,t,_,e,b=>by
  cases e
  show(if x.good ns=true then wZ ns (k+1) r else some k)=_
  rw[b]
  rfl
 | x :: r,i+1,k,t,h,e,b=>by
  show(if x.good ns=true then wZ ns (k+1) r else some k)=_
  rw[if_pos (h 0 x qh rfl),M0 (i:=i) (k:=k+1) (λj t hj e=>h (j+1) t qh e) e b]
  congr 1
  omega
def oS:List W:=[.int 0,.int 1001,.int (-1),.bl true,.non,.str "60",.lst [.int 60],.int 1000000000]
def AK (due u:W):Prop:=(due = .non/\∃ s:Int,u = .int s/\1<=s/\s<=1000) \/ (due = .tup [.str "choice",.str "until"]/\u ∈ oS)
def XQ (i:Nat):W:=.tup [.str "first",.int (i:Nat)]
def HandIs (hs:List Ho) (S:Sto) (w due u:W):Prop:=(due=XQ 0/\w ∈ ([.non,.int 5,.str "",.dk [] [],.bl true]:List W)) \/
 (∃ (p i:Nat) (ts:List Th) (t:Th),due=XQ i/\i < 8/\w = .ref p/\S[p]? = some (.lst (ts.map Th.w))/\ts.length<=8/\(∀ t ∈ ts,t.Fine)/\(∀ j t,j < i->ts[j]? = some t->t.good (hs.map Ho.name)=true)/\ts[i]? = some t/\t.good (hs.map Ho.name)=false) \/
 (∃ (p:Nat) (fs:List F4),w = .ref p/\S[p]? = some (.lst (fs.map F4.w))/\fs.length<=8/\(∀ f ∈ fs,f.Ok hs)/\AK due u)
section
variable {S S':Sto} {n p:Nat} {hs:List Ho} {kinds:List Str} {fs:List F4} {due u w:W} {Q:W->Sto->Prop}
theorem HandIs.move (h:HandIs hs S w due u) (k:∀ i,S[i]? ≠ none->2<=i->S'[i]? = S[i]?) (two:∀ q,w = .ref q->2<=q):HandIs hs S' w due u:=by
 rcases h with h|⟨p,i,ts,t,h1,h2,h3,h4,h5⟩|⟨p,fs,h1,h2,h3⟩
 ·exact .inl h
 ·exact .inr (.inl ⟨p,i,ts,t,h1,h2,h3,(k p (by rw[h4];exact nofun) (two p h3)).trans h4,h5⟩)
 ·exact .inr (.inr ⟨p,fs,h1,(k p (by rw[h2];exact nofun) (two p h1)).trans h2,h3⟩)
theorem OKs:fs.map F4.w=(fs.map F4.th).map Th.w:=by
 rw[zf]
 rfl
theorem rH {m:Nat}:cH m (fs.map F4.w)=true:=oA λ_=>rfl
theorem NCg (net:UM hs) (ok:∀ f ∈ fs,f.Ok hs):Rts 4 (fs.length * 602) (fs.map F4.w):=by
 have:=PB (k:=4) (n:=600) (ws:=fs.map F4.w) λw hw=>by
  obtain⟨f,hf,rfl⟩:=jc.mp hw
  exact Th.rt (F4.fine net (ok f hf))
 rwa [qq] at this
theorem oPc {L1 L2:W} {a4 a5 a6 a7 a8 a9:Option W} {R:Oc->Sto->Prop} (nets:W3v hs kinds) (e1:L1 = .lst (hs.map hoT)) (e2:L2 = .lst (CU kinds)) (p2:2<=p) (d:DS (n+100) S) (e:S[p]? = some (.lst []))
  (q:∀ (fs:List F4) (a4 a5:Option W) (S':Sto),fs.length<=8->(∀ f ∈ fs,f.Ok hs)->DS n S'->S'[p]? = some (.lst (fs.map F4.w))->R (.nx [some (.ref 1),some L1,some L2,some (.ref p),a4,a5,a6,a7,a8,a9]) S') :
  Ev ((GN (itR1 (O9 (fD (mN 2 Z99) (O9 (uV 0) (O9 (mC (.int 9)) JN))) JN)) (fU 4)
 (kO (O0 (mOp ixM (fD aW (O9 (mC (.int 1)) (O9 (mC (.int 1000)) (O9 (mOp (opS MY) (mC (.int 1)) (fD (mN 2 Z99) (O9 (uV 0) (O9 (mC (.int 1000)) JN)))) JN)))) (fD (mN 2 Z99) (O9 (uV 0) (O9 (mC (.int 3)) JN)))) (fU 5))
 (fX (mBM oX O4 (uV 3) (O9 (fD TZ (O9 (uV 5) (O9 (mOp ixM (fD (mN 2 Z90) (O9 (uV 0) (O9 (uV 1) JN))) (mC (.int 0))) (O9 (fD (mN 2 Z90) (O9 (uV 0) (O9 (uV 2) JN))) (O9 (fD (mN 1 Z9E) (O9 (uV 0) JN)) JN))))) JN))))) [some (.ref 1),some L1,some L2,some (.ref p),a4,a5,a6,a7,a8,a9] S) R:=by
 subst e1
 subst e2
 have net:=nets.net
 have n6:=net.n6
 have n1:=net.n1
 have k1:=nets.k1
 have k9:=nets.k9
 refine G1 ?_
 (try refine AH ?_)
 refine SF (n:=n+99) d qg qg λv S1 v0 v1 d1 p1=>?_
 obtain⟨V,rfl⟩:=Int.eq_ofNat_of_zero_le v0
 (try refine AH ?_)
 rw[show lS 0 ((V:Nat):Int)=lS ((0:Nat):Int) ((V:Nat):Int) from rfl,MA]
 refine fI (λxs L S=>∃ (i:Nat) (fs:List F4) (a4 a5:Option W),i<=V/\xs=(ups i V).map (λi=>W.int (i:Nat))/\L=[some (.ref 1),some (.lst (hs.map hoT)),some (.lst (CU kinds)),some (.ref p),a4,a5,a6,a7,a8,a9]/\fs.length=i/\(∀ f ∈ fs,f.Ok hs)/\DS (n+10 * (V - i)) S/\S[p]? = some (.lst (fs.map F4.w))) (λ_ _=>False) ?_ ?_ (λ_ _ z=>z.elim) _ _ _ ⟨0,[],_,_,jf _,rfl,rfl,rfl,(λ_ z=>nomatch z),d1.mono qh,(p1.2 p p2).trans e⟩
 ·rintro y ys L S ⟨i,fs,a4,a5,iV,ey,rfl,hl,ok,d,e⟩
  refine⟨True.intro,?_⟩
  have lt:i < V:=by
   by_cases h:i < V
   ·exact h
   ·rw[c6B qh] at ey
    cases ey
  rw[CM lt] at ey
  cases ey
  refine fR ?_
  generalize hN:n+10 * (V - (i+1))=N
  have d:DS (N+10) S:=d.mono qh
  (try refine AH ?_)
  refine SF (n:=N+9) d qg qg λa S1 a0 a1 d1 p1=>?_
  (try refine AH ?_)
  refine SF (n:=N+8) d1 qg qg λb S2 b0 b1 d2 p2'=>?_
  obtain⟨tw,mem,_,ex⟩:=IM (S:=S2) (x:=.lst [.int 1,.int 1000,.int (1+a)]) rfl (by simp) b0 b1
  refine zB ex ?_
  obtain⟨t,t0,t1,rfl⟩:∃ t:Int,1<=t/\t<=1000/\tw = .int t:=by
   simp only[qo,qu,or_false] at mem
   rcases mem with rfl|rfl|rfl
   ·exact⟨1,by decide,by decide,rfl⟩
   ·exact⟨1000,by decide,by decide,rfl⟩
   ·exact⟨1+a,by omega,by omega,rfl⟩
  have e2':S2[p]? = some (.lst (fs.map F4.w)):=(p2'.2 p p2).trans ((p1.2 p p2).trans e)
  (try refine AH ?_)
  refine⟨by unfold oX;rw[uK e2'];rfl,?_⟩
  (try refine AH ?_)
  refine A3 (n:=N+7) d2 (λz=>by
   have:=congrArg yx z
   rw[qq,jh] at this
   omega) (by rw[qq];omega) (λw hw=>by
   obtain⟨h,_,rfl⟩:=jc.mp hw
   exact EM h) λw S3 hw d3 p3=>?_
  obtain⟨ho,hh,rfl⟩:=jc.mp hw
  have i0:ixW S3 (hoT ho) (.int 0)=some (.str ho.name):=rfl
  (repeat (first|(with_reducible refine zB i0 ?_)|refine AH ?_))
  refine A3 (n:=N+6) d3 (λz=>by
   have:=congrArg yx z
   rw[xM,jh] at this
   omega) (by rw[xM];omega) (λw hw=>by
   obtain⟨z,_,rfl⟩:=jc.mp hw
   rfl) λw S4 hw d4 p4=>?_
  obtain⟨z,hz,rfl⟩:=jc.mp hw
  (try refine AH ?_)
  refine K0 (n:=N+3) d4 λv S5 v0' v1' d5 p5=>?_
  (try refine AH ?_)
  have e5:S5[p]? = some (.lst (fs.map F4.w)):=(p5.2 p p2).trans ((p4.2 p p2).trans ((p3.2 p p2).trans e2'))
  refine uQ (oN e5 (by rw[qq];exact jz (show _ < 9 by omega) qg)) ?_
  (try refine AH ?_)
  obtain⟨f,hf⟩:∃ f:F4,f=⟨t,ho.name,z,v⟩:=⟨_,rfl⟩
  have fo:f.Ok hs:=by
   rw[hf]
   exact⟨t0,t1,List.mem_map_of_mem hh,nets.kn z hz,⟨v0',by omega⟩⟩
  have ew:fs.map F4.w++[.tup [.int t,.str ho.name,.str z,.int v]]=(fs++[f]).map F4.w:=by
   rw[zn,hf]
   rfl
  rw[ew]
  refine⟨i+1,fs++[f],_,_,by omega,rfl,rfl,by rw[qr,hl];rfl,λx hx=>?_,?_,?_⟩
  ·rcases ji.mp hx with hx|hx
   ·exact ok x hx
   ·rw[qp.mp hx]
    exact fo
  ·rw[hN]
   exact(d5.set p2 (bX rH)).mono qh
  ·exact jj (P6 e5)
 ·rintro L S ⟨i,fs,a4,a5,iV,ey,rfl,hl,ok,d,e⟩
  refine⟨True.intro,?_⟩
  (try refine AH ?_)
  exact q fs a4 a5 S qh ok (d.mono qh) e
end
section
variable {S S':Sto} {n p:Nat} {hs:List Ho} {kinds:List Str} {fs:List F4} {due u w:W} {Q:W->Sto->Prop} {l1 l2 l4 l5 l8 l9:Option W} {R:Oc->Sto->Prop}
theorem ZZ:∀ x ∈ oS,W3 0 x=true:=by
 intro x hx
 simp only[oS,qo,qu,or_false] at hx
 rcases hx with rfl|rfl|rfl|rfl|rfl|rfl|rfl|rfl <;> rfl
theorem I1k {s:Int} (s0:1<=s) (s1:s<=1000) (d:DS (n+2) S) (q:∀ due u S',AK due u->DS n S'->Past2 S S'->R (.nx [some (.ref 1),l1,l2,some (.ref p),l4,l5,some due,some u,l8,l9]) S') :
  Ev ((mIf (tW (mOp (opS λS x y=>(eqW S x y).map W.bl) (fD (mN 2 Z99) (O9 (uV 0) (O9 (mC (.int 3)) JN))) (mC (.int 0))))
 (kO (O0 (fD (mN 2 Z90) (O9 (uV 0) (O9 (fD aW (O9 (mC (.int 0)) (O9 (mC (.int 1001)) (O9 (mC (.int (-1))) (O9 (mC (.bl true)) (O9 (mC .non) (O9 (mC (.str "60")) (O9 (fD aW (O9 (mC (.int 60)) JN)) (O9 (mOp (opS λ_=>sE) (mC (.int 10)) (mC (.int 9))) JN))))))))) JN))) (fU 7))
 (O0 (fD TZ (O9 (mC (.str "choice")) (O9 (mC (.str "until")) JN))) (fU 6)))
 dF) [some (.ref 1),l1,l2,some (.ref p),l4,l5,some .non,some (.int s),l8,l9] S) R:=by
 (try refine AH ?_)
 refine SF (n:=n+1) d qg qg λv S1 v0 v1 d1 p1=>?_
 (try refine AH ?_)
 refine UL (λz=>?_) (λz=>?_)
 ·have pw:(λ_=>sE) S1 (.int 10) (.int 9)=some (.int 1000000000):=rfl
  (repeat (first|(with_reducible refine G6 pw ?_)|refine AH ?_))
  refine A3 (xs:=oS) (n:=n) d1 (by simp [oS]) (by simp [oS]) ZZ λw S2 hw d2 p2=>?_
  (try refine AH ?_)
  exact q _ _ S2 (.inr ⟨rfl,hw⟩) d2 (p1.trans p2)
 ·(try refine AH ?_)
  exact q _ _ S1 (.inl ⟨rfl,s,rfl,s0,s1⟩) (d1.mono qh) p1
theorem HP (net:UM hs) (ok:∀ f ∈ fs,f.Ok hs) (hl:fs.length<=8) (p2:2<=p) (st:AK due u) (d:DS (n+10) S) (e:S[p]? = some (.lst (fs.map F4.w)))
  (q:∀ due l8 l9 S',HandIs hs S' (.ref p) due u->DS n S'->R (.nx [some (.ref 1),l1,l2,some (.ref p),l4,l5,some due,some u,l8,l9]) S') :
  Ev ((mIf (KP (tW (mOp (opS λS x y=>(eqW S x y).map λb=>W.bl (!b)) (uV 3) (fD LU JN))) (tW (mOp (opS λS x y=>(eqW S x y).map W.bl) (fD (mN 2 Z99) (O9 (uV 0) (O9 (mC (.int 2)) JN))) (mC (.int 0)))))
 (kO (IT 8 9 (O9 (fD (mN 2 Z99) (O9 (uV 0) (O9 (fD (MI eP) (O9 (uV 3) JN)) JN))) (O9 (fD (mN 2 Z99) (O9 (uV 0) (O9 (fD (MI eP) (O9 (uV 3) JN)) JN))) JN)))
 (kO (O0 (fD (AT 2 Z9D) (O9 (uV 0) (O9 (mOp ixM (uV 3) (fD (MI λ_=>KH) (O9 (uV 8) (O9 (uV 9) JN)))) JN))) (gIt (uV 3) (fD (MI λ_=>KH) (O9 (uV 8) (O9 (uV 9) JN)))))
 (kO (O0 (oF (tW (mOp (opS λ_=>ltW) (uV 8) (uV 9))) (fD (AT 2 Z9D) (O9 (uV 0) (O9 (mOp ixM (uV 3) (uV 8)) JN))) (mOp ixM (uV 3) (uV 8))) (gIt (uV 3) (uV 8)))
 (O0 (fD TZ (O9 (mC (.str "first")) (O9 (uV 8) JN))) (fU 6)))))
 dF) [some (.ref 1),l1,l2,some (.ref p),l4,l5,some due,some u,l8,l9] S) R:=by
 have pl:=P6 e
 have d0:DS (n+10) (S++[.lst []]):=d.push rfl
 have e0:(S++[Ob.lst []])[p]? = some (.lst (fs.map F4.w)):=by
  rw[jl pl]
  exact e
 have ne:(λS x y=>Qf (λb=>W.bl !b) (eqW S x y)) (S++[Ob.lst []]) (.ref p) (.ref S.length)=some (.bl (!(fs.map F4.w).isEmpty)):=by
  show(eqW _ _ _).map (λb=>W.bl (!b))=_
  rw[J4f (NCg net ok) qg e0 dE]
  rfl
 (repeat (first|(with_reducible refine G6 ne ?_)|refine AH ?_))
 refine UL (λz=>?_) (λz=>?_)
 case refine_2=>
  (try refine AH ?_)
  exact q _ _ _ _ (.inr (.inr ⟨p,fs,rfl,e0,hl,ok,st⟩)) (d0.mono qh)
 have l0:0 < fs.length:=by
  cases fs with
  | nil=>cases z
  | cons f r=>exact Nat.succ_pos _
 (try refine AH ?_)
 refine SF (n:=n+9) d0 qg qg λv S1 v0 v1 d1 p1=>?_
 have e1:S1[p]? = some (.lst (fs.map F4.w)):=(p1.2 p p2).trans e0
 (try refine AH ?_)
 refine UL (λz=>?_) (λz=>?_)
 case refine_2=>
  (try refine AH ?_)
  exact q _ _ _ _ (.inr (.inr ⟨p,fs,rfl,e1,hl,ok,st⟩)) (d1.mono qh)
 have ln:∀ {S:Sto},S[p]? = some (.lst (fs.map F4.w))->eP S [.ref p]=some (.int (fs.length:Nat)):=λ{S} e=>by
  show(yG S (.ref p)).map (λxs=>W.int (xs.length:Nat))=_
  rw[bU e,Option.map_some,qq]
 have g1:=ln e1
 (repeat (first|(with_reducible refine jK g1 ?_)|refine AH ?_))
 refine SF (n:=n+8) d1 qh qh λa S2 a0 a1 d2 p2'=>?_
 have e2:S2[p]? = some (.lst (fs.map F4.w)):=(p2'.2 p p2).trans e1
 have g2:=ln e2
 (repeat (first|(with_reducible refine jK g2 ?_)|refine AH ?_))
 refine SF (n:=n+7) d2 qh qh λb S3 b0 b1 d3 p3=>?_
 have e3:S3[p]? = some (.lst (fs.map F4.w)):=(p3.2 p p2).trans e2
 obtain⟨a,rfl⟩:=Int.eq_ofNat_of_zero_le a0
 obtain⟨b,rfl⟩:=Int.eq_ofNat_of_zero_le b0
 obtain⟨m,hm,mm⟩:∃ m:Nat,(if ((b:Nat):Int) > ((a:Nat):Int) then((b:Nat):Int) else((a:Nat):Int))=((m:Nat):Int)/\((a < b/\m=b) \/ (¬ a < b/\m=a)):=by
  by_cases h:a < b
  ·exact⟨b,if_pos qh,.inl ⟨h,rfl⟩⟩
  ·exact⟨a,if_neg qh,.inr ⟨h,rfl⟩⟩
 have lm:m < fs.length:=by omega
 have la:a < fs.length:=by omega
 have mx:∀ S:Sto,(λ_:Sto=>KH) S [.int (a:Nat),.int (b:Nat)]=some (.int (m:Nat)):=λS=>by
  show some (W.int (if ((b:Nat):Int) > ((a:Nat):Int) then((b:Nat):Int) else((a:Nat):Int)))=_
  rw[hm]
 have fw:∀ i (h:i < fs.length),(fs.map F4.w)[i]? = some (fs[i]).w:=λi h=>by
  rw[jt,qz h]
  rfl
 obtain⟨L0,hL0⟩:∃ L0:List Th,L0=fs.map F4.th:=⟨_,rfl⟩
 have l0l:L0.length=fs.length:=by rw[hL0,qq]
 have g0:∀ (j:Nat) (t:Th),L0[j]? = some t->t.good (hs.map Ho.name)=true:=λj t ej=>by
  rw[hL0,jt] at ej
  obtain⟨f,hf,rfl⟩:=qm.mp ej
  exact F4.good (ok f (zu hf))
 have f0:∀ t ∈ L0,t.Fine:=λt ht=>by
  rw[hL0] at ht
  obtain⟨f,hf,rfl⟩:=jc.mp ht
  exact F4.fine net (ok f hf)
 have w0:fs.map F4.w=L0.map Th.w:=by rw[hL0];exact OKs
 have i3:=IZ9 e3 (fw m lm)
 rw[<- hm] at i3
 (repeat (first|(with_reducible refine zB i3 ?_)|refine AH ?_))
 refine fL (n:=n+6) (ok _ (zg lm)) d3 λt1 S4 ht1 d4 p4=>?_
 have e4:S4[p]? = some (.lst (fs.map F4.w)):=(p4.2 p p2).trans e3
 have b1:=mT net (ok _ (zg lm)) t1 ht1
 have q1:=sQ net (ok _ (zg lm)) t1 ht1
 have s4:=FI (v:=t1.w) e4 (by rw[qq];exact lm)
 rw[<- hm] at s4
 (repeat (first|(with_reducible refine dG ?_)|refine AH ?_))
 refine QJ s4 ?_
 obtain⟨L1,hL1⟩:∃ L1:List Th,L1=L0.set m t1:=⟨_,rfl⟩
 have w1:(fs.map F4.w).set m t1.w=L1.map Th.w:=by rw[w0,hL1,List.map_set]
 have l1l:L1.length=fs.length:=by rw[hL1,jq,l0l]
 have f1:∀ t ∈ L1,t.Fine:=λt ht=>by
  rw[hL1] at ht
  rcases yd ht with ht|rfl
  ·exact f0 t ht
  ·exact q1
 rw[w1]
 have tb:∀ {ts:List Th},cH (S4.length) (ts.map Th.w)=true:=λ{ts}=>XC ts
 have d5:DS (n+6) (S4.set p (.lst (L1.map Th.w))):=d4.set p2 (bX tb)
 have e5:(S4.set p (.lst (L1.map Th.w)))[p]? = some (.lst (L1.map Th.w)):=jj (P6 e4)
 generalize S4.set p (.lst (L1.map Th.w))=S5 at d5 e5
 (try refine AH ?_)
 rcases mm with⟨ab,rfl⟩|⟨ab,rfl⟩
 ·refine nN (decide_eq_true qh) ?_
  have o5:(L1.map Th.w)[a]? = some (fs[a]).w:=by
   rw[jt,hL1,jm qh,hL0,jt,qz la]
   rfl
  have i5:=IZ9 e5 o5
  (repeat (first|(with_reducible refine zB i5 ?_)|refine AH ?_))
  refine fL (n:=n+5) (ok _ (zg la)) d5 λt2 S6 ht2 d6 p6=>?_
  have e6:S6[p]? = some (.lst (L1.map Th.w)):=(p6.2 p p2).trans e5
  have b2:=mT net (ok _ (zg la)) t2 ht2
  have q2:=sQ net (ok _ (zg la)) t2 ht2
  (repeat (first|(with_reducible refine dG ?_)|refine AH ?_))
  refine QJ (FI e6 (by rw[qq,l1l];exact la)) ?_
  rw[show(L1.map Th.w).set a t2.w=(L1.set a t2).map Th.w from by rw[List.map_set]]
  have d7:DS (n+5) (S6.set p (.lst ((L1.set a t2).map Th.w))):=d6.set p2 (bX (XC _))
  have e7:(S6.set p (.lst ((L1.set a t2).map Th.w)))[p]? = some (.lst ((L1.set a t2).map Th.w)):=jj (P6 e6)
  generalize S6.set p (.lst ((L1.set a t2).map Th.w))=S7 at d7 e7
  (try refine AH ?_)
  refine q _ _ _ _ (.inr (.inl ⟨p,a,L1.set a t2,t2,rfl,by omega,rfl,e7,by rw[jq,l1l];exact hl,λt ht=>?_,λj t hj ej=>?_,jj (by rw[l1l];exact la),b2⟩)) (d7.mono qh)
  ·rcases yd ht with ht|rfl
   ·exact f1 t ht
   ·exact q2
  ·rw[jm qh,hL1,jm qh] at ej
   exact g0 j t ej
 ·refine RD (decide_eq_false qh) ?_
  have o5:(L1.map Th.w)[m]? = some t1.w:=by
   rw[jt,hL1,jj (by rw[l0l];exact lm)]
   rfl
  have i5:=IZ9 e5 o5
  (repeat (first|(with_reducible refine zB i5 ?_)|(with_reducible refine dG ?_)|refine AH ?_))
  refine QJ (FI e5 (by rw[qq,l1l];exact lm)) ?_
  rw[show(L1.map Th.w).set m t1.w=L1.map Th.w from by rw[<- List.map_set,hL1,List.set_set]]
  have d7:DS (n+6) (S5.set p (.lst (L1.map Th.w))):=d5.set p2 (bX (XC _))
  have e7:(S5.set p (.lst (L1.map Th.w)))[p]? = some (.lst (L1.map Th.w)):=jj (P6 e5)
  generalize S5.set p (.lst (L1.map Th.w))=S7 at d7 e7
  (try refine AH ?_)
  refine q _ _ _ _ (.inr (.inl ⟨p,m,L1,t1,rfl,by omega,rfl,e7,by rw[l1l];exact hl,f1,λj t hj ej=>?_,by rw[hL1];exact jj (by rw[l0l];exact lm),b1⟩)) (d7.mono qh)
  rw[hL1,jm qh] at ej
  exact g0 j t ej
theorem bL (h:HandIs hs S (.ref p) due u) (p2:2<=p) (d:DS (n+2) S) (q:∀ w due S',HandIs hs S' w due u->DS n S'->R (.nx [some (.ref 1),l1,l2,some w,l4,l5,some due,some u,l8,l9]) S') :
  Ev ((mIf (tW (mOp (opS λS x y=>(eqW S x y).map W.bl) (fD (mN 2 Z99) (O9 (uV 0) (O9 (mC (.int 6)) JN))) (mC (.int 0))))
 (O0 (fD TZ (O9 (fD (mN 2 Z90) (O9 (uV 0) (O9 (fD aW (O9 (mC .non) (O9 (mC (.int 5)) (O9 (mC (.str "")) (O9 (mC (.dk [] [])) (O9 (mC (.bl true)) JN)))))) JN))) (O9 (fD TZ (O9 (mC (.str "first")) (O9 (mC (.int 0)) JN))) JN))) (gTu 2 (gCo (fU 3) (gCo (fU 6) gNo))))
 dF) [some (.ref 1),l1,l2,some (.ref p),l4,l5,some due,some u,l8,l9] S) R:=by
 (try refine AH ?_)
 refine SF (n:=n+1) d qg qg λv S1 v0 v1 d1 p1=>?_
 (try refine AH ?_)
 refine UL (λz=>?_) (λz=>?_)
 ·(try refine AH ?_)
  refine A3 (xs:=[.non,.int 5,.str "",.dk [] [],.bl true]) (n:=n) d1 (by simp) (by simp) (λx hx=>?_) λw S2 hw d2 p2=>?_
  ·simp only[qo,qu,or_false] at hx
   rcases hx with rfl|rfl|rfl|rfl|rfl <;> rfl
  ·(try refine AH ?_)
   exact q _ _ S2 (.inl ⟨rfl,hw⟩) d2
 ·(try refine AH ?_)
  exact q _ _ S1 (h.move (λi _ hi=>p1.2 i hi) λq hq=>by cases hq;exact p2) (d1.mono qh)
end
theorem cW {n:Nat} (ls:List Lt8):cH n (sP ls)=true:=oA λp=>F7 (jf _) rfl
theorem eK {n:Nat} (past:List (Lt8 × List Int)):cH n (EH past)=true:=oA λp=>F7 (jf _) rfl
theorem uM {n:Nat} (hs:List Ho) (held:Str->List Int):cH n ((YL hs held).map (·.2))=true:=by
 unfold YL
 rw[zf]
 exact oA λh=>by
  show W3 n (.tup (DX (held h.name)))=true
  simp only[W3,DX,JO]
theorem j9 {n:Nat} (past:List (Lt8 × List Int)):cH n (iT past)=true:=by
 induction past with
 | nil=>rfl
 | cons p past ih=>
  unfold iT at ih ⊢
  rw[yo]
  exact lC (oA λv=>rfl) ih
theorem W3M {n:Nat} {c:Str} {F:List W->M W} {ws:List W} {S:Sto} {Q:W->Sto->Prop} (h:Ev (zV c n F ws S) Q):Ev (G4 c n F ws S) Q:=by
 unfold zV at h
 unfold G4
 split at h
 ·rename_i hl
  rw[if_pos hl]
  split at h
  ·rename_i S' e
   rw[e]
   exact h
  ·exact h.elim
 ·exact h.elim
section
variable {S S':Sto} {n p:Nat} {hs:List Ho} {kinds:List Str} {stop:Int} {r:Rn} {Q:W->Sto->Prop}
theorem DV {N:Nat} (h:p+3 < N):oB N (.ins "Plain" (DN p hs stop r))=true:=by
 show cH N [.lst (sP r.left),O1 hs,.int stop,.ref (p+1),.ref (p+2),.ref (p+3)]=true
 have pb:W3 N (O1 hs)=true:=F7 (jf _) yT
 simp only[cH,W3,cW,pb,decide_eq_true (show p+1 < N by omega),decide_eq_true (show p+2 < N by omega),decide_eq_true h,Bool.and_self]
def RunAt (n p:Nat) (hs:List Ho) (stop:Int) (r:Rn) (S:Sto):Prop:=PlainAt S p hs stop r/\DS n S
theorem m7 (p2:2<=p):Own (RunAt n p hs stop) p hs stop:=by
 refine⟨λr S h=>h.1,λr S r' ⟨a,d⟩=>?_⟩
 have l0:=P6 a.ins
 have l1:=P6 a.kept
 have l2:=P6 a.past
 have l3:=P6 a.heard
 unfold MGh
 refine⟨⟨?_,?_,?_,?_⟩,?_⟩
 ·rw[jm qh]
  exact jj (by rw[jq,jq];exact l0)
 ·rw[jm qh,jm qh,jm qh]
  exact jj l1
 ·rw[jm qh,jm qh]
  exact jj (by rw[jq];exact l2)
 ·exact jj (by rw[jq,jq,jq];exact l3)
 ·refine(((d.set qh ?_).set qh ?_).set p2 ?_).set qh ?_
  ·exact uM _ _
  ·exact eK _
  ·exact DV (by rw[jq,jq];exact l3)
  ·exact j9 _
theorem RunAt.new (d:DS n S) (q:stop=stop):RunAt n S.length hs stop r (S++[.ins "Plain" (DN S.length hs stop r),.dk (YL hs r.held),.lst (EH r.past),.lst (iT r.past)]):=by
 refine⟨⟨dE,AQ,PM,MO⟩,?_⟩
 have two:=d.two
 refine d.keep (jl qh) (jl qh) ?_
 have len:(S++[Ob.ins "Plain" (DN S.length hs stop r),.dk (YL hs r.held),.lst (EH r.past),.lst (iT r.past)]).length=S.length+4:=by
  rw[qr]
  rfl
 rw[len,zq,oQ (Nat.le_add_right _ 4) d.all]
 have o1:oB (S.length+4) (.ins "Plain" (DN S.length hs stop r))=true:=DV qh
 have o2:oB (S.length+4) (.dk (YL hs r.held))=true:=uM _ _
 have o3:oB (S.length+4) (.lst (EH r.past))=true:=eK _
 have o4:oB (S.length+4) (.lst (iT r.past))=true:=j9 _
 simp only[ze,Qc,o1,o2,o3,o4,Bool.and_self]
theorem aJ {u:W} (h:u ∈ oS) (q:Q (.bl false) S):Ev (H0 1 Z9H [u] S) Q:=by
 simp only[oS,qo,qu,or_false] at h
 rcases h with rfl|rfl|rfl|rfl|rfl|rfl|rfl|rfl
 all_goals
  refine D8 rfl rfl ?_
  unfold Z9H Z8T
  refine pI rfl ?_
  (try refine AH ?_)
  exact q
theorem eG {x:W} {E:W->Sto->Prop} (hw:x ∈ ([.non,.int 5,.str "",.dk [] [],.bl true]:List W)) (q:E (ZP 0) S):Eo (NI 2 Z9C [O1 hs,x] S) (λ_ _=>False) E:=by
 obtain⟨pw,hpw⟩:∃ pw,pw=O1 hs:=⟨_,rfl⟩
 rw[<- hpw]
 have no:iQ S [x,.tup [.ty "list",.ty "tuple"]]=some (.bl false):=by
  simp only[qo,qu,or_false] at hw
  rcases hw with rfl|rfl|rfl|rfl|rfl <;> rfl
 refine VQ rfl ?_
 unfold Z9C Z8u
 refine xC rfl ?_
 refine MN (M4 ?_)
 (repeat (first|((with_reducible refine jK no ?_))|refine AH ?_))
 refine SC ?_
 (try refine AH ?_)
 exact⟨rfl,q⟩
theorem KA {xs:List W} (e:S[p]? = some (.lst xs)):iQ S [.ref p,.tup [.ty "list",.ty "tuple"]]=some (.bl true):=by
 have:tyW S (.ref p)=some "list" := by
  show(match S[p]? with
   | some (.lst _)=>some "list"
   | some (.dk _)=>some "dict"
   | some (.dt _)=>some "dict"
   | _=>none)=_
  rw[e]
 show(match tyW S (.ref p),WT [.ty "list",.ty "tuple"] with
  | some t,some Ts=>(tM t Ts).map W.bl
  | _,_=>none)=_
 rw[this]
 rfl
theorem WZ {i:Nat} (h:i<=1000):(λS x y=>(eqW S x y).map W.bl) S (.tup [.str "first",.int (i:Nat)]) (XQ i)=some (.bl true):=by
 show(eqW S _ _).map W.bl=_
 unfold XQ
 rw[GT (k:=1) (n:=300) (fO (n:=102) (N:=100) ((JJ ⟨by decide +kernel,by decide +kernel⟩).mono qg (jg _)) (fO (n:=32) (N:=0) ((c9 (show SmI ((i:Nat):Int) from jy (show((i:Nat):Int).natAbs<=1000 by omega) qf)).mono qg (jg _)) DD qg) qg) qg]
 rfl
theorem aN:(λS x y=>(eqW S x y).map W.bl) S (.tup [.str "choice",.str "until"]) (.tup [.str "choice",.str "until"])=some (.bl true):=by
 show(eqW S _ _).map W.bl=_
 rw[GT (k:=1) (n:=300) (fO (n:=102) (N:=120) ((JJ ⟨by decide +kernel,by decide +kernel⟩).mono qg (jg _)) (fO (n:=102) (N:=0) ((JJ ⟨by decide +kernel,by decide +kernel⟩).mono qg (jg _)) DD qg) qg) qg]
 rfl
theorem NN (nets:W3v hs kinds) (h:DS (n+150) S) (q:∀ S',DS n S'->Q (.bl true) S'):Ev (AT 3 Z9s [.ref 1,.lst (hs.map hoT),.lst (CU kinds)] S) Q:=by
 have net:=nets.net
 have n6:=net.n6
 refine M9 rfl ?_
 unfold Z9s Z8v
 refine pI rfl ?_
 have two:=h.two
 obtain⟨p,hp⟩:∃ p,p=S.length:=⟨_,rfl⟩
 have p2:2<=p:=by omega
 obtain⟨S1,hS1⟩:∃ S1:Sto,S1=S++[.lst []]:=⟨_,rfl⟩
 have d1:DS (n+150) S1:=by rw[hS1];exact h.push rfl
 have e1:S1[p]? = some (.lst []):=by rw[hS1,hp];exact dE
 obtain⟨nw,hnw⟩:∃ nw,nw=W.lst (hs.map hoT):=⟨_,rfl⟩
 obtain⟨kw,hkw⟩:∃ kw,kw=W.lst (CU kinds):=⟨_,rfl⟩
 rw[<- hnw,<- hkw]
 refine E9 (Ev.imp (Q:=λoc S'=>oc = .nx [some (.ref 1),some nw,some kw,some (.ref p),none,none,none,none,none,none]/\S'=S1) ?_ ?_)
 ·(try refine AH ?_)
  rw[hp,hS1]
  exact⟨rfl,rfl⟩
 rintro _ S' ⟨rfl,z⟩
 rw[z]
 clear z S'
 with_reducible refine GM ?_
 refine E9 (Ev.imp (Q:=λoc S'=>∃ (fs:List F4) (a4 a5:Option W),oc = .nx [some (.ref 1),some nw,some kw,some (.ref p),a4,a5,none,none,none,none]/\fs.length<=8/\(∀ f ∈ fs,f.Ok hs)/\DS (n+40) S'/\S'[p]? = some (.lst (fs.map F4.w))) ?_ ?_)
 ·refine oPc (n:=n+40) nets hnw hkw p2 (d1.mono qh) e1 λfs a4 a5 S' h1 h2 h3 h4=>?_
  exact⟨fs,a4,a5,rfl,h1,h2,h3,h4⟩
 clear e1 d1 hS1
 rintro _ S2 ⟨fs,a4,a5,rfl,hl,ok,d2,e2⟩
 with_reducible refine GM ?_
 refine E9 (Ev.imp (Q:=λoc S'=>∃ s:Int,oc = .nx [some (.ref 1),some nw,some kw,some (.ref p),a4,a5,some .non,some (.int s),none,none]/\1<=s/\s<=1000/\DS (n+38) S'/\S'[p]? = some (.lst (fs.map F4.w))) ?_ ?_)
 ·(try refine AH ?_)
  refine SF (n:=n+39) d2 qg qg λa S3 a0 a1 d3 p3=>?_
  (try refine AH ?_)
  refine SF (n:=n+38) d3 qg qg λb S4 b0 b1 d4 p4=>?_
  obtain⟨tw,mem,_,ex⟩:=IM (S:=S4) (x:=.lst [.int 1,.int 60,.int 1000,.int (1+a)]) rfl (by simp) b0 b1
  refine zB ex ?_
  obtain⟨t,t0,t1,rfl⟩:∃ t:Int,1<=t/\t<=1000/\tw = .int t:=by
   simp only[qo,qu,or_false] at mem
   rcases mem with rfl|rfl|rfl|rfl
   ·exact⟨1,by decide,by decide,rfl⟩
   ·exact⟨60,by decide,by decide,rfl⟩
   ·exact⟨1000,by decide,by decide,rfl⟩
   ·exact⟨1+a,by omega,by omega,rfl⟩
  (try refine AH ?_)
  exact⟨t,rfl,t0,t1,d4,(p4.2 p p2).trans ((p3.2 p p2).trans e2)⟩
 clear d2 e2
 rintro _ S3 ⟨s,rfl,s0,s1,d3,e3⟩
 with_reducible refine GM ?_
 refine E9 (Ev.imp (Q:=λoc S'=>∃ due u,oc = .nx [some (.ref 1),some nw,some kw,some (.ref p),a4,a5,some due,some u,none,none]/\AK due u/\DS (n+36) S'/\S'[p]? = some (.lst (fs.map F4.w))) ?_ ?_)
 ·refine I1k (n:=n+36) s0 s1 (d3.mono qh) λdue u S' h1 h2 h3=>?_
  exact⟨due,u,rfl,h1,h2,(h3.2 p p2).trans e3⟩
 clear d3 e3
 rintro _ S4 ⟨due,u,rfl,st,d4,e4⟩
 with_reducible refine GM ?_
 refine E9 (Ev.imp (Q:=λoc S'=>∃ (due:W) (l8 l9:Option W),oc = .nx [some (.ref 1),some nw,some kw,some (.ref p),a4,a5,some due,some u,l8,l9]/\HandIs hs S' (.ref p) due u/\DS (n+20) S') ?_ ?_)
 ·refine HP (n:=n+20) net ok hl p2 st (d4.mono qh) e4 λdue l8 l9 S' h1 h2=>?_
  exact⟨due,l8,l9,rfl,h1,h2⟩
 clear d4 e4 st due ok hl
 rintro _ S5 ⟨due,l8,l9,rfl,hi,d5⟩
 with_reducible refine GM ?_
 refine E9 (Ev.imp (Q:=λoc S'=>∃ w due:W,oc = .nx [some (.ref 1),some nw,some kw,some w,a4,a5,some due,some u,l8,l9]/\HandIs hs S' w due u/\DS n S') ?_ ?_)
 ·refine bL (n:=n) hi p2 (d5.mono qh) λw due S' h1 h2=>?_
  exact⟨w,due,rfl,h1,h2⟩
 clear d5 hi due
 rintro _ S6 ⟨w,due,rfl,hi,d6⟩
 with_reducible refine GM ?_
 have bu:∀ {S:Sto} {Q':W->Sto->Prop},Q' (O1 hs) S->Ev (H0 1 Z9u [nw] S) Q':=λ{S Q'} q'=>by rw[hnw];exact K4 net q'
 (try refine AH ?_)
 refine QK (i9 ?_)
 (repeat (first|with_reducible refine bu ?_|refine AH ?_))
 refine⟨⟨rfl,rfl⟩,?_⟩
 show Eo (G4 "Plain" 4 Z9Z [O1 hs,w,u] S6) _ _
 have up:∀ {i:Nat} {o:Ob},S6[i]? = some o->(S6++[Ob.ins "Plain" []])[i]? = some o:=λ{i o} e=>by
  rw[jl (P6 e)]
  exact e
 have d7:DS n (S6++[.ins "Plain" []]):=d6.push rfl
 rcases hi with⟨rfl,hw⟩|⟨p',i,ts,t,rfl,i8,rfl,e,tl,fi,gd,ti,bd⟩|⟨p',fs,rfl,e,fl,ok,st⟩
 ·refine uY (λz=>eG hw z) ⟨_,_,_,rfl,by decide +kernel,?_⟩
  refine OX (i:=0) ?_
  have eqs:=WZ (S:=S6++[Ob.ins "Plain" []]) (i:=0) qg
  (repeat (first|(with_reducible refine G6 eqs ?_)|refine AH ?_))
  exact q _ d7
 ·have nb:=M0 (k:=0) gd ti bd
  rw[yj] at nb
  refine uY (e:=ZP (i:Nat)) (λ{E'} z=>VQ rfl (SW (ts:=ts) qh (uK (up e)) (KA (up e)) fi qh (λc=>by
   rw[nb] at c
   cases c) λj c=>by
   rw[nb] at c
   cases c
   exact z)) ⟨_,_,_,rfl,by decide +kernel,?_⟩
  refine OX (i:=(i:Nat)) ?_
  have eqs:=WZ (S:=S6++[Ob.ins "Plain" []]) (i:=i) qh
  (repeat (first|(with_reducible refine G6 eqs ?_)|refine AH ?_))
  exact q _ d7
 ·have fr:∀ {Q':W->Sto->Prop},Q' (.lst (sP (x8 fs))) (S6++[Ob.ins "Plain" []])->Ev (NI 2 Z9C [O1 hs,.ref p'] (S6++[Ob.ins "Plain" []])) Q':=λq'=>o7 net ok qh (uK (up e)) (KA (up e)) q'
  rcases st with⟨rfl,s,rfl,s0,s1⟩|⟨rfl,hu⟩
  ·refine Ev.eo (W3M (IQ net fr qh s0 s1 ?_))
   refine PFe ?_
   (try refine AH ?_)
   exact q _ (RunAt.new (r:=Rn.start hs fs) d6 rfl).2
  ·refine OR fr qh (λq'=>aJ hu q') ⟨_,_,_,rfl,by decide +kernel,?_⟩
   refine uO (z := "until") ?_
   have eqs:=aN (S:=S6++[Ob.ins "Plain" [("left",.lst (sP (srt (x8 fs))))]])
   (repeat (first|(with_reducible refine G6 eqs ?_)|refine AH ?_))
   exact q _ (d6.push (show cH _ [.lst (sP (srt (x8 fs)))]=true by simp only[cH,W3,cW,Bool.and_self]))
end
def chS (name kind:Str) (b:Bool):Sps:=.cons (.add 0 (.num 1)) (.cons (.send name kind 1 .handed) (if b=true then .cons (.send name kind 1 .handed) .nil else .nil))
def chH (name kind:Str) (b:Bool):Ho:=⟨name,[0],[(kind,chS name kind b)]⟩
section
variable {name kind:Str} {b:Bool} {stop:Int}
theorem FO (n1:Nam name) (n2:Nam kind):UM [chH name kind b]:=by
 have own:∀ s ∈ (chS name kind b).all,s.Own (1:Int) [name]:=by
  intro s hs
  have o1:(Sp.add 0 (.num 1)).Own (1:Int) [name]:=⟨⟨by decide,by decide⟩,⟨by decide,by decide⟩,by decide⟩
  have o2:(Sp.send name kind 1 .handed).Own (1:Int) [name]:=⟨⟨qw,n2,by decide,by decide⟩,True.intro,by decide⟩
  cases b
  ·simp only[chS,Sps.all,Sp.under,qo,jv,if_neg (show ¬ false=true by decide),qu,or_false] at hs
   rcases hs with rfl|rfl
   ·exact o1
   ·exact o2
  ·simp only[chS,Sps.all,Sp.under,qo,jv,if_pos,qu,or_false] at hs
   rcases hs with rfl|rfl|rfl
   ·exact o1
   ·exact o2
   ·exact o2
 refine⟨jg 1,show 1<=6 by decide,List.nodup_cons.mpr ⟨(λz=>nomatch z),Qb⟩,λh hh=>?_⟩
 rw[qp.mp hh]
 refine⟨n1,show 1<=1 by decide,show 1<=4 by decide,λc hc=>?_,show 1<=8 by decide,λr hr=>?_,List.nodup_cons.mpr ⟨(λz=>nomatch z),Qb⟩,λr hr=>?_,λr hr=>?_,λr hr s hs=>?_⟩
 ·rw[qp.mp hc]
  exact⟨by decide,by decide⟩
 ·rw[qp.mp hr]
  exact n2
 ·rw[qp.mp hr]
  cases b <;> simp [chS,Sps.dep,Sp.dep]
 ·rw[qp.mp hr]
  cases b <;> simp [chS,Sps.all,Sp.under]
 ·rw[qp.mp hr] at hs
  exact own s hs
theorem DL:NH [chH name kind b] name kind=chS name kind b:=by
 simp [NH,HR,oY,chH]
theorem fES {x:Lt8} {c:Int} {spot:Int} (to:x.to=name) (kd:x.kind=kind):ZQ [chH name kind b] x.nt [c] spot=⟨[(c+1) % 1000003],KY x.nt spot name kind 1 x.number 0 :: (if b=true then [KY x.nt spot name kind 1 x.number 1] else []),[]⟩:=by
 show(NH [chH name kind b] x.to x.kind).run x.nt spot ⟨[c],[],[]⟩=_
 rw[to,kd,DL]
 cases b <;> rfl
def ChL (name kind:Str) (t:Int) (ls:List Lt8):Prop:=∀ y ∈ ls,y.to=name/\y.kind=kind/\y.time<=t
def chT (b:Bool) (i:Nat):Int:=if b=true/\3<=i then(if i<=4 then i else i - 1) else i+1
theorem vL (b:Bool) (i:Nat):(b=false/\chT b i=i+1) \/ (b=true/\i < 3/\chT b i=i+1) \/ (b=true/\(3<=i/\i<=4)/\chT b i=i) \/ (b=true/\5<=i/\chT b i=i - 1):=by
 unfold chT
 cases b
 ·exact .inl ⟨rfl,if_neg (by simp)⟩
 ·by_cases h:3<=i
  ·by_cases h4:i<=4
   ·exact .inr (.inr (.inl ⟨rfl,⟨h,h4⟩,by rw[if_pos ⟨rfl,h⟩,if_pos h4]⟩))
   ·exact .inr (.inr (.inr ⟨rfl,by omega,by rw[if_pos ⟨rfl,h⟩,if_neg h4]⟩))
  ·exact .inr (.inl ⟨rfl,by omega,if_neg λz=>h z.2⟩)
structure Ch (name kind:Str) (b:Bool) (r:Rn) (i:Nat):Prop where
 past:r.past.length=i
 held:r.held name=[((i:Nat):Int)]
 left:ChL name kind (chT b i) r.left
 len:r.left.length=if b=true then i+1 else 1
 one:b=false->∀ y ∈ r.left,y.time=i+1
 e2:i=2->b=true->∃ y ∈ r.left,y.time<=2
 e4:i=4->b=true->∃ y ∈ r.left,y.time<=3
theorem Ch.due {r:Rn} {i:Nat} (h:Ch name kind b r i) (i3:i<=300) (s:if b=true then 299<=stop else(i:Int)+1<=stop) (e4:i<=4->5<=stop):r.due stop=true:=by
 unfold Rn.due
 cases e:r.left with
 | nil=>
  have:=h.len
  rw[e] at this
  cases b
  ·cases this
  ·cases this
 | cons x xs=>
  have t:=(h.left x (by rw[e];exact qw)).2.2
  refine decide_eq_true ?_
  rcases vL b i with⟨hb,e1⟩|⟨hb,l1,e1⟩|⟨hb,l1,e1⟩|⟨hb,l1,e1⟩
  ·rw[hb,if_neg qg] at s
   omega
  ·rw[hb,if_pos rfl] at s
   omega
  ·rw[hb,if_pos rfl] at s
   omega
  ·rw[hb,if_pos rfl] at s
   omega
theorem Ch.step {r:Rn} {i:Nat} (h:Ch name kind b r i) (so:srt r.left=r.left) (i3:i < 300) (d:r.due stop=true):Ch name kind b (r.step [chH name kind b] stop) (i+1):=by
 obtain⟨x,xs,e,t⟩:=Rn.due_is d
 rw[Rn.step_due e t]
 obtain⟨to,kd,xt⟩:=h.left x (by rw[e];exact qw)
 have least:∀ y ∈ xs,x.time<=y.time:=kD (so.trans e)
 have out:r.out [chH name kind b] x=⟨[(((i:Nat):Int)+1) % 1000003],KY x.nt (uJ r.past x:Nat) name kind 1 x.number 0 :: (if b=true then [KY x.nt (uJ r.past x:Nat) name kind 1 x.number 1] else []),[]⟩:=by
  show ZQ _ x.nt (r.held x.to) _=_
  rw[to,h.held]
  exact fES to kd
 obtain⟨ss,hss⟩:∃ ss:List Lt8,ss=(r.out [chH name kind b] x).sends.map xL:=⟨_,rfl⟩
 have ssl:ss.length=if b=true then 2 else 1:=by
  rw[hss,out]
  cases b <;> rfl
 have sst:∀ y ∈ ss,y.to=name/\y.kind=kind/\y.time=x.time+1:=by
  intro y hy
  rw[hss,out] at hy
  cases b
  ·have hy:y ∈ [xL (KY x.nt (uJ r.past x:Nat) name kind 1 x.number 0)]:=hy
   rw[qp.mp hy]
   exact⟨rfl,rfl,rfl⟩
  ·have hy:y ∈ [xL (KY x.nt (uJ r.past x:Nat) name kind 1 x.number 0),xL (KY x.nt (uJ r.past x:Nat) name kind 1 x.number 1)]:=hy
   simp only[qo,qu,or_false] at hy
   rcases hy with rfl|rfl <;> exact⟨rfl,rfl,rfl⟩
 have lf:∀ y,y ∈ (r.did [chH name kind b] x xs).left ↔ y ∈ xs \/ y ∈ ss:=λy=>by
  show y ∈ srt (xs++(r.out [chH name kind b] x).sends.map xL) ↔ _
  rw[<- hss,(HE _).mem_iff,ji]
 have xsl:xs.length+1=if b=true then i+1 else 1:=by
  have:=h.len
  rw[e,qs] at this
  exact this
 have xst:∀ y ∈ xs,y.to=name/\y.kind=kind/\y.time<=chT b i:=λy hy=>h.left y (by rw[e];exact qy _ hy)
 have x2:i=2->b=true->x.time<=2:=λi2 hb=>by
  obtain⟨y,hy,yt⟩:=h.e2 i2 hb
  rw[e] at hy
  rcases qo.mp hy with rfl|hy
  ·exact yt
  ·exact yf (least y hy) yt
 have x4:i=4->b=true->x.time<=3:=λi4 hb=>by
  obtain⟨y,hy,yt⟩:=h.e4 i4 hb
  rw[e] at hy
  rcases qo.mp hy with rfl|hy
  ·exact yt
  ·exact yf (least y hy) yt
 refine⟨?_,?_,λy hy=>?_,?_,λhb y hy=>?_,λi2 hb=>?_,λi4 hb=>?_⟩
 ·rw[Rn.did_past,h.past]
 ·show(if name=x.to then(r.out [chH name kind b] x).cells else r.held name)=_
  rw[if_pos to.symm,out]
  show [(((i:Nat):Int)+1) % 1000003]=_
  rw[Int.emod_eq_of_lt qh qh]
  rfl
 ·rcases(lf y).mp hy with hy|hy
  ·obtain⟨a1,a2,a3⟩:=xst y hy
   refine⟨a1,a2,yf a3 ?_⟩
   rcases vL b i with⟨hb,e1⟩|⟨hb,l1,e1⟩|⟨hb,l1,e1⟩|⟨hb,l1,e1⟩ <;> rcases vL b (i+1) with⟨hc,e2⟩|⟨hc,l2,e2⟩|⟨hc,l2,e2⟩|⟨hc,l2,e2⟩ <;> first|exact absurd (hb.symm.trans hc) qg|omega
  ·obtain⟨a1,a2,a3⟩:=sst y hy
   refine⟨a1,a2,?_⟩
   rw[a3]
   rcases vL b i with⟨hb,e1⟩|⟨hb,l1,e1⟩|⟨hb,l1,e1⟩|⟨hb,l1,e1⟩ <;> rcases vL b (i+1) with⟨hc,e2⟩|⟨hc,l2,e2⟩|⟨hc,l2,e2⟩|⟨hc,l2,e2⟩ <;> first|exact absurd (hb.symm.trans hc) qg|omega|(have:=x2 qh hb;omega)|(have:=x4 qh hb;omega)
 ·show(srt (xs++(r.out [chH name kind b] x).sends.map xL)).length=_
  rw[<- hss,RR,qr,ssl]
  cases b
  ·rw[if_neg qg] at xsl ⊢
   rw[if_neg qg]
   omega
  ·rw[if_pos rfl] at xsl ⊢
   rw[if_pos rfl]
   omega
 ·have x1:=h.one hb x (by rw[e];exact qw)
  rcases(lf y).mp hy with hy|hy
  ·rw[hb,if_neg qg] at xsl
   have:xs=[]:=List.eq_nil_of_length_eq_zero qh
   rw[this] at hy
   cases hy
  ·rw[(sst y hy).2.2,x1]
   omega
 ·have j1:i=1:=by omega
  rw[hb,if_pos rfl] at xsl
  obtain⟨y,ys,ey⟩:∃ y ys,xs=y :: ys:=by
   cases xs with
   | nil=>simp only[jh] at xsl;omega
   | cons y ys=>exact⟨y,ys,rfl⟩
  have hy:y ∈ xs:=by rw[ey];exact qw
  refine⟨y,(lf y).mpr (.inl hy),?_⟩
  have:=(xst y hy).2.2
  rcases vL b i with⟨hc,e1⟩|⟨hc,l1,e1⟩|⟨hc,l1,e1⟩|⟨hc,l1,e1⟩ <;> omega
 ·have j3:i=3:=by omega
  rw[hb,if_pos rfl] at xsl
  obtain⟨y,ys,ey⟩:∃ y ys,xs=y :: ys:=by
   cases xs with
   | nil=>simp only[jh] at xsl;omega
   | cons y ys=>exact⟨y,ys,rfl⟩
  have hy:y ∈ xs:=by rw[ey];exact qw
  refine⟨y,(lf y).mpr (.inl hy),?_⟩
  have:=(xst y hy).2.2
  rcases vL b i with⟨hc,e1⟩|⟨hc,l1,e1⟩|⟨hc,l1,e1⟩|⟨hc,l1,e1⟩
  ·rw[hb] at hc
   cases hc
  all_goals omega
def chF (name kind:Str):F4:=⟨1,name,kind,5⟩
theorem TJ (n2:Nam kind):∀ f ∈ [chF name kind],f.Ok [chH name kind b]:=by
 intro f hf
 rw[qp.mp hf]
 exact⟨show(1:Int)<=1 by decide,show(1:Int)<=1000 by decide,qw,n2,⟨show(0:Int)<=5 by decide,show(5:Int) < 1000003 by decide⟩⟩
theorem wU (n1:Nam name) (n2:Nam kind):Ch name kind b (Rn.start [chH name kind b] [chF name kind]) 0:=by
 have ls:(Rn.start [chH name kind b] [chF name kind]).left=[F4.lt (chF name kind,0)]:=List.perm_singleton.mp (HE _)
 refine⟨rfl,?_,λy hy=>?_,?_,λ_ y hy=>?_,(λz=>by cases z),(λz=>by cases z)⟩
 ·exact kU (FO n1 n2) (h:=chH name kind b) qw
 ·rw[ls] at hy
  rw[qp.mp hy]
  refine⟨rfl,rfl,?_⟩
  unfold chT
  rw[if_neg (λz=>by have:=z.2;omega)]
  show(1:Int)<=((0:Nat):Int)+1
  decide
 ·rw[ls]
  cases b <;> rfl
 ·rw[ls] at hy
  rw[qp.mp hy]
  rfl
def chN (b:Bool) (stop:Int):Nat:=if b=true then 300 else min stop.toNat 300
theorem LYx (n1:Nam name) (n2:Nam kind) (s0:299<=stop) (s1:stop<=1000):∀ i,i<=chN b stop->Ch name kind b ((Rn.start [chH name kind b] [chF name kind]).go [chH name kind b] stop i) i/\∀ k,k < i->((Rn.start [chH name kind b] [chF name kind]).go [chH name kind b] stop k).due stop=true
 | 0,_=>⟨wU n1 n2,λk hk=>by omega⟩
 | i+1,hi=>by
  obtain⟨c,d⟩:=LYx n1 n2 s0 s1 i qh
  have net:=FO (b:=b) n1 n2
  have ok:=Rn.Ok.go net (nI (fs:=[chF name kind]) net (TJ n2) (show 1<=20 by decide)) s1 rfl i (by unfold chN at hi;split at hi <;> omega)
  have i3:i < 300:=by unfold chN at hi;split at hi <;> omega
  have dd:=c.due (stop:=stop) qh (by
   unfold chN at hi
   cases b
   ·rw[if_neg qg] at hi ⊢
    omega
   ·rw[if_pos rfl]
    exact s0) (λ_=>by omega)
  refine⟨c.step ok.so i3 dd,λk hk=>?_⟩
  by_cases e:k=i
  ·rw[e]
   exact dd
  ·exact d k qh
theorem Rn.go_add {hs:List Ho} {r:Rn} (a:Nat):∀ m:Nat,(r.go hs stop a).go hs stop m=r.go hs stop (a+m)
 | 0=>rfl
 | m+1=>by
  show((r.go hs stop a).go hs stop m).step hs stop=(r.go hs stop (a+m)).step hs stop
  rw[Rn.go_add a m]
end
section
variable {S S':Sto} {n p:Nat} {hs:List Ho} {stop:Int} {r:Rn} {Q:W->Sto->Prop}
theorem RunAt.push {o:Ob} (h:RunAt n p hs stop r S) (ho:oB (S.length+1) o=true):RunAt n p hs stop r (S++[o]):=⟨h.1.app _,h.2.push ho⟩
theorem VH (h:DS (n+18) S) (q:∀ a b S',Nam a->Nam b->DS n S'->Past2 S S'->Q (.lst [.str a,.str b]) S'):Ev (mN 2 Z9x [.ref 1,.int 2] S) Q:=by
 obtain⟨R,h,hr⟩:=h
 refine u7 hr qg qg h λfs S' l nm _ h'=>?_
 match fs,l,nm with
 | [a,b],_,nm=>exact q a b S' (nm a qw) (nm b (qy _ qw)) ⟨R,h',hr⟩ (mW h h')
 | [],l,_=>cases l
 | [_],l,_=>simp at l
 | _ :: _ :: _ :: _,l,_=>simp at l;omega
theorem bN {w:W} {S:Sto} (h:eqW S w w=some true):(λS x y=>Qf (λb=>W.bl !b) (eqW S x y)) S w w=some (.bl false):=by
 show(eqW S w w).map (λb=>W.bl (!b))=_
 rw[h]
 rfl
def B0F:W:=.tup [.str "many",.int 300]
theorem VUd:eqW S B0F B0F=some true:=(yX (k:=0) (n:=100) (N:=300) (λw hw=>by
 simp only[qo,qu,or_false] at hw
 rcases hw with rfl|rfl
 ·exact sU qf qf
 ·exact LB qg qg) qg).same qg S (.inl rfl)
theorem uL {i:Int}:(PyData.tuple [PyData.int i]).eqv (PyData.tuple [PyData.int i])=true:=PySem.SeqAt.eqv_refl _ (by simp [PyData.canLay0,PyData.canLayAll0])
def sH (b:Bool) (stop:Int):W:=if b=true \/ 300 < stop then B0F else .non
theorem JVI {b:Bool}:eqW S (sH b stop) (sH b stop)=some true:=by
 unfold sH
 split
 ·exact VUd
 ·rfl
theorem yOs (h:DS (n+100) S) (q:∀ S',DS n S'->Q (.bl true) S'):Ev (AT 1 Z9a [.ref 1] S) Q:=by
 refine M9 rfl ?_
 unfold Z9a Z67
 refine pI rfl ?_
 refine E9 (Ev.imp (Q:=λoc S'=>∃ (b:Bool) (stop:Int),oc = .nx [some (.ref 1),some (.int (if b=true then 1 else 0)),some (.int stop),none,none,none,none,none,none,none]/\299<=stop/\stop<=1000/\DS (n+98) S') ?_ ?_)
 ·(try refine AH ?_)
  refine SF (n:=n+99) h qg qg λv S1 v0 v1 d1 _=>?_
  (try refine AH ?_)
  refine A3 (xs:=[.int 299,.int 300,.int 301,.int 999]) (n:=n+98) d1 (by simp) (by simp) (λx hx=>?_) λw S2 hw d2 _=>?_
  ·simp only[qo,qu,or_false] at hx
   rcases hx with rfl|rfl|rfl|rfl <;> rfl
  ·obtain⟨s,s0,s1,rfl⟩:∃ s:Int,299<=s/\s<=1000/\w = .int s:=by
    simp only[qo,qu,or_false] at hw
    rcases hw with rfl|rfl|rfl|rfl
    ·exact⟨_,by decide,by decide,rfl⟩
    ·exact⟨_,by decide,by decide,rfl⟩
    ·exact⟨_,by decide,by decide,rfl⟩
    ·exact⟨_,by decide,by decide,rfl⟩
   (try refine AH ?_)
   by_cases z:v=0
   ·exact⟨false,s,by rw[z];rfl,s0,s1,d2⟩
   ·exact⟨true,s,by rw[show v=1 by omega];rfl,s0,s1,d2⟩
 clear h
 rintro _ S2 ⟨b,stop,rfl,s0,s1,d2⟩
 with_reducible refine GM ?_
 obtain⟨v,hv⟩:∃ v:Int,v=if b=true then 1 else 0:=⟨_,rfl⟩
 rw[<- hv]
 refine E9 (Ev.imp (Q:=λoc S'=>∃ name kind:Str,oc = .nx [some (.ref 1),some (.int v),some (.int stop),some (.str name),some (.str kind),none,none,none,none,none]/\Nam name/\Nam kind/\DS (n+80) S') ?_ ?_)
 ·(try refine AH ?_)
  refine VH (n:=n+80) d2 λa b S' na nb d' _=>?_
  (try refine AH ?_)
  exact⟨a,b,rfl,na,nb,d'⟩
 clear d2
 rintro _ S3 ⟨name,kind,rfl,n1,n2,d3⟩
 with_reducible refine GM ?_
 obtain⟨sw,hsw⟩:∃ sw:W,sw = .tup [.str "send",.str name,.str kind,.int 1,.tup [.str "handed"]]:=⟨_,rfl⟩
 refine E9 (Ev.imp (Q:=λoc S'=>oc = .nx [some (.ref 1),some (.int v),some (.int stop),some (.str name),some (.str kind),some sw,none,none,none,none]/\S'=S3) ?_ ?_)
 ·(try refine AH ?_)
  rw[hsw]
  exact⟨rfl,rfl⟩
 rintro _ S' ⟨rfl,z⟩
 rw[z]
 clear z S'
 with_reducible refine GM ?_
 refine E9 (Ev.imp (Q:=λoc S'=>oc = .nx [some (.ref 1),some (.int v),some (.int stop),some (.str name),some (.str kind),some sw,some (.tup (chS name kind b).ws),none,none,none]/\S'=S3) ?_ ?_)
 ·have rp:(λ_:Sto=>F1) S3 (.tup [sw]) (.int (1+v))=some (.tup (sw :: if b=true then [sw] else [])):=by
   rw[hv]
   cases b
   ·show(if (1+0:Int)=1 then some (W.tup [sw]) else if 2<=(1+0:Int)/\(1+0:Int)<=1000/\[sw] ≠ []/\[sw].length<=1000 then some (W.tup (yz (1+0:Int).toNat [sw]).flatten) else none)=_
    exact if_pos rfl
   ·show(if (1+1:Int)=1 then some (W.tup [sw]) else if 2<=(1+1:Int)/\(1+1:Int)<=1000/\[sw] ≠ []/\[sw].length<=1000 then some (W.tup (yz (1+1:Int).toNat [sw]).flatten) else none)=_
    rw[if_neg qg,if_pos ⟨by decide,by decide,List.cons_ne_nil _ _,show 1<=1000 by decide⟩]
    rfl
  have ad:MY S3 (.tup [.tup [.str "add",.int 0,.tup [.str "number",.int 1]]]) (.tup (sw :: if b=true then [sw] else []))=some (.tup (chS name kind b).ws):=by
   rw[hsw]
   cases b <;> rfl
  (repeat (first|(with_reducible refine G6 rp ?_)|(with_reducible refine G6 ad ?_)|refine AH ?_))
  exact⟨rfl,rfl⟩
 rintro _ S' ⟨rfl,z⟩
 rw[z]
 clear z S'
 with_reducible refine GM ?_
 have net:=FO (b:=b) n1 n2
 obtain⟨hs,hhs⟩:∃ hs,hs=[chH name kind b]:=⟨_,rfl⟩
 obtain⟨r0,hr0⟩:∃ r0,r0=Rn.start hs [chF name kind]:=⟨_,rfl⟩
 obtain⟨p,hp⟩:∃ p,p=S3.length:=⟨_,rfl⟩
 have p2:2<=p:=by have:=d3.two;omega
 have l3:(chS name kind b).ws=(chS name kind b).ws:=rfl
 refine E9 (Ev.imp (Q:=λoc S'=>oc = .nx [some (.ref 1),some (.int v),some (.int stop),some (.str name),some (.str kind),some sw,some (.tup (chS name kind b).ws),some (.ref p),none,none]/\RunAt n p hs stop r0 S') ?_ ?_)
 ·have mh:∀ {S:Sto} {Q':W->Sto->Prop},Q' (chH name kind b).w S->Ev (nV "House" 4 Z9O [.str name,.tup [.int 0],.tup [.tup [.str kind,.tup (chS name kind b).ws]]] S) Q':=λq'=>MD rfl rfl (by simp only[W3,cH,(chS name kind b).below0,Bool.and_self]) q'
  have mp:∀ {S:Sto} {Q':W->Sto->Prop},Q' (O1 [chH name kind b]) S->Ev (nV "Plan" 2 Z9N [.lst [(chH name kind b).w]] S) Q':=λq'=>oO (hs:=[chH name kind b]) net q'
  refine aR (DU ?_)
  (repeat (first|(with_reducible refine mh ?_)|(with_reducible refine mp ?_)|refine AH ?_))
  refine⟨⟨rfl,rfl⟩,?_⟩
  refine IQ (hs:=[chH name kind b]) (fs:=[chF name kind]) (x:=.lst [(chF name kind).w]) net (λq'=>o7 net (TJ n2) (show 1<=20 by decide) rfl rfl q') (show 1<=20 by decide) qh s1 ?_
  (try refine AH ?_)
  rw[hp,hr0,hhs]
  exact⟨rfl,RunAt.new (r:=Rn.start [chH name kind b] [chF name kind]) (d3.mono qh) rfl⟩
 clear d3
 rintro _ S4 ⟨rfl,j4⟩
 with_reducible refine GM ?_
 have gt:(v=1) ↔ b=true:=by rw[hv];cases b <;> simp
 refine E9 (Ev.imp (Q:=λoc S'=>oc = .nx [some (.ref 1),some (.int v),some (.int stop),some (.str name),some (.str kind),some sw,some (.tup (chS name kind b).ws),some (.ref p),some (sH b stop),none]/\S'=S4) ?_ ?_)
 ·(try refine AH ?_)
  refine UL (λz=>?_) (λz=>?_)
  ·have hb:=gt.mp (of_decide_eq_true z)
   (try refine AH ?_)
   unfold sH
   rw[if_pos (.inl hb)]
   exact⟨rfl,rfl⟩
  ·have hb:¬ b=true:=λc=>of_decide_eq_false z (gt.mpr c)
   (try refine AH ?_)
   refine UL (λz=>?_) (λz=>?_)
   ·have z:=of_decide_eq_true z
    (try refine AH ?_)
    unfold sH
    rw[if_pos (.inr qh)]
    exact⟨rfl,rfl⟩
   ·have z:=of_decide_eq_false z
    (try refine AH ?_)
    unfold sH
    rw[if_neg (λc=>c.elim hb λc=>z qh)]
    exact⟨rfl,rfl⟩
 rintro _ S' ⟨rfl,z⟩
 rw[z]
 clear z S'
 with_reducible refine GM ?_
 obtain⟨N,hN⟩:∃ N,N=chN b stop:=⟨_,rfl⟩
 have N3:N<=300:=by rw[hN];unfold chN;split <;> omega
 have go:∀ i,i<=N->Ch name kind b (r0.go hs stop i) i/\∀ k,k < i->(r0.go hs stop k).due stop=true:=by rw[hN,hr0,hhs];exact LYx n1 n2 s0 s1
 have chN':=(go N (jg _)).1
 have dues:=(go N (jg _)).2
 have oks:∀ i,i<=400->(r0.go hs stop i).Ok hs:=λi hi=>by
  rw[hr0,hhs]
  exact Rn.Ok.go net (nI (fs:=[chF name kind]) net (TJ n2) (show 1<=20 by decide)) s1 rfl i qh
 have nth:UM hs:=by rw[hhs];exact net
 have own:Own (RunAt n p hs stop) p hs stop:=m7 p2
 have full:(b=true \/ 300 < stop)->N=300/\(r0.go hs stop N).due stop=true:=λz=>by
  have e:N=300:=by
   rw[hN]
   unfold chN
   split
   ·rfl
   ·rename_i hb
    have:=z.resolve_left hb
    omega
  refine⟨e,chN'.due qh ?_ (λ_=>by omega)⟩
  split
  ·exact s0
  ·rename_i hb
   have:=z.resolve_left hb
   omega
 have over:¬ (b=true \/ 300 < stop)->(r0.go hs stop N).due stop=false:=λz=>by
  have hb:b=false:=by cases b <;> simp at z ⊢
  have e:((N:Nat):Int)=stop:=by
   rw[hN]
   unfold chN
   rw[hb,if_neg qg]
   have:¬ 300 < stop:=λc=>z (.inr c)
   omega
  unfold Rn.due
  cases el:(r0.go hs stop N).left with
  | nil=>rfl
  | cons x xs=>
   have:=chN'.one hb x (by rw[el];exact qw)
   exact decide_eq_false qh
 have held:(r0.go hs stop N).held name=[((N:Nat):Int)]:=chN'.held
 have past:(r0.go hs stop N).past.length=N:=chN'.past
 obtain⟨rN,hrN⟩:∃ rN,rN=r0.go hs stop N:=⟨_,rfl⟩
 obtain⟨dl,hdl⟩:∃ dl,dl=sH b stop:=⟨_,rfl⟩
 rw[<- hdl]
 have deq:∀ {S:Sto},(λS x y=>Qf (λb=>W.bl !b) (eqW S x y)) S dl dl=some (.bl false):=λ{S}=>by rw[hdl];exact bN JVI
 have ran:∀ {S:Sto} {j:Nat} {L:Lo} {Q':W->Sto->Prop},j=0 \/ j=N->L[7]?.join=some (.ref p)->RunAt n p hs stop (r0.go hs stop j) S->(∀ S',RunAt n p hs stop rN S'->Q' dl S')->Ev (vV ["NoFirst", "NoChoice", "NoHouse", "TooMany"] (PL "Plain" "run" (NI 1 Z9M) (uV 7) JN) (IH hI) L S) Q':=λ{S j L Q'} hj h7 ja q'=>by
  have jN:j<=N:=by omega
  have e:∀ k,(r0.go hs stop j).go hs stop k=r0.go hs stop (j+k):=λk=>Rn.go_add j k
  have eN:(r0.go hs stop j).go hs stop (N - j)=r0.go hs stop N:=by rw[e];congr 1;omega
  refine QK (YU (C6 h7 ⟨ja.1.cls qf,k8 ?_⟩))
  by_cases z:b=true \/ 300 < stop
  ·obtain⟨f1,f2⟩:=full z
   refine(mLy (N:=N - j) own ja nth s1 (λk hk=>?_) ?_ ?_ λS' j'=>?_).imp (λ_ _ z=>z.elim) λ_ _ z=>z
   ·rw[e]
    have g:=go (j+k) qh
    exact⟨oks _ qh,by rw[g.1.past];omega,dues _ qh⟩
   ·rw[eN,past,f1]
   ·rw[eN]
    exact f2
   ·rw[eN,<- hrN] at j'
    refine⟨_,_,_,rfl,by decide +kernel,u4 (i:=300) ?_⟩
    have:=q' S' j'
    rw[hdl] at this
    unfold sH at this
    rw[if_pos z] at this
    exact this
  ·have o:=over z
   refine Ev.eo (nRZ (fP0 (N:=N - j) own ja nth s1 (λk hk=>?_) (by rw[eN];exact o) λS' j'=>?_))
   ·rw[e]
    have g:=go (j+k) qh
    refine⟨oks _ qh,λdk=>?_⟩
    rw[g.1.past]
    by_cases c:j+k=300
    ·have:N=j+k:=by omega
     rw[<- this,o] at dk
     cases dk
    ·omega
   ·rw[eN,<- hrN] at j'
    refine PFe ?_
    have:=q' S' j'
    rw[hdl] at this
    unfold sH at this
    rw[if_neg z] at this
    exact this
 have cell:∀ {S:Sto} {Q':W->Sto->Prop},RunAt n p hs stop rN S->Q' (.tup [.int ((N:Nat):Int)]) S->Ev (AT 2 Z98 [.ref p,.str name] S) Q':=λ{S Q'} ja q'=>by
  refine cV ja.1 (by rw[hhs];exact qw) ?_
  rw[hrN,held]
  exact q'
 have done:∀ {S:Sto} {Q':W->Sto->Prop},RunAt n p hs stop rN S->Q' (.ref S.length) (S++[.lst (EH rN.past)])->Ev (AT 1 Z9K [.ref p] S) Q':=λja q'=>e3F ja.1 q'
 have stepd:∀ {S:Sto} {L:Lo} {Q':W->Sto->Prop},(b=true \/ 300 < stop)->L[7]?.join=some (.ref p)->RunAt n p hs stop rN S->Q' dl S->Ev (vV ["NoFirst", "NoChoice", "NoHouse", "TooMany"] (PL "Plain" "step" (NI 1 Z9W) (uV 7) JN) (IH hI) L S) Q':=λ{S L Q'} z h7 ja q'=>by
  obtain⟨f1,f2⟩:=full z
  refine QK (YU (C6 h7 ⟨ja.1.cls qf,k8 ?_⟩))
  refine(jJ own ja (by rw[hrN];exact f2) (by rw[hrN,past,f1]) ?_).imp (λ_ _ z=>z.elim) λ_ _ z=>z
  refine⟨_,_,_,rfl,by decide +kernel,u4 (i:=300) ?_⟩
  rw[hdl] at q'
  unfold sH at q'
  rw[if_pos z] at q'
  exact q'
 have j4:RunAt n p hs stop (r0.go hs stop 0) S4:=j4
 have plen:rN.past.length=N:=by rw[hrN];exact past
 clear dues oks chN' go hr0 over held past
 refine E9 ?_
 refine G1 ?_
 (try refine AH ?_)
 refine fI (λxs L S=>∃ (j:Nat) (a9:Option W),(j=0 \/ j=N)/\L=[some (.ref 1),some (.int v),some (.int stop),some (.str name),some (.str kind),some sw,some (.tup (chS name kind b).ws),some (.ref p),some dl,a9]/\RunAt n p hs stop (r0.go hs stop j) S) (λ_ _=>False) ?_ ?_ (λ_ _ z=>z.elim) _ _ _ ⟨0,_,.inl rfl,rfl,j4⟩
 ·rintro y ys L S ⟨j,a9,hj,rfl,ja⟩
  refine⟨True.intro,?_⟩
  refine fR ?_
  generalize hLL:([some (.ref 1),some (.int v),some (.int stop),some (.str name),some (.str kind),some sw,some (.tup (chS name kind b).ws),some (.ref p),some dl,a9]:Lo).set 9 (some y)=LL
  have v1:LL[1]?.join=some (.int v):=by rw[<- hLL];rfl
  have v2:LL[2]?.join=some (.int stop):=by rw[<- hLL];rfl
  have v3:LL[3]?.join=some (.str name):=by rw[<- hLL];rfl
  have v7:LL[7]?.join=some (.ref p):=by rw[<- hLL];rfl
  have v8:LL[8]?.join=some dl:=by rw[<- hLL];rfl
  refine E9 (Ev.imp (Q:=λoc S'=>oc = .nx LL/\RunAt n p hs stop rN S') ?_ ?_)
  ·refine UA1 (yB (iP (kG (ran hj v7 ja λS' j'=>?_))))
   refine C6 v8 (G6 deq ⟨false,rfl,?_⟩)
   have cq:=λ{Q'}=>cell (Q':=Q') j'
   have a':=j'.1
   have fin:Ev (dF LL S') (λoc S''=>oc = .nx LL/\RunAt n p hs stop rN S''):=by
    (try refine AH ?_)
    exact⟨rfl,j'⟩
   refine RD rfl (iP (kG ?_))
   (repeat (first|(with_reducible refine C6 v7 ?_)|(with_reducible refine C6 v3 ?_)|(with_reducible refine C6 v1 ?_)|(with_reducible refine C6 v2 ?_)|(with_reducible refine⟨a'.cls qf,?_⟩)|(with_reducible refine cq ?_)|refine uT ?_))
   refine UL (λz=>?_) (λz=>?_)
   ·have hb:b=false:=by
     cases b
     ·rfl
     ·rw[hv] at z
      exact absurd (of_decide_eq_true z) qg
    have hn:(if (300:Int) < stop then(300:Int) else stop)=((N:Nat):Int):=by
     rw[hN]
     unfold chN
     rw[hb,if_neg (show ¬ false=true by decide)]
     split <;> omega
    (repeat (first|(with_reducible refine C6 v2 ?_)|refine uT ?_))
    exact RD (by rw[hn,uL];rfl) fin
   ·have hb:b=true:=by
     cases b
     ·rw[hv] at z
      exact absurd rfl (of_decide_eq_false z)
     ·rfl
    have hn:(300:Int)=((N:Nat):Int):=by rw[(full (.inl hb)).1];rfl
    (repeat (first|(with_reducible refine C6 v2 ?_)|refine uT ?_))
    exact RD (by rw[hn,uL];rfl) fin
  clear ja
  rintro _ S5 ⟨rfl,j5⟩
  with_reducible refine GM ?_
  have j6:RunAt n p hs stop rN (S5++[.lst (EH rN.past)]):=j5.push (bX (eK _))
  have dq:=λ{Q'}=>done (Q':=Q') j5
  have cq:=λ{Q'}=>cell (Q':=Q') j6
  have a5:=j5.1
  have a6:=j6.1
  have ln:eP (S5++[.lst (EH rN.past)]) [.ref S5.length]=some (.int (N:Nat)):=by
   show(yG _ (.ref S5.length)).map (λxs=>W.int (xs.length:Nat))=_
   rw[bU dE,Option.map_some]
   unfold EH
   rw[qq,plen]
  (repeat (first|(with_reducible refine C6 v7 ?_)|(with_reducible refine C6 v3 ?_)|(with_reducible refine⟨a5.cls qf,?_⟩)|(with_reducible refine⟨a6.cls qf,?_⟩)|(with_reducible refine dq ?_)|(with_reducible refine cq ?_)|(with_reducible refine jK ln ?_)|refine uT ?_))
  refine RD (by rw[decide_eq_true rfl];rfl) ?_
  have nxt:∀ {Q':Oc->Sto->Prop} {S':Sto},Q' (.nx LL) S'->Ev (dF LL S') Q':=λq'=>q'
  have fin:∃ (j:Nat) (a9:Option W),(j=0 \/ j=N)/\LL=[some (.ref 1),some (.int v),some (.int stop),some (.str name),some (.str kind),some sw,some (.tup (chS name kind b).ws),some (.ref p),some dl,a9]/\RunAt n p hs stop (r0.go hs stop j) (S5++[.lst (EH rN.past)]):=⟨N,some y,.inr rfl,by rw[<- hLL];rfl,by rw[<- hrN];exact j6⟩
  by_cases z:b=true \/ 300 < stop
  ·have nn:(λ(_:Sto) (x y:W)=>match y with | .non=>RX x | _=>none) (S5++[.lst (EH rN.past)]) dl .non=some (.bl true):=by
    rw[hdl]
    unfold sH
    rw[if_pos z]
    rfl
   (repeat (first|(with_reducible refine C6 v8 ?_)|(with_reducible refine G6 nn ?_)|refine uT ?_))
   refine stepd z v7 j6 ?_
   refine C6 v8 (G6 deq ⟨false,rfl,?_⟩)
   refine RD rfl ?_
   (try refine AH ?_)
   exact fin
  ·have nn:(λ(_:Sto) (x y:W)=>match y with | .non=>RX x | _=>none) (S5++[.lst (EH rN.past)]) dl .non=some (.bl false):=by
    rw[hdl]
    unfold sH
    rw[if_neg z]
    rfl
   (repeat (first|(with_reducible refine C6 v8 ?_)|(with_reducible refine G6 nn ?_)|refine uT ?_))
   exact fin
 ·rintro L S ⟨j,a9,hj,rfl,ja⟩
  refine⟨True.intro,?_⟩
  (try refine AH ?_)
  exact q S ja.2
end
def Rkd (k:Nat) (w:W):Prop:=∃ n,Rp k n w
theorem Rkd.mono {k k':Nat} {w:W} (h:Rkd k w) (le:k<=k'):Rkd k' w:=by
 obtain⟨n,h⟩:=h
 exact⟨n,h.mono le (jg _)⟩
theorem YO {k:Nat}:∀ {ws:List W},(∀ w ∈ ws,Rkd k w)->∃ n,∀ w ∈ ws,Rp k n w
 | [],_=>⟨0,λ_ z=>nomatch z⟩
 | w :: ws,h=>by
  obtain⟨n,a⟩:=h w qw
  obtain⟨m,b⟩:=YO λx hx=>h x (qy _ hx)
  refine⟨max n m,λx hx=>?_⟩
  rcases qo.mp hx with rfl|hx
  ·exact a.mono (jg _) (Nat.le_max_left _ _)
  ·exact(b x hx).mono (jg _) (Nat.le_max_right _ _)
theorem OC {k:Nat} {ws:List W} (h:∀ w ∈ ws,Rkd k w):Rkd (k+1) (.tup ws):=by
 obtain⟨n,h⟩:=YO h
 exact⟨_,yX h (jg _)⟩
theorem nSv {k:Nat} {ws:List W} (h:∀ w ∈ ws,Rkd k w):Rkd (k+1) (.lst ws):=by
 obtain⟨n,h⟩:=YO h
 exact⟨_,WMm h (jg _)⟩
theorem jP {k:Nat} {i:Int} (h:i.natAbs < 10 ^ 12):Rkd k (.int i):=⟨40,LB h (jg _)⟩
theorem KR {k:Nat} {z:Str} (h:PyData.strOk z=true):Rkd k (.str z):=⟨_,sU h (jg _)⟩
theorem Sm.re {m:Int} (m4:m<=4):∀ {e:Sm},e.Ok m->Rkd (e.dep+1) e.w
 | .num v,h=>OC λw hw=>by
  simp only[qo,qu,or_false] at hw
  rcases hw with rfl|rfl
  ·exact KR qf
  ·have h1:=h.1
   have h2:=h.2
   exact jP qh
 | .cell k,h=>OC λw hw=>by
  simp only[qo,qu,or_false] at hw
  rcases hw with rfl|rfl
  ·exact KR qf
  ·have h1:=h.1
   have h2:=h.2
   exact jP qh
 | .handed,_=>OC λw hw=>by
  rw[qp.mp hw]
  exact KR qf
 | .time,_=>OC λw hw=>by
  rw[qp.mp hw]
  exact KR qf
 | .two o a b,h=>OC λw hw=>by
  simp only[qo,qu,or_false] at hw
  rcases hw with rfl|rfl|rfl
  ·exact KR (by cases o <;> decide +kernel)
  ·exact(Sm.re m4 h.1).mono (by simp only[Sm.dep];omega)
  ·exact(Sm.re m4 h.2).mono (by simp only[Sm.dep];omega)
theorem Sm.re7 {m:Int} (m4:m<=4) {e:Sm} (h:e.Ok m) (d:e.dep < 6):Rkd 7 e.w:=(Sm.re m4 h).mono qh
section
variable {m:Int} {every:List Str}
mutual
theorem Sp.re (m4:m<=4) (nm:∀ z ∈ every,Nam z):∀ (s:Sp),s.Own m every->(∀ y ∈ s.under,y.Own m every)->Rkd (2 * s.dep+8) s.w
 | .put k e,o,_=>OC λw hw=>by
  obtain⟨⟨k0,k1⟩,o2,o3⟩:=o
  simp only[qo,qu,or_false] at hw
  rcases hw with rfl|rfl|rfl
  ·exact KR qf
  ·exact jP qh
  ·exact(Sm.re7 m4 o2 o3).mono qh
 | .add k e,o,_=>OC λw hw=>by
  obtain⟨⟨k0,k1⟩,o2,o3⟩:=o
  simp only[qo,qu,or_false] at hw
  rcases hw with rfl|rfl|rfl
  ·exact KR qf
  ·exact jP qh
  ·exact(Sm.re7 m4 o2 o3).mono qh
 | .swap k j,o,_=>OC λw hw=>by
  obtain⟨⟨k0,k1⟩,j0,j1⟩:=o
  simp only[qo,qu,or_false] at hw
  rcases hw with rfl|rfl|rfl
  ·exact KR qf
  ·exact jP qh
  ·exact jP qh
 | .tell e,o,_=>OC λw hw=>by
  obtain⟨o2,o3⟩:=o
  simp only[qo,qu,or_false] at hw
  rcases hw with rfl|rfl
  ·exact KR qf
  ·exact(Sm.re7 m4 o2 o3).mono qh
 | .send to kind late e,o,_=>OC λw hw=>by
  obtain⟨⟨h1,h2,h3,h4⟩,o2,o3⟩:=o
  simp only[qo,qu,or_false] at hw
  rcases hw with rfl|rfl|rfl|rfl|rfl
  ·exact KR qf
  ·exact KR (nm to h1).strOk
  ·exact KR h2.strOk
  ·exact jP qh
  ·exact(Sm.re7 m4 o2 o3).mono qh
 | .ite e a b,o,u=>OC λw hw=>by
  obtain⟨o2,o3⟩:=o
  have ra:=Sps.re m4 nm a λy hy=>u y (zk _ hy)
  have rb:=Sps.re m4 nm b λy hy=>u y (ym _ hy)
  simp only[qo,qu,or_false] at hw
  rcases hw with rfl|rfl|rfl|rfl
  ·exact KR qf
  ·exact(Sm.re7 m4 o2 o3).mono qh
  ·exact(OC ra).mono (by simp only[Sp.dep];omega)
  ·exact(OC rb).mono (by simp only[Sp.dep];omega)
theorem Sps.re (m4:m<=4) (nm:∀ z ∈ every,Nam z):∀ (s:Sps),(∀ y ∈ s.all,y.Own m every)->∀ w ∈ s.ws,Rkd (2 * s.dep+8) w
 | .nil,_=>λw hw=>nomatch hw
 | .cons s r,o=>λw hw=>by
  have r1:=Sp.re m4 nm s (o s qw) λy hy=>o y (qy _ (zk _ hy))
  have r2:=Sps.re m4 nm r λy hy=>o y (qy _ (ym _ hy))
  have hw:w ∈ s.w :: r.ws:=hw
  rcases qo.mp hw with rfl|hw
  ·exact r1.mono (by simp only[Sps.dep];omega)
  ·exact(r2 w hw).mono (by simp only[Sps.dep];omega)
end
end
theorem x5V {hs:List Ho} (net:UM hs):∀ h ∈ hs,Rkd 25 (hoT h):=λh hh=>by
 have o:=net.ok h hh
 refine(OC (k:=24) λw hw=>?_)
 simp only[qo,qu,or_false] at hw
 rcases hw with rfl|rfl|rfl
 ·exact KR o.nam.strOk
 ·refine OC (k:=23) λw hw=>?_
  obtain⟨c,hc,rfl⟩:=jc.mp hw
  have:=o.wt c hc
  have:=this.1
  have:=(o.wt c hc).2
  exact jP qh
 ·refine OC (k:=23) λw hw=>?_
  obtain⟨r,hr,rfl⟩:=jc.mp hw
  have c4:=o.c4
  have sd:=o.sd r hr
  refine OC (k:=22) λw hw=>?_
  simp only[qo,qu,or_false] at hw
  rcases hw with rfl|rfl
  ·exact KR (o.kn r hr).strOk
  ·exact OC (k:=21) λw hw=>(Sps.re (m:=(h.cells.length:Nat)) (every:=hs.map Ho.name) qh (λz hz=>xV net hz) r.2 (o.st r hr) w hw).mono qh
theorem jXK {k:Nat} {S:Sto} {ws:List W} (h:Rkd k (.tup ws)) (hk:k<=50):eqW S (.tup ws) (.tup ws)=some true:=by
 obtain⟨n,h⟩:=h
 exact h.same hk S (.inl rfl)
section
variable {S S':Sto} {n:Nat} {Q:W->Sto->Prop}
theorem D4F (h:DS (n+1000000) S) (q:∀ hs kinds S',W3v hs kinds->DS n S'->Q (ySf hs kinds) S'):Ev (mN 2 Z8H [.ref 1,.int 4] S) Q:=by
 obtain⟨R,h,hr⟩:=h
 exact SWJ hr qg qg h λhs kinds S' nets h'=>q hs kinds S' nets ⟨R,h',hr⟩
theorem yH (ns0:List Int) (hn:ns0.length<=63):Ev (Z7q [.scr ns0] []) λw _=>w = .bl true:=by
 have r2:([]:Sto).all (oB (([]:Sto).length+2))=true:=rfl
 unfold Z7q cD
 refine pI rfl ?_
 (try refine AH ?_)
 refine M9 rfl (SJI qh λS1 h1=>?_)
 refine fR ?_
 with_reducible refine GM ?_
 have d1:DS 2000000 S1:=⟨[],h1.mono qh,r2⟩
 refine E9 (Ev.imp (Q:=λoc S'=>∃ (hs:List Ho) (kinds:List Str),oc = .nx [some (.scr ns0),some (.ref 1),some (.lst (hs.map hoT)),some (.lst (CU kinds)),none,none,none]/\W3v hs kinds/\DS 900000 S') ?_ ?_)
 ·(try refine AH ?_)
  refine D4F (n:=900000) (d1.mono qh) λhs kinds S' nets d'=>?_
  unfold ySf
  (try refine AH ?_)
  exact⟨hs,kinds,rfl,nets,d'⟩
 clear d1 h1 r2
 rintro _ S2 ⟨hs,kinds,rfl,nets,d2⟩
 with_reducible refine GM ?_
 have net:=nets.net
 have n6:=net.n6
 refine E9 (Ev.imp (Q:=λoc S'=>∃ a4:Option W,oc = .nx [some (.scr ns0),some (.ref 1),some (.lst (hs.map hoT)),some (.lst (CU kinds)),a4,none,none]/\DS 500000 S') ?_ ?_)
 ·refine G1 ?_
  (try refine AH ?_)
  refine fI (λxs L S=>∃ (a4:Option W),L=[some (.scr ns0),some (.ref 1),some (.lst (hs.map hoT)),some (.lst (CU kinds)),a4,none,none]/\DS (500000+1000 * xs.length) S) (λ_ _=>False) ?_ ?_ (λ_ _ z=>z.elim) _ _ _ ⟨_,rfl,d2.mono (by rw[show(lS 0 10).items.length=10 from rfl];omega)⟩
  ·rintro y ys L S ⟨a4,rfl,d⟩
   refine⟨True.intro,?_⟩
   rw[qs] at d
   refine fR ?_
   (try refine AH ?_)
   refine NN (n:=500000+1000 * ys.length) nets (d.mono qh) λS' d'=>?_
   (try refine AH ?_)
   exact⟨_,rfl,d'⟩
  ·rintro L S ⟨a4,rfl,d⟩
   refine⟨True.intro,?_⟩
   exact⟨a4,rfl,d.mono qh⟩
 clear d2
 rintro _ S3 ⟨a4,rfl,d3⟩
 with_reducible refine GM ?_
 obtain⟨nw,hnw⟩:∃ nw,nw=W.lst (hs.map hoT):=⟨_,rfl⟩
 rw[<- hnw]
 obtain⟨p,hp⟩:∃ p,p=S3.length:=⟨_,rfl⟩
 have p2:2<=p:=by have:=d3.two;omega
 obtain⟨r0,hr0⟩:∃ r0,r0=Rn.start hs []:=⟨_,rfl⟩
 refine E9 (Ev.imp (Q:=λoc S'=>oc = .nx [some (.scr ns0),some (.ref 1),some nw,some (.lst (CU kinds)),a4,some (.ref p),none]/\RunAt 400000 p hs 60 r0 S') ?_ ?_)
 ·have bu:∀ {S:Sto} {Q':W->Sto->Prop},Q' (O1 hs) S->Ev (H0 1 Z9u [nw] S) Q':=λ{S Q'} q'=>by rw[hnw];exact K4 net q'
  refine aR (DU ?_)
  (repeat (first|(with_reducible refine bu ?_)|refine AH ?_))
  refine⟨⟨rfl,rfl⟩,?_⟩
  refine IQ (hs:=hs) (fs:=[]) (x:=.lst []) (stop:=60) net (λq'=>o7 (fs:=[]) net (λ_ z=>by cases z) (jf _) rfl rfl q') (jf _) qg qg ?_
  (try refine AH ?_)
  rw[hp,hr0]
  exact⟨rfl,RunAt.new (r:=Rn.start hs []) (d3.mono qh) rfl⟩
 clear d3
 rintro _ S4 ⟨rfl,j4⟩
 with_reducible refine GM ?_
 have own:Own (RunAt 300000 p hs 60) p hs 60:=m7 p2
 refine E9 (Ev.imp (Q:=λoc S'=>∃ od:W,oc = .nx [some (.scr ns0),some (.ref 1),some nw,some (.lst (CU kinds)),a4,some (.ref p),some od]/\((∀ S:Sto,iQ S [od,.ty "str"]=some (.bl false)) \/ ∃ z:Str,od = .str z/\z ∉ hs.map Ho.name)/\Rkd 40 (.tup [.str "house",od])/\RunAt 300000 p hs 60 r0 S') ?_ ?_)
 ·(try refine AH ?_)
  refine A3 (xs:=[.non,.int 5,.str "zzzzzzz",.str "",.bl true,.lst [.str "a"],nw]) (n:=300000) (j4.2.mono qh) (by simp) (by simp) (λx hx=>?_) λw S5 hw d5 p5=>?_
  ·simp only[qo,qu,or_false] at hx
   rcases hx with rfl|rfl|rfl|rfl|rfl|rfl|rfl
   ·rfl
   ·rfl
   ·rfl
   ·rfl
   ·rfl
   ·rfl
   ·rw[hnw]
    exact RM
  ·have long:∀ z:Str,¬ Nam z->z ∉ hs.map Ho.name:=λz h m=>h (xV net m)
   have hh:∀ {x:W},Rkd 38 x->Rkd 40 (.tup [.str "house",x]):=λ{x} h=>(OC (k:=38) λw hw=>by
    simp only[qo,qu,or_false] at hw
    rcases hw with rfl|rfl
    ·exact KR qf
    ·exact h).mono qg
   have two:=j4.1
   have a5:PlainAt S5 p hs 60 r0:=⟨(p5.2 _ p2).trans two.ins,(p5.2 _ qh).trans two.kept,(p5.2 _ qh).trans two.past,(p5.2 _ qh).trans two.heard⟩
   have fin:((∀ S:Sto,iQ S [w,.ty "str"]=some (.bl false)) \/ ∃ z:Str,w = .str z/\z ∉ hs.map Ho.name)/\Rkd 38 w:=by
    simp only[qo,qu,or_false] at hw
    rcases hw with rfl|rfl|rfl|rfl|rfl|rfl|rfl
    ·exact⟨.inl λ_=>rfl,⟨0,GRK⟩⟩
    ·exact⟨.inl λ_=>rfl,jP qg⟩
    ·exact⟨.inr ⟨_,rfl,long _ qf⟩,KR qf⟩
    ·exact⟨.inr ⟨_,rfl,long _ qf⟩,KR qf⟩
    ·exact⟨.inl λ_=>rfl,⟨0,xPI⟩⟩
    ·exact⟨.inl λ_=>rfl,(nSv (k:=1) λx hx=>by rw[qp.mp hx];exact KR qf).mono qg⟩
    ·rw[hnw]
     exact⟨.inl λ_=>rfl,(nSv (k:=25) λx hx=>by
      obtain⟨h,hm,rfl⟩:=jc.mp hx
      exact x5V net h hm).mono qg⟩
   (try refine AH ?_)
   exact⟨w,rfl,fin.1,hh fin.2,a5,d5⟩
 clear j4
 rintro _ S5 ⟨od,rfl,ho,re,j5⟩
 with_reducible refine GM ?_
 have a5:=j5.1
 obtain⟨h0,rr,ehs⟩:∃ h0 rr,hs=h0 :: rr:=by
  have n1:=net.n1
  cases e:hs with
  | nil=>
   rw[e] at n1
   cases n1
  | cons h r=>exact⟨h,r,rfl⟩
 have hm:h0 ∈ hs:=by rw[ehs];exact qw
 have i0:ixW S5 nw (.int 0)=some (hoT h0):=by
  rw[hnw,ehs]
  exact XZ
 have i1:ixW S5 (hoT h0) (.int 0)=some (.str h0.name):=rfl
 have i2:ixW S5 (hoT h0) (.int 1)=some (.tup (DX h0.cells)):=rfl
 refine E9 (Ev.imp (Q:=λoc S'=>oc = .nx [some (.scr ns0),some (.ref 1),some nw,some (.lst (CU kinds)),a4,some (.ref p),some od]/\S'=S5) ?_ ?_)
 ·have cq:∀ {Q':W->Sto->Prop},Q' (.tup (DX h0.cells)) S5->Ev (AT 2 Z98 [.ref p,.str h0.name] S5) Q':=λ{Q'} q'=>cV a5 (List.mem_map_of_mem hm) (by
   rw[hr0]
   show Q' (.tup (DX (P7 hs h0.name))) S5
   rw[kU net hm]
   exact q')
  have nc:(λS x y=>Qf (λb=>W.bl !b) (eqW S x y)) S5 (.tup (DX h0.cells)) (.tup (DX h0.cells))=some (.bl false):=bN (jXK (k:=23) ((OC (k:=22) λw hw=>by
   obtain⟨c,hc,rfl⟩:=jc.mp hw
   have o:=(net.ok h0 hm).wt c hc
   have o1:=o.1
   have o2:=o.2
   exact jP qh)) qg)
  have ref:∀ {L:Lo} {Q':W->Sto->Prop},L[5]?.join=some (.ref p)->L[6]?.join=some od->Q' (.tup [.str "house",od]) S5->Ev (vV ["NoFirst", "NoChoice", "NoHouse", "TooMany"] (PL "Plain" "cells_of" (NI 2 Z98) (uV 5) (O9 (uV 6) JN)) (IH hI) L S5) Q':=λ{L Q'} h5 h6 q'=>by
   refine QK (YU (C6 h5 ⟨a5.cls qf,mO (C6 h6 (k8 ?_))⟩))
   refine(YC a5 (ho.imp (λz=>z S5) id) ?_).imp (λ_ _ z=>z.elim) λ_ _ z=>z
   exact⟨_,_,_,rfl,by decide +kernel,i5y q'⟩
  have nh:(λS x y=>Qf (λb=>W.bl !b) (eqW S x y)) S5 (.tup [.str "house",od]) (.tup [.str "house",od])=some (.bl false):=bN (jXK re qg)
  refine UA1 (yB (iP (kG (ref rfl rfl ?_))))
  (repeat (first|(with_reducible refine G6 nh ?_)|(with_reducible refine⟨a5.cls qf,?_⟩)|(with_reducible refine zB i0 ?_)|(with_reducible refine zB i1 ?_)|(with_reducible refine zB i2 ?_)|(with_reducible refine cq ?_)|(with_reducible refine G6 nc ?_)|refine AH ?_))
  exact⟨rfl,rfl⟩
 rintro _ S' ⟨rfl,z⟩
 rw[z]
 clear z S'
 with_reducible refine GM ?_
 have nd:r0.due 60=false:=by
  rw[hr0]
  have l0:=RR (x8 [])
  unfold Rn.due Rn.start
  cases e:srt (x8 []) with
  | nil=>rfl
  | cons x xs=>
   rw[e] at l0
   cases l0
 have ok0:r0.Ok hs:=by rw[hr0];exact nI net (λ_ z=>by cases z) (jf _)
 have sp:∀ {Q':W->Sto->Prop},(∀ S',RunAt 300000 p hs 60 r0 S'->Q' (.bl false) S')->Ev (AT 1 Z9W [.ref p] S5) Q':=λ{Q'} q'=>y3 own j5 net ok0 qg (λc=>by
  rw[nd] at c
  cases c) λS' j'=>by
  rw[nd]
  rw[Rn.step_not nd] at j'
  exact q' S' j'
 (repeat (first|(with_reducible refine⟨a5.cls qf,?_⟩)|refine AH ?_))
 refine sp λS6 j6=>?_
 (try refine AH ?_)
 refine yOs (n:=1000) (j6.2.mono qh) λS7 d7=>?_
 (try refine AH ?_)
 all_goals rfl
end
abbrev GTb (K:qk):Str->Addr:=λc:Str=>if c = "House" then(C2 K) else if c = "Plan" then(BO K) else if c = "Doing" then(uX K) else if c = "Plain" then(HB K) else if c = "NoFirst" then(eZ K) else if c = "NoChoice" then(qV K) else if c = "NoHouse" then(qG K) else if c = "TooMany" then(fZ K) else if c = "Idle" then(fB K) else if c = "NoLog" then(YR K) else if c = "NoPlace" then(fT K) else if c = "NoPlan" then(GZ K) else if c = "NoRoom" then(mX K) else if c = "NoText" then(QL K) else if c = "TooFar" then(aB K) else if c = "PostError" then(qP K) else if c=gO "_law_begins.<locals>.<lambda>" then Cp.tabA K (KQ K) else if c=gO "_law_long.<locals>.<lambda>" then Cp.tabA K (lM K) else if c=gO "law.<locals>.<lambda>" then Cp.tabA K (JS K) else 0
theorem all_mk {K:qk} {h:Heap} {mg:Str->Option Value} {fa:Addr} (X:K.In h) (NsG:h.Ns mainGlobals mg) (hfa:mg "law" = some (.ref fa)) (c:Cp.Told [] hfn hck K) (tk:∀ a ∈ hta K,Cp.TabK K a) :
  ∃ (G:Str->Addr) (T:Txt K G mg),T.FQ=fa/\∀ (s:Shared) (v:Value),BindsTo s T.JI ⟨[v],[]⟩ [("_law_script",v)]:=by
 have Z6T:=c.eq 0
 have Z3T:=c.at 1
 have Z6S:=c.eq 2
 have Z3S:=c.at 3
 have Z7m:=c.eq 4
 have Z37:=c.at 5
 have Z6R:=c.eq 6
 have Z3R:=c.at 7
 have Z3G:=c.eq 8
 have Z23:=c.eq 9
 have Z20:=c.eq 10
 have Z5O:=c.eq 11
 have Z45:=c.eq 12
 have Z4h:=c.eq 13
 have Z6c:=c.eq 14
 have Z52:=c.at 15
 have Z41:=c.eq 16
 have Z3L:=c.eq 17
 have Z3K:=c.eq 18
 have Z2C:=c.eq 19
 have Z47:=c.eq 20
 have Z42:=c.eq 21
 have Z5N:=c.eq 22
 have Z4i:=c.eq 23
 have Z7n:=c.eq 24
 have Z5M:=c.eq 25
 have Z5y:=c.at 26
 have Z24:=c.eq 27
 have Z25:=c.eq 28
 have Z43:=c.eq 29
 have Z3M:=c.eq 30
 have Z5P:=c.eq 31
 have Z6a:=c.eq 32
 have Z50:=c.at 33
 have Z6Q:=c.eq 34
 have Z6J:=c.at 35
 have Z5J:=c.eq 36
 have Z5v:=c.at 37
 have Z5I:=c.eq 38
 have Z5u:=c.at 39
 have Z6O:=c.eq 40
 have Z6H:=c.at 41
 have Z5K:=c.eq 42
 have Z5w:=c.at 43
 have Z6b:=c.eq 44
 have Z51:=c.at 45
 have Z6P:=c.eq 46
 have Z6I:=c.at 47
 have Z6s:=c.eq 48
 have Z6n:=c.at 49
 have Z46:=c.eq 50
 have Z44:=c.eq 51
 have Z6e:=c.eq 52
 have Z54:=c.at 53
 have Z7C:=c.eq 54
 have Z7s:=c.at 55
 have Z70:=c.eq 56
 have Z7J:=c.at 57
 have Z6f:=c.eq 58
 have Z55:=c.at 59
 have Z5L:=c.eq 60
 have Z5x:=c.at 61
 have Z7B:=c.eq 62
 have Z7r:=c.at 63
 have Z6d:=c.eq 64
 have Z53:=c.at 65
 have Z21:=c.eq 66
 have Z3J:=c.eq 67
 have Z22:=c.eq 68
 have Z3I:=c.eq 69
 have Z2B:=c.eq 70
 have Z3H:=c.eq 71
 have Z40:=c.eq 72
 have Z4g:=c.eq 73
 have Z4f:=c.eq 74
 have Z2Z:=c.eq 75
 have Z2D:=c.eq 76
 have Z8W:=c.eq 77
 have Z85:=c.eq 78
 have Z86:=c.eq 79
 have Z3O:=c.eq 80
 have Z3x:=c.at 81
 have Z3n:=c.at 82
 have Z3A:=c.at 83
 have Z3D:=c.eq 84
 have Z3u:=c.at 85
 have Z3r:=c.at 86
 have Z89:=c.eq 87
 have Z27:=c.eq 88
 have Z2V:=c.at 89
 have Z2O:=c.at 90
 have Z2W:=c.at 91
 have Z2X:=c.eq 92
 have Z2U:=c.at 93
 have Z2T:=c.at 94
 have Z9f:=c.eq 95
 have Z81:=c.eq 96
 have Z82:=c.eq 97
 have Z83:=c.eq 98
 have Z84:=c.eq 99
 have Z3N:=c.eq 100
 have Z3w:=c.at 101
 have Z3m:=c.at 102
 have Z3z:=c.at 103
 have Z3C:=c.eq 104
 have Z3t:=c.at 105
 have Z3q:=c.at 106
 have Z9g:=c.eq 107
 have Z8Z:=c.eq 108
 have Z88:=c.eq 109
 have Z8X:=c.eq 110
 have Z8Y:=c.eq 111
 have Z87:=c.eq 112
 have Z3Q:=c.eq 113
 have Z3y:=c.at 114
 have Z3o:=c.at 115
 have Z3B:=c.at 116
 have Z3E:=c.eq 117
 have Z3v:=c.at 118
 have Z3s:=c.at 119
 obtain⟨t_MODULUS,E7⟩:=He.int_ok X NsG (c.at 120)
 obtain⟨t_LETTERS,A5⟩:=He.str_ok X NsG (c.at 121)
 obtain⟨t_LONGEST,WN⟩:=He.int_ok X NsG (c.at 122)
 obtain⟨t_MOST_CELLS,c5⟩:=He.int_ok X NsG (c.at 123)
 obtain⟨t_MOST_HOUSES,I4⟩:=He.int_ok X NsG (c.at 124)
 obtain⟨t_MOST_DELAY,rJ⟩:=He.int_ok X NsG (c.at 125)
 obtain⟨t_MOST_TIME,sS⟩:=He.int_ok X NsG (c.at 126)
 obtain⟨t_UNTIL,A9⟩:=He.int_ok X NsG (c.at 127)
 obtain⟨t_MOST,SY⟩:=He.int_ok X NsG (c.at 128)
 obtain⟨t_LATEST,yE⟩:=He.int_ok X NsG (c.at 129)
 have x_TWO_PARTS:=c.eq 130
 have l_TWO_PARTS:=He.tupB_ok (c.at 131)
 have jD:=c.eq 132
 have hY:=c.eq 133
 have KW:=c.eq 134
 have WM:=c.eq 135
 have R6:=c.eq 136
 have DR:=c.eq 137
 have yP:=c.eq 138
 have xQ:=c.eq 139
 have R9:=c.eq 140
 have YD:=c.eq 141
 have DQ:=c.eq 142
 have CG:=c.eq 143
 have NT:=c.eq 144
 have aT:=c.eq 145
 have AA:=c.eq 146
 have Z48:=c.eq 147
 have Z5Q:=c.eq 148
 have Z49:=c.eq 149
 have Z5b:=c.eq 150
 have Z26:=c.eq 151
 have Z3P:=c.eq 152
 have Z5a:=c.eq 153
 have Z4j:=c.eq 154
 have Z4k:=c.eq 155
 have Z4l:=c.eq 156
 have Z4m:=c.eq 157
 have Z6g:=c.eq 158
 have Z4X:=Cp.excA_ok (c.at 159)
 have Z4Q:=c.eq 160
 have Z6u:=c.eq 161
 have Z6A:=c.eq 162
 have Z4K:=c.at 163
 have Z76:=c.eq 164
 have Z7c:=c.eq 165
 have Z7b:=c.eq 166
 have Z7a:=c.eq 167
 have NG:=c.eq 168
 have Z5H:=Cp.excA_ok (c.at 169)
 have Z5F:=c.eq 170
 have Z63:=c.eq 171
 have Z7l:=c.eq 172
 have Z5D:=c.at 173
 have Z6N:=c.eq 174
 have Z8A:=c.eq 175
 have Z7w:=c.eq 176
 have Z7v:=c.eq 177
 have wQ:=c.eq 178
 have Z4Y:=Cp.excA_ok (c.at 179)
 have Z4R:=c.eq 180
 have Z6v:=c.eq 181
 have Z6B:=c.eq 182
 have Z4L:=c.at 183
 have Z6p:=c.eq 184
 have Z7e:=c.eq 185
 have Z8x:=c.eq 186
 have Z7d:=c.eq 187
 have uR:=c.eq 188
 have Z4Z:=Cp.excA_ok (c.at 189)
 have Z4S:=c.eq 190
 have Z6w:=c.eq 191
 have Z6C:=c.eq 192
 have Z4M:=c.at 193
 have Z6q:=c.eq 194
 have Z7g:=c.eq 195
 have Z7f:=c.eq 196
 have Z8z:=c.eq 197
 have ET:=c.eq 198
 have hn_x:=c.eq 199
 have ht_x:=c.eq 200
 have Z4z:=c.eq 201
 have Z4C:=c.eq 202
 have Z4t:=c.eq 203
 have Z4N:=c.eq 204
 have Z4w:=c.eq 205
 have Z6x:=c.eq 206
 have Z4T:=c.eq 207
 have Z8q:=c.eq 208
 have Z8b:=c.eq 209
 have Z8d:=c.eq 210
 have Z7i:=c.eq 211
 have Z7y:=c.eq 212
 have Z8c:=c.eq 213
 have Z7O:=c.eq 214
 have Z7P:=c.eq 215
 have Z7Q:=c.eq 216
 have Z7R:=c.eq 217
 have Z5r:=c.eq 218
 have Z5s:=c.eq 219
 have Z5p:=c.eq 220
 have Z5E:=c.eq 221
 have Z5q:=c.eq 222
 have Z7h:=c.eq 223
 have Z5G:=c.eq 224
 have Z8m:=c.eq 225
 have Z8n:=c.eq 226
 have Z8p:=c.eq 227
 have Z7x:=c.eq 228
 have Z7N:=c.eq 229
 have Z8o:=c.eq 230
 have Z77:=c.eq 231
 have Z78:=c.eq 232
 have Z79:=c.eq 233
 have Z8a:=c.eq 234
 have Z4A:=c.eq 235
 have Z4D:=c.eq 236
 have Z4u:=c.eq 237
 have Z4O:=c.eq 238
 have Z4x:=c.eq 239
 have Z6y:=c.eq 240
 have Z4U:=c.eq 241
 have Z8e:=c.eq 242
 have Z8r:=c.eq 243
 have Z8g:=c.eq 244
 have Z7j:=c.eq 245
 have Z7z:=c.eq 246
 have Z8f:=c.eq 247
 have Z7S:=c.eq 248
 have Z7T:=c.eq 249
 have Z7U:=c.eq 250
 have Z7V:=c.eq 251
 have Z4B:=c.eq 252
 have Z4E:=c.eq 253
 have Z4v:=c.eq 254
 have Z4P:=c.eq 255
 have Z4y:=c.eq 256
 have Z6z:=c.eq 257
 have Z4V:=c.eq 258
 have Z8h:=c.eq 259
 have Z8s:=c.eq 260
 have Z8i:=c.eq 261
 have Z7k:=c.eq 262
 have Z7A:=c.eq 263
 have Z8j:=c.eq 264
 have Z7W:=c.eq 265
 have Z7X:=c.eq 266
 have Z7Y:=c.eq 267
 have Z7Z:=c.eq 268
 have Z64:=c.at 269
 have Z7F:=c.at 270
 have Z65:=c.at 271
 have Z66:=c.at 272
 have Z3p:=c.at 273
 have Z36:=c.at 274
 have Z5t:=c.at 275
 have Z4F:=c.at 276
 have Z4G:=c.at 277
 have Z4H:=c.at 278
 have Z4J:=c.at 279
 have Z8V:=c.at 280
 have Z2Y:=c.eq 281
 have Z3F:=c.eq 282
 have Z4W:=c.eq 283
 have Z4b:=c.eq 284
 have Z4c:=c.eq 285
 have Z4d:=c.eq 286
 have Z4e:=c.eq 287
 have Z8O:=c.eq 288
 have Z8M:=c.eq 289
 have td_Lbegins_Llong:=c.eq 290
 have td_Lbegins_law:=c.eq 291
 have td_Llong_law:=c.eq 292
 have e:=hfa.symm.trans (jd X NsG Z2D)
 cases e
 obtain⟨z7,Z6Z⟩:∃ fd,FunD K "__init__" "TooMany.__init__" (defArgs jR) (defBody jR) (defScope jR) [] [] (IZ K) fd:=c.c.def_ 0
 have CN:L2.Fun K "__init__" "TooMany.__init__" jR (IZ K) z7:=Cp.fun_of Z6Z
 have Z3W:=CN.kp
 have HQ:=CN.binds (ps:=xW) λ_ _ _ _ _ _ us hl=>match us,hl with|[_,_],_=>rfl
 obtain⟨CI,Z6Y⟩:∃ fd,FunD K "__init__" "NoHouse.__init__" (defArgs bS) (defBody bS) (defScope bS) [] [] (bC K) fd:=c.c.def_ 1
 have WC:L2.Fun K "__init__" "NoHouse.__init__" bS (bC K) CI:=Cp.fun_of Z6Y
 have Z3V:=WC.kp
 have oT:=WC.binds (ps:=G8) λ_ _ _ _ _ _ us hl=>match us,hl with|[_,_],_=>rfl
 obtain⟨tA,Z7o⟩:∃ fd,FunD K "__init__" "NoChoice.__init__" (defArgs n7) (defBody n7) (defScope n7) [] [] (FK K) fd:=c.c.def_ 2
 have DW:L2.Fun K "__init__" "NoChoice.__init__" n7 (FK K) tA:=Cp.fun_of Z7o
 have Z38:=DW.kp
 have SM:=DW.binds (ps:=mR) λ_ _ _ _ _ _ us hl=>match us,hl with|[_,_],_=>rfl
 obtain⟨eR,Z6X⟩:∃ fd,FunD K "__init__" "NoFirst.__init__" (defArgs P2) (defBody P2) (defScope P2) [] [] (WL K) fd:=c.c.def_ 3
 have WK:L2.Fun K "__init__" "NoFirst.__init__" P2 (WL K) eR:=Cp.fun_of Z6X
 have Z3U:=WK.kp
 have K1:=WK.binds (ps:=LH) λ_ _ _ _ _ _ us hl=>match us,hl with|[_,_],_=>rfl
 obtain⟨XU,Z3X⟩:∃ fd,FunD K "_law_begun" "_law_begun" (defArgs YM) (defBody YM) (defScope YM) [] [] (UY K) fd:=c.c.def_ 4
 have Z9j:L2.Fun K "_law_begun" "_law_begun" YM (UY K) XU:=Cp.fun_of Z3X
 have k_Lbegun:=Z9j.kp
 have wI:=Z9j.binds (ps:=rT) λ_ _ _ _ _ _ us hl=>match us,hl with|[_],_=>rfl
 obtain⟨CY,Z3i⟩:∃ fd,FunD K "_law_take" "_law_take" (defArgs D9) (defBody D9) (defScope D9) [] [] (XR K) fd:=c.c.def_ 5
 have Z99:L2.Fun K "_law_take" "_law_take" D9 (XR K) CY:=Cp.fun_of Z3i
 have k_Ltake:=Z99.kp
 have JV:=Z99.binds (ps:=zQ) λ_ _ _ _ _ _ us hl=>match us,hl with|[_,_],_=>rfl
 obtain⟨eW,Z3f⟩:∃ fd,FunD K "_law_pick" "_law_pick" (defArgs EB) (defBody EB) (defScope EB) [] [] (nP K) fd:=c.c.def_ 6
 have Z90:L2.Fun K "_law_pick" "_law_pick" EB (nP K) eW:=Cp.fun_of Z3f
 have k_Lpick:=Z90.kp
 have sY:=Z90.binds (ps:=BI) λ_ _ _ _ _ _ us hl=>match us,hl with|[_,_],_=>rfl
 obtain⟨ID,Z5X⟩:∃ fd,FunD K "is_number" "is_number" (defArgs sW) (defBody sW) (defScope sW) [] [] (xD K) fd:=c.c.def_ 7
 have Z96:L2.Fun K "is_number" "is_number" sW (xD K) ID:=Cp.fun_of Z5X
 have Z2R:=Z96.kp
 have BD:=Z96.binds (ps:=BR) λ_ _ _ _ _ _ us hl=>match us,hl with|[_,_,_],_=>rfl
 obtain⟨qD,Z5k⟩:∃ fd,FunD K "is_worth" "is_worth" (defArgs iX) (defBody iX) (defScope iX) [] [] (uP K) fd:=c.c.def_ 8
 have Z9P:L2.Fun K "is_worth" "is_worth" iX (uP K) qD:=Cp.fun_of Z5k
 have Z2J:=Z9P.kp
 have WF:=Z9P.binds (ps:=MH) λ_ _ _ _ _ _ us hl=>match us,hl with|[_],_=>rfl
 obtain⟨CP,Z4p⟩:∃ fd,FunD K "is_name" "is_name" (defArgs JD) (defBody JD) (defScope JD) [] [] (xJ K) fd:=c.c.def_ 9
 have Z9Q:L2.Fun K "is_name" "is_name" JD (xJ K) CP:=Cp.fun_of Z4p
 have Z2z:=Z9Q.kp
 have UQ:=Z9Q.binds (ps:=nX) λ_ _ _ _ _ _ us hl=>match us,hl with|[_],_=>rfl
 obtain⟨KF,Z6j⟩:∃ fd,FunD K "__init__" "House.__init__" (defArgs SO) (defBody SO) (defScope SO) [] [] (NW K) fd:=c.c.def_ 10
 have Z9O:L2.Fun K "__init__" "House.__init__" SO (NW K) KF:=Cp.fun_of Z6j
 have Z3a:=Z9O.kp
 have cU:=Z9O.binds (ps:=zJ) λ_ _ _ _ _ _ us hl=>match us,hl with|[_,_,_,_],_=>rfl
 obtain⟨Z4,Z5g⟩:∃ fd,FunD K "cells_in" "cells_in" (defArgs mU) (defBody mU) (defScope mU) [] [] (pS K) fd:=c.c.def_ 11
 have Z9S:L2.Fun K "cells_in" "cells_in" mU (pS K) Z4:=Cp.fun_of Z5g
 have Z2F:=Z9S.kp
 have A2:=Z9S.binds (ps:=M7) λ_ _ _ _ _ _ us hl=>match us,hl with|[_],_=>rfl
 obtain⟨ZH,Z32⟩:∃ fd,FunD K "_law_worth" "_law_worth" (defArgs bT) (defBody bT) (defScope bT) [] [] (jM K) fd:=c.c.def_ 12
 have Z9E:L2.Fun K "_law_worth" "_law_worth" bT (jM K) ZH:=Cp.fun_of Z32
 have k_Lworth:=Z9E.kp
 have LR:=Z9E.binds (ps:=gY) λ_ _ _ _ _ _ us hl=>match us,hl with|[_],_=>rfl
 obtain⟨gR,Z31⟩:∃ fd,FunD K "_law_words" "_law_words" (defArgs iG) (defBody iG) (defScope iG) [] [] (VE K) fd:=c.c.def_ 13
 have Z9x:L2.Fun K "_law_words" "_law_words" iG (VE K) gR:=Cp.fun_of Z31
 have k_Lwords:=Z9x.kp
 have F0:=Z9x.binds (ps:=kA) λ_ _ _ _ _ _ us hl=>match us,hl with|[_,_],_=>rfl
 obtain⟨zE,Z2N⟩:∃ fd,FunD K "_law_sum" "_law_sum" (defArgs pF) (defBody pF) (defScope pF) [] [] (RK K) fd:=c.c.def_ 14
 have Z9d:L2.Fun K "_law_sum" "_law_sum" pF (RK K) zE:=Cp.fun_of Z2N
 have k_Lsum:=Z9d.kp
 have I9:=Z9d.binds (ps:=EJ) λ_ _ _ _ _ _ us hl=>match us,hl with|[_,_,_],_=>rfl
 obtain⟨wF,Z5m⟩:∃ fd,FunD K "reckoned" "reckoned" (defArgs LJ) (defBody LJ) (defScope LJ) [] [] (gZ K) fd:=c.c.def_ 15
 have Z9I:L2.Fun K "reckoned" "reckoned" LJ (gZ K) wF:=Cp.fun_of Z5m
 have Z2L:=Z9I.kp
 have eU:=Z9I.binds (ps:=uB) λ_ _ _ _ _ _ us hl=>match us,hl with|[_,_,_],_=>rfl
 obtain⟨VP,Z5h⟩:∃ fd,FunD K "cells_of" "cells_of" (defArgs wM) (defBody wM) (defScope wM) [] [] (sL K) fd:=c.c.def_ 16
 have Z9A:L2.Fun K "cells_of" "cells_of" wM (sL K) VP:=Cp.fun_of Z5h
 have Z2G:=Z9A.kp
 have uN:=Z9A.binds (ps:=hC) λ_ _ _ _ _ _ us hl=>match us,hl with|[_],_=>rfl
 obtain⟨WQ,Z5W⟩:∃ fd,FunD K "all_steps" "all_steps" (defArgs DP) (defBody DP) (defScope DP) [] [] (aC K) fd:=c.c.def_ 17
 have Z9R:L2.Fun K "all_steps" "all_steps" DP (aC K) WQ:=Cp.fun_of Z5W
 have Z2Q:=Z9R.kp
 have aG:=Z9R.binds (ps:=pE) λ_ _ _ _ _ _ us hl=>match us,hl with|[_],_=>rfl
 obtain⟨U4,Z4q⟩:∃ fd,FunD K "is_send" "is_send" (defArgs SI) (defBody SI) (defScope SI) [] [] (HY K) fd:=c.c.def_ 18
 have Z9t:L2.Fun K "is_send" "is_send" SI (HY K) U4:=Cp.fun_of Z4q
 have Z2A:=Z9t.kp
 have Q5:=Z9t.binds (ps:=cF) λ_ _ _ _ _ _ us hl=>match us,hl with|[_,_],_=>rfl
 obtain⟨wO,Z7p⟩:∃ fd,FunD K "flaw_of_house" "flaw_of_house" (defArgs V2) (defBody V2) (defScope V2) [] [] (cL K) fd:=c.c.def_ 19
 have Z9Y:L2.Fun K "flaw_of_house" "flaw_of_house" V2 (cL K) wO:=Cp.fun_of Z7p
 have Z39:=Z9Y.kp
 have SK:=Z9Y.binds (ps:=K7) λ_ _ _ _ _ _ us hl=>match us,hl with|[_,_,_],_=>rfl
 obtain⟨lX,Z5V⟩:∃ fd,FunD K "__init__" "Plan.__init__" (defArgs cX) (defBody cX) (defScope cX) [] [] (zT K) fd:=c.c.def_ 20
 have Z9N:L2.Fun K "__init__" "Plan.__init__" cX (zT K) lX:=Cp.fun_of Z5V
 have Z2P:=Z9N.kp
 have FU:=Z9N.binds (ps:=rA) λ_ _ _ _ _ _ us hl=>match us,hl with|[_,_],_=>rfl
 obtain⟨FG,Z3j⟩:∃ fd,FunD K "names" "names" (defArgs zM) (defBody zM) (defScope zM) [] [] (dB K) fd:=c.c.def_ 21
 have Z80:L2.Fun K "names" "names" zM (dB K) FG:=Cp.fun_of Z3j
 have k_names:=Z80.kp
 have C9:=Z80.binds (ps:=NK) λ_ _ _ _ _ _ us hl=>match us,hl with|[_],_=>rfl
 obtain⟨MB,Z3k⟩:∃ fd,FunD K "order" "order" (defArgs tI) (defBody tI) (defScope tI) [] [] (W6 K) fd:=c.c.def_ 22
 have Z8k:L2.Fun K "order" "order" tI (W6 K) MB:=Cp.fun_of Z3k
 have k_order:=Z8k.kp
 have D1:=Z8k.binds (ps:=nG) λ_ _ _ _ _ _ us hl=>match us,hl with|[_],_=>rfl
 obtain⟨pA,Z5i⟩:∃ fd,FunD K "is_first" "is_first" (defArgs pU) (defBody pU) (defScope pU) [] [] (jO K) fd:=c.c.def_ 23
 have Z9B:L2.Fun K "is_first" "is_first" pU (jO K) pA:=Cp.fun_of Z5i
 have Z2H:=Z9B.kp
 have N8:=Z9B.binds (ps:=uW) λ_ _ _ _ _ _ us hl=>match us,hl with|[_,_],_=>rfl
 obtain⟨qB,Z33⟩:∃ fd,FunD K "firsts" "firsts" (defArgs GA) (defBody GA) (defScope GA) [] [] (A1 K) fd:=c.c.def_ 24
 have Z9C:L2.Fun K "firsts" "firsts" GA (A1 K) qB:=Cp.fun_of Z33
 have k_firsts:=Z9C.kp
 have yM:=Z9C.binds (ps:=QY) λ_ _ _ _ _ _ us hl=>match us,hl with|[_,_],_=>rfl
 obtain⟨eS,Z5Y⟩:∃ fd,FunD K "steps_for" "steps_for" (defArgs P1) (defBody P1) (defScope P1) [] [] (I8 K) fd:=c.c.def_ 25
 have Z9J:L2.Fun K "steps_for" "steps_for" P1 (I8 K) eS:=Cp.fun_of Z5Y
 have Z2S:=Z9J.kp
 have zW:=Z9J.binds (ps:=XG) λ_ _ _ _ _ _ us hl=>match us,hl with|[_,_],_=>rfl
 obtain⟨AW,Z6h⟩:∃ fd,FunD K "__init__" "Doing.__init__" (defArgs kY) (defBody kY) (defScope kY) [] [] (hX K) fd:=c.c.def_ 26
 have Z9F:L2.Fun K "__init__" "Doing.__init__" kY (hX K) AW:=Cp.fun_of Z6h
 have Z29:=Z9F.kp
 have gB:=Z9F.binds (ps:=VN) λ_ _ _ _ _ _ us hl=>match us,hl with|[_,_,_,_],_=>rfl
 obtain⟨LC,Z6W⟩:∃ fd,FunD K "reckon" "Doing.reckon" (defArgs GO) (defBody GO) (defScope GO) [] [] (ML K) fd:=c.c.def_ 27
 have Z92:L2.Fun K "reckon" "Doing.reckon" GO (ML K) LC:=Cp.fun_of Z6W
 have Z6M:=Z92.kp
 have oC:=Z92.binds (ps:=sV) λ_ _ _ _ _ _ us hl=>match us,hl with|[_,_],_=>rfl
 obtain⟨LM,Z5S⟩:∃ fd,FunD K "put" "Doing.put" (defArgs rB) (defBody rB) (defScope rB) [] [] (C3 K) fd:=c.c.def_ 28
 have Z9z:L2.Fun K "put" "Doing.put" rB (C3 K) LM:=Cp.fun_of Z5S
 have Z5A:=Z9z.kp
 have UG:=Z9z.binds (ps:=gK) λ_ _ _ _ _ _ us hl=>match us,hl with|[_,_,_],_=>rfl
 obtain⟨TH,Z5R⟩:∃ fd,FunD K "add" "Doing.add" (defArgs CH) (defBody CH) (defScope CH) [] [] (wA K) fd:=c.c.def_ 29
 have Z9y:L2.Fun K "add" "Doing.add" CH (wA K) TH:=Cp.fun_of Z5R
 have Z5z:=Z9y.kp
 have nB:=Z9y.binds (ps:=qH) λ_ _ _ _ _ _ us hl=>match us,hl with|[_,_,_],_=>rfl
 obtain⟨VA,Z6U⟩:∃ fd,FunD K "change" "Doing.change" (defArgs NQ) (defBody NQ) (defScope NQ) [] [] (MP K) fd:=c.c.def_ 30
 have Z9T:L2.Fun K "change" "Doing.change" NQ (MP K) VA:=Cp.fun_of Z6U
 have Z6K:=Z9T.kp
 have HD:=Z9T.binds (ps:=gF) λ_ _ _ _ _ _ us hl=>match us,hl with|[_,_,_,_],_=>rfl
 obtain⟨NV,Z5T⟩:∃ fd,FunD K "way" "Doing.way" (defArgs SN) (defBody SN) (defScope SN) [] [] (UD K) fd:=c.c.def_ 31
 have Z9v:L2.Fun K "way" "Doing.way" SN (UD K) NV:=Cp.fun_of Z5T
 have Z5B:=Z9v.kp
 have eQ:=Z9v.binds (ps:=JE) λ_ _ _ _ _ _ us hl=>match us,hl with|[_,_,_,_],_=>rfl
 obtain⟨cO,Z6i⟩:∃ fd,FunD K "send" "Doing.send" (defArgs mD) (defBody mD) (defScope mD) [] [] (jA K) fd:=c.c.def_ 32
 have Z9G:L2.Fun K "send" "Doing.send" mD (jA K) cO:=Cp.fun_of Z6i
 have Z56:=Z9G.kp
 have OL:=Z9G.binds (ps:=JR) λ_ _ _ _ _ _ us hl=>match us,hl with|[_,_],_=>rfl
 obtain⟨CK,Z6V⟩:∃ fd,FunD K "do_all" "Doing.do_all" (defArgs gN) (defBody gN) (defScope gN) [] [] (X4 K) fd:=c.c.def_ 33
 have Z91:L2.Fun K "do_all" "Doing.do_all" gN (X4 K) CK:=Cp.fun_of Z6V
 have Z6L:=Z91.kp
 have XT:=Z91.binds (ps:=bY) λ_ _ _ _ _ _ us hl=>match us,hl with|[_,_],_=>rfl
 obtain⟨qQ,Z6F⟩:∃ fd,FunD K "found" "Doing.found" (defArgs QX) (defBody QX) (defScope QX) [] [] (cR K) fd:=c.c.def_ 34
 have Z9L:L2.Fun K "found" "Doing.found" QX (cR K) qQ:=Cp.fun_of Z6F
 have Z6o:=Z9L.kp
 have RQ:=Z9L.binds (ps:=nM) λ_ _ _ _ _ _ us hl=>match us,hl with|[_],_=>rfl
 obtain⟨RG,Z5l⟩:∃ fd,FunD K "reaction" "reaction" (defArgs y8) (defBody y8) (defScope y8) [] [] (DO K) fd:=c.c.def_ 35
 have Z9w:L2.Fun K "reaction" "reaction" y8 (DO K) RG:=Cp.fun_of Z5l
 have Z2K:=Z9w.kp
 have c7:=Z9w.binds (ps:=NZ) λ_ _ _ _ _ _ us hl=>match us,hl with|[_,_,_,_],_=>rfl
 obtain⟨ZX,Z5j⟩:∃ fd,FunD K "is_until" "is_until" (defArgs BE) (defBody BE) (defScope BE) [] [] (lH K) fd:=c.c.def_ 36
 have Z9H:L2.Fun K "is_until" "is_until" BE (lH K) ZX:=Cp.fun_of Z5j
 have Z2I:=Z9H.kp
 have N7:=Z9H.binds (ps:=YB) λ_ _ _ _ _ _ us hl=>match us,hl with|[_],_=>rfl
 obtain⟨dR,Z71⟩:∃ fd,FunD K "__init__" "Plain.__init__" (defArgs lI) (defBody lI) (defScope lI) [] [("until",.int 60)] (BB K) fd:=c.c.def_ 37
 have Z9Z:L2.Fun K "__init__" "Plain.__init__" lI (BB K) dR:=Cp.fun_of Z71
 have Z3b:=Z9Z.kp
 have fP:∃ g,KBn K dR XN 3 ["until"] g (gMk [0,1,2] []):=(λ⟨_,_,_,_,_,_,_,_,_,e,_,_⟩=>e ▸ ⟨_,cVi λs us ws l1 l2=>match us,ws,l1,l2 with|[_,_,_],[_],_,_=>.of_eq rfl⟩) Z9Z.ex
 have bJ:∃ g,KBn K dR XN 3 [] g (gMk [0,1,2] [.int 60]):=(λ⟨mv,h⟩=>⟨_,h⟩) (Z71.kbinds0 (ps:=XN) 3 [] [("until",.int 60)] (λus mv ws=>gMk [0,1,2] mv us ws) qg (by intro q hq;simp only[qo,qu,or_false] at hq ⊢;rcases hq with rfl <;> simp) (λr1 r2 r3=>iM ((r1.append r3).append r2) _) λD doc pm an cdv ct us mv ws l1 l2 l3=>match us,mv,ws,l1,l2,l3 with|[_,_,_],[_],[],_,_,_=>⟨_,_,_,_,_,_,rfl,rfl,rfl⟩)
 obtain⟨vT,Z7H⟩:∃ fd,FunD K "place_of" "Plain.place_of" (defArgs QV) (defBody QV) (defScope QV) [] [] (i6 K) fd:=c.c.def_ 38
 have Z9U:L2.Fun K "place_of" "Plain.place_of" QV (i6 K) vT:=Cp.fun_of Z7H
 have Z7u:=Z9U.kp
 have OD:=Z9U.binds (ps:=jB) λ_ _ _ _ _ _ us hl=>match us,hl with|[_,_],_=>rfl
 obtain⟨y6,Z72⟩:∃ fd,FunD K "next_time" "Plain.next_time" (defArgs AE) (defBody AE) (defScope AE) [] [] (o6 K) fd:=c.c.def_ 39
 have Z9X:L2.Fun K "next_time" "Plain.next_time" AE (o6 K) y6:=Cp.fun_of Z72
 have Z7K:=Z9X.kp
 have TY:=Z9X.binds (ps:=KO) λ_ _ _ _ _ _ us hl=>match us,hl with|[_],_=>rfl
 obtain⟨sC,Z6l⟩:∃ fd,FunD K "step" "Plain.step" (defArgs gH) (defBody gH) (defScope gH) [] [] (TL K) fd:=c.c.def_ 40
 have Z9W:L2.Fun K "step" "Plain.step" gH (TL K) sC:=Cp.fun_of Z6l
 have Z58:=Z9W.kp
 have dC:=Z9W.binds (ps:=PH) λ_ _ _ _ _ _ us hl=>match us,hl with|[_],_=>rfl
 obtain⟨z8,Z5U⟩:∃ fd,FunD K "run" "Plain.run" (defArgs U2) (defBody U2) (defScope U2) [] [] (xN K) fd:=c.c.def_ 41
 have Z9M:L2.Fun K "run" "Plain.run" U2 (xN K) z8:=Cp.fun_of Z5U
 have Z5C:=Z9M.kp
 have UZ:=Z9M.binds (ps:=FH) λ_ _ _ _ _ _ us hl=>match us,hl with|[_],_=>rfl
 obtain⟨uC,Z7G⟩:∃ fd,FunD K "cells_of" "Plain.cells_of" (defArgs OG) (defBody OG) (defScope OG) [] [] (X1 K) fd:=c.c.def_ 42
 have Z98:L2.Fun K "cells_of" "Plain.cells_of" OG (X1 K) uC:=Cp.fun_of Z7G
 have Z7t:=Z98.kp
 have bQ:=Z98.binds (ps:=WV) λ_ _ _ _ _ _ us hl=>match us,hl with|[_,_],_=>rfl
 obtain⟨fG,Z6k⟩:∃ fd,FunD K "done" "Plain.done" (defArgs Y9) (defBody Y9) (defScope Y9) [] [] (mL K) fd:=c.c.def_ 43
 have Z9K:L2.Fun K "done" "Plain.done" Y9 (mL K) fG:=Cp.fun_of Z6k
 have Z57:=Z9K.kp
 have pW:=Z9K.binds (ps:=u6) λ_ _ _ _ _ _ us hl=>match us,hl with|[_],_=>rfl
 obtain⟨BH,Z3g⟩:∃ fd,FunD K "_law_send" "_law_send" (defArgs NE) (defBody NE) (defScope NE) [] [] (Z1 K) fd:=c.c.def_ 44
 have Z9l:L2.Fun K "_law_send" "_law_send" NE (Z1 K) BH:=Cp.fun_of Z3g
 have k_Lsend:=Z9l.kp
 have gC:=Z9l.binds (ps:=V1) λ_ _ _ _ _ _ us hl=>match us,hl with|[_,_],_=>rfl
 obtain⟨lN,Z30⟩:∃ fd,FunD K "_law_steps" "_law_steps" (defArgs Q1) (defBody Q1) (defScope Q1) [] [] (HG K) fd:=c.c.def_ 45
 have Z9q:L2.Fun K "_law_steps" "_law_steps" Q1 (HG K) lN:=Cp.fun_of Z30
 have k_Lsteps:=Z9q.kp
 have uD:=Z9q.binds (ps:=wB) λ_ _ _ _ _ _ us hl=>match us,hl with|[_,_,_],_=>rfl
 obtain⟨BS,Z3h⟩:∃ fd,FunD K "_law_step" "_law_step" (defArgs IY) (defBody IY) (defScope IY) [] [] (nS K) fd:=c.c.def_ 46
 have Z8P:L2.Fun K "_law_step" "_law_step" IY (nS K) BS:=Cp.fun_of Z3h
 have k_Lstep:=Z8P.kp
 have VM:=Z8P.binds (ps:=Q6) λ_ _ _ _ _ _ us hl=>match us,hl with|[_,_,_],_=>rfl
 obtain⟨G5,Z3Z⟩:∃ fd,FunD K "_law_rules" "_law_rules" (defArgs VJ) (defBody VJ) (defScope VJ) [] [] (AM K) fd:=c.c.def_ 47
 have Z9k:L2.Fun K "_law_rules" "_law_rules" VJ (AM K) G5:=Cp.fun_of Z3Z
 have k_Lrules:=Z9k.kp
 have dP:=Z9k.binds (ps:=UE) λ_ _ _ _ _ _ us hl=>match us,hl with|[_,_],_=>rfl
 obtain⟨W2,Z2M⟩:∃ fd,FunD K "_law_net" "_law_net" (defArgs NA) (defBody NA) (defScope NA) [] [] (AV K) fd:=c.c.def_ 48
 have Z8H:L2.Fun K "_law_net" "_law_net" NA (AV K) W2:=Cp.fun_of Z2M
 have k_Lnet:=Z8H.kp
 have S0:=Z8H.binds (ps:=j8) λ_ _ _ _ _ _ us hl=>match us,hl with|[_,_],_=>rfl
 obtain⟨Y4,Z3Y⟩:∃ fd,FunD K "_law_built" "_law_built" (defArgs dM) (defBody dM) (defScope dM) [] [] (ZI K) fd:=c.c.def_ 49
 have Z9u:L2.Fun K "_law_built" "_law_built" dM (ZI K) Y4:=Cp.fun_of Z3Y
 have k_Lbuilt:=Z9u.kp
 have wW:=Z9u.binds (ps:=zX) λ_ _ _ _ _ _ us hl=>match us,hl with|[_],_=>rfl
 obtain⟨TQ,Z5f⟩:∃ fd,FunD K "_law_refused" "_law_refused" (defArgs HJ) (defBody HJ) (defScope HJ) [] [] (ME K) fd:=c.c.def_ 50
 have VW:L2.Fun K "_law_refused" "_law_refused" HJ (ME K) TQ:=Cp.fun_of Z5f
 have Z2E:=VW.kp
 have aF:=VW.binds (ps:=qM) λ_ _ _ _ _ _ us hl=>match us,hl with|[_],_=>rfl
 obtain⟨vE,Z4o⟩:∃ fd,FunD K "_law_spoilt" "_law_spoilt" (defArgs JC) (defBody JC) (defScope JC) [] [] (UC K) fd:=c.c.def_ 51
 have Z9D:L2.Fun K "_law_spoilt" "_law_spoilt" JC (UC K) vE:=Cp.fun_of Z4o
 have Z2y:=Z9D.kp
 have OV:=Z9D.binds (ps:=K9) λ_ _ _ _ _ _ us hl=>match us,hl with|[_,_],_=>rfl
 obtain⟨WU,Z4n⟩:∃ fd,FunD K "_law_begins" "_law_begins" (defArgs K8) (defBody K8) (defScope K8) [] [] (KQ K) fd:=c.c.def_ 52
 have Z9s:L2.Fun K "_law_begins" "_law_begins" K8 (KQ K) WU:=Cp.fun_of Z4n
 have Z2x:=Z9s.kp
 have B0:=Z9s.binds (ps:=qS) λ_ _ _ _ _ _ us hl=>match us,hl with|[_,_,_],_=>rfl
 obtain⟨F2,Z3e⟩:∃ fd,FunD K "_law_long" "_law_long" (defArgs DY) (defBody DY) (defScope DY) [] [] (lM K) fd:=c.c.def_ 53
 have Z9a:L2.Fun K "_law_long" "_law_long" DY (lM K) F2:=Cp.fun_of Z3e
 have k_Llong:=Z9a.kp
 have ZU:=Z9a.binds (ps:=CT) λ_ _ _ _ _ _ us hl=>match us,hl with|[_],_=>rfl
 obtain⟨JI,Z2w⟩:∃ fd,FunD K "law" "law" (defArgs vN) (defBody vN) (defScope vN) [] [] (JS K) fd:=c.c.def_ 54
 have Z7q:L2.Fun K "law" "law" vN (JS K) JI:=Cp.fun_of Z2w
 have k_law:=Z7q.kp
 have zRA:=Z7q.binds (ps:=N6) λ_ _ _ _ _ _ us hl=>match us,hl with|[_],_=>rfl
 have Z7I:(GTb K) "House" = (C2 K):=if_pos rfl
 have Z5d:(GTb K) "Plan" = (BO K):=qj (if_pos rfl)
 have Z9m:(GTb K) "Doing" = (uX K):=qj (qj (if_pos rfl))
 have Z9i:(GTb K) "Plain" = (HB K):=qj (qj (qj (if_pos rfl)))
 have Z93:(GTb K) "NoFirst" = (eZ K):=qj (qj (qj (qj (if_pos rfl))))
 have Z97:(GTb K) "NoChoice" = (qV K):=qj (qj (qj (qj (qj (if_pos rfl)))))
 have Z94:(GTb K) "NoHouse" = (qG K):=qj (qj (qj (qj (qj (qj (if_pos rfl))))))
 have Z95:(GTb K) "TooMany" = (fZ K):=qj (qj (qj (qj (qj (qj (qj (if_pos rfl)))))))
 have Z62:(GTb K) "Idle" = (fB K):=qj (qj (qj (qj (qj (qj (qj (qj (if_pos rfl))))))))
 have Z8l:(GTb K) "NoLog" = (YR K):=qj (qj (qj (qj (qj (qj (qj (qj (qj (if_pos rfl)))))))))
 have Z8Q:(GTb K) "NoPlace" = (fT K):=qj (qj (qj (qj (qj (qj (qj (qj (qj (qj (if_pos rfl))))))))))
 have Z8B:(GTb K) "NoPlan" = (GZ K):=qj (qj (qj (qj (qj (qj (qj (qj (qj (qj (qj (if_pos rfl)))))))))))
 have Z8C:(GTb K) "NoRoom" = (mX K):=qj (qj (qj (qj (qj (qj (qj (qj (qj (qj (qj (qj (if_pos rfl))))))))))))
 have Z8D:(GTb K) "NoText" = (QL K):=qj (qj (qj (qj (qj (qj (qj (qj (qj (qj (qj (qj (qj (if_pos rfl)))))))))))))
 have Z8E:(GTb K) "TooFar" = (aB K):=qj (qj (qj (qj (qj (qj (qj (qj (qj (qj (qj (qj (qj (qj (if_pos rfl))))))))))))))
 have Z8R:(GTb K) "PostError" = (qP K):=qj (qj (qj (qj (qj (qj (qj (qj (qj (qj (qj (qj (qj (qj (qj (if_pos rfl)))))))))))))))
 have e_tab_Lbegins:(GTb K) (gO "_law_begins.<locals>.<lambda>")=Cp.tabA K (KQ K):=qj (qj (qj (qj (qj (qj (qj (qj (qj (qj (qj (qj (qj (qj (qj (qj (if_pos rfl))))))))))))))))
 have e_tab_Llong:(GTb K) (gO "_law_long.<locals>.<lambda>")=Cp.tabA K (lM K):=qj (qj (qj (qj (qj (qj (qj (qj (qj (qj (qj (qj (qj (qj (qj (qj (qj (if_pos rfl)))))))))))))))))
 have e_tab_law:(GTb K) (gO "law.<locals>.<lambda>")=Cp.tabA K (JS K):=qj (qj (qj (qj (qj (qj (qj (qj (qj (qj (qj (qj (qj (qj (qj (qj (qj (qj (if_pos rfl))))))))))))))))))
 have e_tab0_Hall_move_end:(GTb K) (gO "Hall.move_end.<locals>.<lambda>")=0:=qj (qj (qj (qj (qj (qj (qj (qj (qj (qj (qj (qj (qj (qj (qj (qj (qj (qj (qj (rfl)))))))))))))))))))
 have e_tab0_ahead_told:(GTb K) (gO "ahead_told.<locals>.<lambda>")=0:=qj (qj (qj (qj (qj (qj (qj (qj (qj (qj (qj (qj (qj (qj (qj (qj (qj (qj (qj (rfl)))))))))))))))))))
 have e_tab0_Ltold:(GTb K) (gO "_law_told.<locals>.<lambda>")=0:=qj (qj (qj (qj (qj (qj (qj (qj (qj (qj (qj (qj (qj (qj (qj (qj (qj (qj (qj (rfl)))))))))))))))))))
 exact⟨(GTb K),{EE:=IZ K,z7:=_,CN:=CN,HQ:=HQ,lY:=bC K,CI:=_,WC:=WC,oT:=oT,L8:=FK K,tA:=_,DW:=DW,SM:=SM,O3:=WL K,eR:=_,WK:=WK,K1:=K1,mH:=UY K,XU:=_,Z9j:=Z9j,wI:=wI,Z73:=jd X NsG Z3G,HM:=XR K,CY:=_,Z99:=Z99,JV:=JV,Z9V:=jd X NsG Z23,hH:=nP K,eW:=_,Z90:=Z90,sY:=sY,Z9n:=jd X NsG Z20,GF:=xD K,ID:=_,Z96:=Z96,BD:=BD,Z9r:=jd X NsG Z5O,HK:=uP K,qD:=_,Z9P:=Z9P,WF:=WF,Z9c:=jd X NsG Z45,JF:=xJ K,CP:=_,Z9Q:=Z9Q,UQ:=UQ,Z9e:=jd X NsG Z4h,HZ:=NW K,KF:=_,Z9O:=Z9O,cU:=cU,F9:=pS K,Z4:=_,Z9S:=Z9S,A2:=A2,Z9b:=jd X NsG Z41,SL:=jM K,ZH:=_,Z9E:=Z9E,LR:=LR,Z8G:=jd X NsG Z3L,PR:=VE K,gR:=_,Z9x:=Z9x,F0:=F0,Z8F:=jd X NsG Z3K,kQ:=RK K,zE:=_,Z9d:=Z9d,I9:=I9,Z75:=jd X NsG Z2C,OP:=gZ K,wF:=_,Z9I:=Z9I,eU:=eU,Z8U:=jd X NsG Z47,Z8:=sL K,VP:=_,Z9A:=Z9A,uN:=uN,Z8J:=jd X NsG Z42,dA:=aC K,WQ:=_,Z9R:=Z9R,aG:=aG,Z9o:=jd X NsG Z5N,m8:=HY K,U4:=_,Z9t:=Z9t,Q5:=Q5,Z8w:=jd X NsG Z4i,E8:=cL K,wO:=_,Z9Y:=Z9Y,SK:=SK,Z9p:=jd X NsG Z7n,nE:=zT K,lX:=_,Z9N:=Z9N,FU:=FU,X7:=dB K,FG:=_,Z80:=Z80,C9:=C9,Z68:=jd X NsG Z24,M6:=W6 K,MB:=_,Z8k:=Z8k,D1:=D1,Z69:=jd X NsG Z25,YS:=jO K,pA:=_,Z9B:=Z9B,N8:=N8,Z8K:=jd X NsG Z43,yN:=A1 K,qB:=_,Z9C:=Z9C,yM:=yM,Z8u:=jd X NsG Z3M,gU:=I8 K,eS:=_,Z9J:=Z9J,zW:=zW,Z8S:=jd X NsG Z5P,T2:=hX K,AW:=_,Z9F:=Z9F,gB:=gB,PY:=ML K,LC:=_,Z92:=Z92,oC:=oC,x6:=C3 K,LM:=_,Z9z:=Z9z,UG:=UG,e9:=wA K,TH:=_,Z9y:=Z9y,nB:=nB,kH:=MP K,VA:=_,Z9T:=Z9T,HD:=HD,G3:=UD K,NV:=_,Z9v:=Z9v,eQ:=eQ,DF:=jA K,cO:=_,Z9G:=Z9G,OL:=OL,kM:=X4 K,CK:=_,Z91:=Z91,XT:=XT,P4:=cR K,qQ:=_,Z9L:=Z9L,RQ:=RQ,f6:=DO K,RG:=_,Z9w:=Z9w,c7:=c7,Z8L:=jd X NsG Z46,vP:=lH K,ZX:=_,Z9H:=Z9H,N7:=N7,Z8T:=jd X NsG Z44,BA:=BB K,dR:=_,Z9Z:=Z9Z,fP:=fP,bJ:=bJ,fJ:=i6 K,vT:=_,Z9U:=Z9U,OD:=OD,xU:=o6 K,y6:=_,Z9X:=Z9X,TY:=TY,EO:=TL K,sC:=_,Z9W:=Z9W,dC:=dC,DK:=xN K,z8:=_,Z9M:=Z9M,UZ:=UZ,bE:=X1 K,uC:=_,Z98:=Z98,bQ:=bQ,Z9h:=(λ⟨_,_,_,_,_,_,_,_,_,e,_,_⟩=>e ▸ zUM (λs u v=>.of_eq rfl)) Z98.ex,J7:=mL K,fG:=_,Z9K:=Z9K,pW:=pW,OJ:=Z1 K,BH:=_,Z9l:=Z9l,gC:=gC,Z7L:=jd X NsG Z21,US:=HG K,lN:=_,Z9q:=Z9q,uD:=uD,Z8N:=jd X NsG Z3J,fQ:=nS K,BS:=_,Z8P:=Z8P,VM:=VM,Z7M:=jd X NsG Z22,yA:=AM K,G5:=_,Z9k:=Z9k,dP:=dP,Z74:=jd X NsG Z3I,AL:=AV K,W2:=_,Z8H:=Z8H,S0:=S0,Z59:=jd X NsG Z2B,tD:=ZI K,Y4:=_,Z9u:=Z9u,wW:=wW,Z8t:=jd X NsG Z3H,zP:=ME K,TQ:=_,VW:=VW,aF:=aF,mE:=jd X NsG Z40,eB:=UC K,vE:=_,Z9D:=Z9D,OV:=OV,Z8I:=jd X NsG Z4g,vX:=KQ K,WU:=_,Z9s:=Z9s,B0:=B0,Z8v:=jd X NsG Z4f,cB:=lM K,F2:=_,Z9a:=Z9a,ZU:=ZU,Z67:=jd X NsG Z2Z,FQ:=_,JI:=_,Z7q:=Z7q,zRA:=zRA,cD:=jd X NsG Z2D,KN:=Z7I.symm ▸ ⟨Z3x,Z3n,Z3A,Z3D⟩,Y3:=Z7I.symm ▸ jd X NsG Z3O,Z8W:=Z7I.symm ▸ Z8W,Z85:=Z7I.symm ▸ Z85,Z86:=Z7I.symm ▸ Z86,BP:=Z7I.symm ▸ ⟨Z3u,Z6c,Z52,Z3r⟩,tL:=Z5d.symm ▸ ⟨Z2V,Z2O,Z2W,Z2X⟩,uH:=Z5d.symm ▸ jd X NsG Z27,Z89:=Z5d.symm ▸ Z89,cJ:=Z5d.symm ▸ ⟨Z2U,Z5M,Z5y,Z2T⟩,iR:=Z9m.symm ▸ ⟨Z3w,Z3m,Z3z,Z3C⟩,cE:=Z9m.symm ▸ jd X NsG Z3N,Z9f:=Z9m.symm ▸ Z9f,Z81:=Z9m.symm ▸ Z81,Z82:=Z9m.symm ▸ Z82,Z83:=Z9m.symm ▸ Z83,Z84:=Z9m.symm ▸ Z84,jQ:=Z9m.symm ▸ ⟨Z3t,Z6a,Z50,Z3q⟩,ZF:=Z9m.symm ▸ ⟨Z6Q,Z6J,Z6M⟩,yS:=Z9m.symm ▸ ⟨Z5J,Z5v,Z5A⟩,bA:=Z9m.symm ▸ ⟨Z5I,Z5u,Z5z⟩,XA:=Z9m.symm ▸ ⟨Z6O,Z6H,Z6K⟩,hO:=Z9m.symm ▸ ⟨Z5K,Z5w,Z5B⟩,iC:=Z9m.symm ▸ ⟨Z6b,Z51,Z56⟩,lR:=Z9m.symm ▸ ⟨Z6P,Z6I,Z6L⟩,pC:=Z9m.symm ▸ ⟨Z6s,Z6n,Z6o⟩,c3:=Z9i.symm ▸ ⟨Z3y,Z3o,Z3B,Z3E⟩,gG:=Z9i.symm ▸ jd X NsG Z3Q,Z9g:=Z9i.symm ▸ Z9g,Z8Z:=Z9i.symm ▸ Z8Z,Z88:=Z9i.symm ▸ Z88,Z8X:=Z9i.symm ▸ Z8X,Z8Y:=Z9i.symm ▸ Z8Y,Z87:=Z9i.symm ▸ Z87,j7:=Z9i.symm ▸ ⟨Z3v,Z6e,Z54,Z3s⟩,SE:=Z9i.symm ▸ ⟨Z7C,Z7s,Z7u⟩,K3:=Z9i.symm ▸ ⟨Z70,Z7J,Z7K⟩,kR:=Z9i.symm ▸ ⟨Z6f,Z55,Z58⟩,wG:=Z9i.symm ▸ ⟨Z5L,Z5x,Z5C⟩,yZ:=Z9i.symm ▸ ⟨Z7B,Z7r,Z7t⟩,u0:=Z9i.symm ▸ ⟨Z6d,Z53,Z57⟩,u_MODULUS:=_,E7:=E7,r_MODULUS:=⟨_,rfl⟩,u_LETTERS:=_,A5:=A5,r_LETTERS:=⟨_,rfl⟩,u_LONGEST:=_,WN:=WN,r_LONGEST:=⟨_,rfl⟩,u_MOST_CELLS:=_,c5:=c5,r_MOST_CELLS:=⟨_,rfl⟩,u_MOST_HOUSES:=_,I4:=I4,r_MOST_HOUSES:=⟨_,rfl⟩,u_MOST_DELAY:=_,rJ:=rJ,r_MOST_DELAY:=⟨_,rfl⟩,u_MOST_TIME:=_,sS:=sS,r_MOST_TIME:=⟨_,rfl⟩,u_UNTIL:=_,A9:=A9,r_UNTIL:=⟨_,rfl⟩,u_MOST:=_,SY:=SY,r_MOST:=⟨_,rfl⟩,u_LATEST:=_,yE:=yE,r_LATEST:=⟨_,rfl⟩,p_TWO_PARTS:=_,Z0:=jd X NsG x_TWO_PARTS,q_TWO_PARTS:=l_TWO_PARTS,jD:=ju X NsG jD,hY:=ju X NsG hY,KW:=ju X NsG KW,WM:=ju X NsG WM,R6:=ju X NsG R6,DR:=ju X NsG DR,yP:=ju X NsG yP,xQ:=ju X NsG xQ,R9:=ju X NsG R9,YD:=ju X NsG YD,DQ:=ju X NsG DQ,CG:=ju X NsG CG,NT:=ju X NsG NT,aT:=ju X NsG aT,AA:=ju X NsG AA,JG:=Z93.symm ▸ jd X NsG Z48,MK:=Z97.symm ▸ jd X NsG Z5Q,tR:=Z94.symm ▸ jd X NsG Z49,pM:=Z95.symm ▸ jd X NsG Z5b,kN:=Z62.symm ▸ jd X NsG Z26,DH:=Z8l.symm ▸ jd X NsG Z3P,jZ:=Z8Q.symm ▸ jd X NsG Z5a,AD:=Z8B.symm ▸ jd X NsG Z4j,sR:=Z8C.symm ▸ jd X NsG Z4k,lD:=Z8D.symm ▸ jd X NsG Z4l,JH:=Z8E.symm ▸ jd X NsG Z4m,FY:=Z8R.symm ▸ jd X NsG Z6g,nU:=Z93.symm ▸ ⟨Z4X,Z4Q,Z6u,Z6A,Z4K⟩,uE:=Z93.symm ▸ (by intro g hg;simp only[qo,qu,or_false] at hg;subst hg;exact Z76),aM:=Z93.symm ▸ Z6R,NG:=NG,lV:=Z97.symm ▸ ⟨Z5H,Z5F,Z63,Z7l,Z5D⟩,JW:=Z97.symm ▸ (by intro g hg;simp only[qo,qu,or_false] at hg;subst hg;exact Z8A),I3:=Z97.symm ▸ Z7m,wQ:=wQ,DG:=Z94.symm ▸ ⟨Z4Y,Z4R,Z6v,Z6B,Z4L⟩,u9:=Z94.symm ▸ (by intro g hg;simp only[qo,qu,or_false] at hg;subst hg;exact Z8x),vW:=Z94.symm ▸ Z6S,uR:=uR,D7:=Z95.symm ▸ ⟨Z4Z,Z4S,Z6w,Z6C,Z4M⟩,JP:=Z95.symm ▸ (by intro g hg;simp only[qo,qu,or_false] at hg;subst hg;exact Z8z),AY:=Z95.symm ▸ Z6T,ET:=ET,nfx_at:=(λd hd=>by simp only[qo,qu,or_false] at hd;rcases hd with rfl|rfl|rfl|rfl;exact Z93.symm ▸ Z76;exact Z97.symm ▸ Z6N;exact Z94.symm ▸ Z6p;exact Z95.symm ▸ Z6q),nfx_word:=(λd hd=>by simp only[qo,qu,or_false] at hd;rcases hd with rfl|rfl|rfl|rfl;exact Z93.symm ▸ Z7c;exact Z97.symm ▸ Z8A;exact Z94.symm ▸ Z7e;exact Z95.symm ▸ Z7g),nfx_name:=(λd hd=>by simp only[qo,qu,or_false] at hd;rcases hd with rfl|rfl|rfl|rfl;exact Z93.symm ▸ Z7b;exact Z97.symm ▸ Z7w;exact Z94.symm ▸ Z8x;exact Z95.symm ▸ Z7f),nfx_most:=(λd hd=>by simp only[qo,qu,or_false] at hd;rcases hd with rfl|rfl|rfl|rfl;exact Z93.symm ▸ Z7a;exact Z97.symm ▸ Z7v;exact Z94.symm ▸ Z7d;exact Z95.symm ▸ Z8z),isx:=lFB (λd hd=>by simp only[qo,qu,or_false] at hd;rcases hd with rfl|rfl|rfl|rfl;exact Z93.symm ▸ ⟨Z4z,Z4C,Z6u,Z64,Z4t,hn_x,ht_x,Z4N⟩;exact Z97.symm ▸ ⟨Z5r,Z5s,Z63,Z7F,Z5p,hn_x,ht_x,Z5E⟩;exact Z94.symm ▸ ⟨Z4A,Z4D,Z6v,Z65,Z4u,hn_x,ht_x,Z4O⟩;exact Z95.symm ▸ ⟨Z4B,Z4E,Z6w,Z66,Z4v,hn_x,ht_x,Z4P⟩) (λd hd=>by simp only[qo,qu,or_false] at hd;rcases hd with rfl|rfl|rfl|rfl;exact Z93.symm ▸ Z4w;exact Z97.symm ▸ Z5q;exact Z94.symm ▸ Z4x;exact Z95.symm ▸ Z4y) (λd hd=>by simp only[qo,qu,or_false] at hd;rcases hd with rfl|rfl|rfl|rfl;exact Z93.symm ▸ Z6x;exact Z97.symm ▸ Z7h;exact Z94.symm ▸ Z6y;exact Z95.symm ▸ Z6z) (λd hd c hc=>by simp only[qo,qu,or_false] at hd hc;rcases hd with rfl|rfl|rfl|rfl;(rcases hc with rfl|rfl|rfl|rfl|rfl|rfl|rfl|rfl|rfl|rfl|rfl;exact U6 (G:=(GTb K)) Z93 Z93 Z6x qf;exact U6 (G:=(GTb K)) Z93 Z97 Z8q qf;exact U6 (G:=(GTb K)) Z93 Z94 Z8b qf;exact U6 (G:=(GTb K)) Z93 Z95 Z8d qf;exact U6 (G:=(GTb K)) Z93 Z62 Z7i qf;exact U6 (G:=(GTb K)) Z93 Z8l Z7y qf;exact U6 (G:=(GTb K)) Z93 Z8Q Z8c qf;exact U6 (G:=(GTb K)) Z93 Z8B Z7O qf;exact U6 (G:=(GTb K)) Z93 Z8C Z7P qf;exact U6 (G:=(GTb K)) Z93 Z8D Z7Q qf;exact U6 (G:=(GTb K)) Z93 Z8E Z7R qf);(rcases hc with rfl|rfl|rfl|rfl|rfl|rfl|rfl|rfl|rfl|rfl|rfl;exact U6 (G:=(GTb K)) Z97 Z93 Z8m qf;exact U6 (G:=(GTb K)) Z97 Z97 Z7h qf;exact U6 (G:=(GTb K)) Z97 Z94 Z8n qf;exact U6 (G:=(GTb K)) Z97 Z95 Z8p qf;exact U6 (G:=(GTb K)) Z97 Z62 Z7x qf;exact U6 (G:=(GTb K)) Z97 Z8l Z7N qf;exact U6 (G:=(GTb K)) Z97 Z8Q Z8o qf;exact U6 (G:=(GTb K)) Z97 Z8B Z77 qf;exact U6 (G:=(GTb K)) Z97 Z8C Z78 qf;exact U6 (G:=(GTb K)) Z97 Z8D Z79 qf;exact U6 (G:=(GTb K)) Z97 Z8E Z8a qf);(rcases hc with rfl|rfl|rfl|rfl|rfl|rfl|rfl|rfl|rfl|rfl|rfl;exact U6 (G:=(GTb K)) Z94 Z93 Z8e qf;exact U6 (G:=(GTb K)) Z94 Z97 Z8r qf;exact U6 (G:=(GTb K)) Z94 Z94 Z6y qf;exact U6 (G:=(GTb K)) Z94 Z95 Z8g qf;exact U6 (G:=(GTb K)) Z94 Z62 Z7j qf;exact U6 (G:=(GTb K)) Z94 Z8l Z7z qf;exact U6 (G:=(GTb K)) Z94 Z8Q Z8f qf;exact U6 (G:=(GTb K)) Z94 Z8B Z7S qf;exact U6 (G:=(GTb K)) Z94 Z8C Z7T qf;exact U6 (G:=(GTb K)) Z94 Z8D Z7U qf;exact U6 (G:=(GTb K)) Z94 Z8E Z7V qf);(rcases hc with rfl|rfl|rfl|rfl|rfl|rfl|rfl|rfl|rfl|rfl|rfl;exact U6 (G:=(GTb K)) Z95 Z93 Z8h qf;exact U6 (G:=(GTb K)) Z95 Z97 Z8s qf;exact U6 (G:=(GTb K)) Z95 Z94 Z8i qf;exact U6 (G:=(GTb K)) Z95 Z95 Z6z qf;exact U6 (G:=(GTb K)) Z95 Z62 Z7k qf;exact U6 (G:=(GTb K)) Z95 Z8l Z7A qf;exact U6 (G:=(GTb K)) Z95 Z8Q Z8j qf;exact U6 (G:=(GTb K)) Z95 Z8B Z7W qf;exact U6 (G:=(GTb K)) Z95 Z8C Z7X qf;exact U6 (G:=(GTb K)) Z95 Z8D Z7Y qf;exact U6 (G:=(GTb K)) Z95 Z8E Z7Z qf)) (λd hd=>by simp only[qo,qu,or_false] at hd;rcases hd with rfl|rfl|rfl|rfl|rfl|rfl|rfl|rfl|rfl|rfl|rfl;exact Z93.symm ▸ Z64;exact Z97.symm ▸ Z7F;exact Z94.symm ▸ Z65;exact Z95.symm ▸ Z66;exact Z62.symm ▸ Z3p;exact Z8l.symm ▸ Z36;exact Z8Q.symm ▸ Z5t;exact Z8B.symm ▸ Z4F;exact Z8C.symm ▸ Z4G;exact Z8D.symm ▸ Z4H;exact Z8E.symm ▸ Z4J) (λd hd=>by simp only[qo,qu,or_false] at hd;rcases hd with rfl|rfl|rfl|rfl|rfl|rfl|rfl|rfl|rfl|rfl|rfl;exact Z93.symm ▸ Z6A;exact Z97.symm ▸ Z7l;exact Z94.symm ▸ Z6B;exact Z95.symm ▸ Z6C;exact Z62.symm ▸ Z2Y;exact Z8l.symm ▸ Z3F;exact Z8Q.symm ▸ Z4W;exact Z8B.symm ▸ Z4b;exact Z8C.symm ▸ Z4c;exact Z8D.symm ▸ Z4d;exact Z8E.symm ▸ Z4e),exm:=(λd hd=>by simp only[qo,qu,or_false] at hd;rcases hd with rfl|rfl|rfl|rfl;exact nT (G:=(GTb K)) Z93 Z8R (yO Z8M Z8V Z8O Z4T);exact nT (G:=(GTb K)) Z97 Z8R (yO Z8M Z8V Z8O Z5G);exact nT (G:=(GTb K)) Z94 Z8R (yO Z8M Z8V Z8O Z4U);exact nT (G:=(GTb K)) Z95 Z8R (yO Z8M Z8V Z8O Z4V)),Z6D:=e_tab_Lbegins,Z6E:=(λz=>(tk _ (by simp [hta])).nz ((e_tab_Lbegins).symm.trans z)),Z7E:=Q2 Z9s (tk _ (by simp [hta])),Z5e:=e_tab_Llong,Z6r:=(λz=>(tk _ (by simp [hta])).nz ((e_tab_Llong).symm.trans z)),Z6t:=Q2 Z9a (tk _ (by simp [hta])),Z3c:=e_tab_law,Z3d:=(λz=>(tk _ (by simp [hta])).nz ((e_tab_law).symm.trans z)),Z5c:=Q2 Z7q (tk _ (by simp [hta])),tabI:=(λq hq q2 hq2 nz ee=>by simp only[AG,GSF,qo,qu,or_false] at hq hq2;rcases hq with rfl|rfl|rfl|rfl|rfl|rfl;(rcases hq2 with rfl|rfl|rfl|rfl|rfl|rfl;exact rfl;exact absurd (ee.trans e_tab0_Hall_move_end) nz;exact absurd (ee.trans e_tab0_ahead_told) nz;exact absurd (ee.trans e_tab0_Ltold) nz;exact absurd ((e_tab_Lbegins).symm.trans (ee.symm.trans e_tab_law)) (of_decide_eq_false td_Lbegins_law);exact absurd ((e_tab_Llong).symm.trans (ee.symm.trans e_tab_law)) (of_decide_eq_false td_Llong_law));(rcases hq2 with rfl|rfl|rfl|rfl|rfl|rfl;exact absurd e_tab0_Hall_move_end nz;exact rfl;exact absurd e_tab0_Hall_move_end nz;exact absurd e_tab0_Hall_move_end nz;exact absurd e_tab0_Hall_move_end nz;exact absurd e_tab0_Hall_move_end nz);(rcases hq2 with rfl|rfl|rfl|rfl|rfl|rfl;exact absurd e_tab0_ahead_told nz;exact absurd e_tab0_ahead_told nz;exact rfl;exact absurd e_tab0_ahead_told nz;exact absurd e_tab0_ahead_told nz;exact absurd e_tab0_ahead_told nz);(rcases hq2 with rfl|rfl|rfl|rfl|rfl|rfl;exact absurd e_tab0_Ltold nz;exact absurd e_tab0_Ltold nz;exact absurd e_tab0_Ltold nz;exact rfl;exact absurd e_tab0_Ltold nz;exact absurd e_tab0_Ltold nz);(rcases hq2 with rfl|rfl|rfl|rfl|rfl|rfl;exact absurd ((e_tab_Lbegins).symm.trans (ee.trans e_tab_law)) (of_decide_eq_false td_Lbegins_law);exact absurd (ee.trans e_tab0_Hall_move_end) nz;exact absurd (ee.trans e_tab0_ahead_told) nz;exact absurd (ee.trans e_tab0_Ltold) nz;exact rfl;exact absurd ((e_tab_Lbegins).symm.trans (ee.trans e_tab_Llong)) (of_decide_eq_false td_Lbegins_Llong));(rcases hq2 with rfl|rfl|rfl|rfl|rfl|rfl;exact absurd ((e_tab_Llong).symm.trans (ee.trans e_tab_law)) (of_decide_eq_false td_Llong_law);exact absurd (ee.trans e_tab0_Hall_move_end) nz;exact absurd (ee.trans e_tab0_ahead_told) nz;exact absurd (ee.trans e_tab0_Ltold) nz;exact absurd ((e_tab_Lbegins).symm.trans (ee.symm.trans e_tab_Llong)) (of_decide_eq_false td_Lbegins_Llong);exact rfl)),tabv:=(λq hq=>by simp only[AG,GSF,qo,qu,or_false] at hq;rcases hq with rfl|rfl|rfl|rfl|rfl|rfl;exact .inr ⟨_,by simp [hta],e_tab_law⟩;exact .inl e_tab0_Hall_move_end;exact .inl e_tab0_ahead_told;exact .inl e_tab0_Ltold;exact .inr ⟨_,by simp [hta],e_tab_Lbegins⟩;exact .inr ⟨_,by simp [hta],e_tab_Llong⟩)},rfl,λs v=>(show BindsTo s JI ⟨[v],[]⟩ [("_law_script",v)] from by(obtain⟨_,_,_,_,_,_,_,_,_,e,_,_⟩:=Z7q.ex;rw[e];exact .of_eq rfl))⟩
theorem ISp {K:qk} {G:Str->Addr} {F:List W->M W} (tab:∀ q ∈ AG,G (gO q)=0 \/ ∃ a ∈ hta K,G (gO q)=Cp.tabA K a) (h:∀ ns:List Int,ns.length<=63->Ev (F [.scr ns] []) λw _=>w = .bl true):∀ (vs:List V) (H:Hp) (Q:VK) (E:XK),spLaw K vs H Q E->spF K G 1 F vs H Q E:=by
 rintro vs H Q E ⟨a,ns,rfl,hs,ht,hl,q⟩
 have at_:LstAt K ⟨[],λ_=>False⟩ H a (ns.map V.int):=by
  rcases hs with h|h
  ·exact .inl ⟨h,by simp,λz=>z⟩
  ·exact .inr (.inr h)
 refine⟨⟨[],λ_=>False⟩,[],[.scr ns],rfl,⟨rfl,Qb,λn a o h _=>by simp at h,λ_ z=>z.elim,λq hq=>?_⟩,.cons (.scr at_) .nil,?_⟩
 ·rcases tab q hq with z|⟨b,hb,z⟩
  ·exact .inl z
  ·exact .inr (by rw[z];exact LamX.TabS.nil (ht b hb))
 obtain⟨w,S',e,rfl⟩:=(h ns hl).ex
 rw[e]
 intro ρ' H' _ _ v hv
 cases hv
 exact q H'
theorem law_end {P:Program} {w:World} {K:qk} {mg:Str->Option Value} {fa:Addr} (h:∃ (G:Str->Addr) (T:Txt K G mg),T.FQ=fa/\∀ (s:Shared) (v:Value),BindsTo s T.JI ⟨[v],[]⟩ [("_law_script",v)]) :
  ∃ fd:FuncData,(∀ (s:Shared) (v:Value),BindsTo s fd ⟨[v],[]⟩ [("_law_script",v)])/\∀ base:Heap,K.In base->base.Ns mainGlobals mg->(∀ a ∈ hta K,LamX.TabB base mg (Cp.codeA K a) (Cp.tabA K a))->FnG P w K mg base CX0 26 fa fd ["_law_script"] (spLaw K):=by
 obtain⟨G,T,e,b⟩:=h
 subst e
 refine⟨T.JI,b,λbase _ _ tb=>?_⟩
 have:TabsB base mg (NJ K):=⟨λp hp=>by
  obtain⟨a,ha,rfl⟩:=jc.mp hp
  exact tb a ha⟩
 exact(eHc T).imp (ISp (G:=G) T.tabv yH)
end
end Mi
open PySem PySem.W PyProof.Rows
theorem PySem.Challenge.cw_counterpost_k19_plain_refused_holds : PySem.Challenge.rw_counterpost_k19_plain_refused.Holds := by
 refine Mi.early ?_
 intro w mg fa h Y G hmg0
 obtain⟨K,KX,c,tabs⟩:=Y
 have hmg:mg "law" = some (.ref fa):=by
  have e:(HandSHeadRun.topDef Mi.hR.prog 66).name=("law" : PySem.Str):=by kernel_rfl
  rw[<- e]
  exact hmg0
 obtain ⟨fd,hb,hF⟩ := Mi.law_end (P := (PySem.Challenge.rw_counterpost_k19_plain_refused).prog) (w := w) (Mi.all_mk KX G hmg c λa ha => (tabs a ha).1)
 exact⟨K,fd,KX,tabs,hb,hF⟩
#print axioms PySem.Challenge.cw_counterpost_k19_plain_refused_holds
