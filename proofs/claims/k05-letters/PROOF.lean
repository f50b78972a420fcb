import PyProof.Rows.All
import Wide.All
import OpenK.AllK
import Wide.FinOn
import HandS.ForMost
import HandS.ForExc
import PyProof.EqAt
import PyProof.EqKinds
import PyProof.TupleCall
import PyProof.ReprRoads
import KE.KUnpackStar
import HandS.TupAny
import HandS.Deep
import HandS.Style
import HandS.IsInst
import PyProof.Rows.StrCase
import PyProof.ReprLen
import PyProof.StrLawsRepr
import KE.SortKeyHeap
import HandS.SortKw
import HandS.More
import HandS.Evl
import PySem.Challenge.RW_counterpost_k05_letters_in_order
set_option Elab.async false
set_option linter.all false
set_option maxRecDepth 100000
set_option maxHeartbeats 3999999
namespace Cp
open PySem PySem.Spec
open PyProof.Rows L2

/-- a def's promise, kept wherever no repr is under way -/
structure FnG (P : Program) (w : World) (K : PySem.W.Frag) (mg : Str → Option Value) (base : Heap) (CX : CXT) (k : Nat) (f : Addr) (fd : FuncData) (ps : List Str) (sp : Sp) : Prop where
  arity : ∀ {vs : List V} {H : Hp} {Q : VK} {E : XK}, sp vs H Q E → vs.length = ps.length
  go : ∀ {A : Around} {outer : List Env} {s : Shared} {H : Hp} {args : Args} {us : List Value} {vs : List V} {Q : VK} {E : XK}, Room k A → A.guards = some [] → Env0 P w K mg base A outer s H →
    BindsTo s fd args (ps.zip us) → Vals vs us → sp vs H Q E → codeAny (model P w) A (.call (.ref f) args) (fun r s' => CR CX outer P w H s Q E r s') s

section
variable {P : Program} {w : World} {K : PySem.W.Frag} {mg : Str → Option Value} {base : Heap} {CX : CXT} {j k : Nat} {f : Addr} {fd : FuncData} {ps : List Str} {sp sp' : Sp}
theorem FnG.of (F : FnOk P w K mg base CX k f fd ps sp) : FnG P w K mg base CX k f fd ps sp where
  arity := fun q => F.len _ _ _ _ q
  go := fun room _ => F.run _ _ _ _ _ _ _ _ _ room
theorem FnG.mono (F : FnG P w K mg base CX j f fd ps sp) (le : j ≤ k) : FnG P w K mg base CX k f fd ps sp where
  arity := F.arity
  go := fun room => F.go (room.mono le)
theorem FnG.imp (F : FnG P w K mg base CX k f fd ps sp) (weaker : ∀ vs H Q E, sp' vs H Q E → sp vs H Q E) : FnG P w K mg base CX k f fd ps sp' where
  arity := fun q => F.arity (weaker _ _ _ _ q)
  go := fun room quiet around bound rel q => F.go room quiet around bound rel (weaker _ _ _ _ q)
end

/-- how a body ends, told of its caller's heap -/
theorem ends_of {P : Program} {w : World} {K : PySem.W.Frag} {mg : Str → Option Value} {base : Heap} {N : List Str} {qual : Str} {sc : Scope} {f : Addr} {cdv : Value} {A : Around} {outer : List Env} {s s' : Shared} {H : Hp} {E : XK} {Q : VK} {σ : L2.St} {H' : Hp} {v : V} {u : Value}
    (J : Inv (cxOf CX0 P w K mg base N qual sc f cdv A outer s H E) [] σ H' s') (rel : RelV v u) (q : Q v H') : CE outer P w H s Q u s' := by
  refine ⟨v, H', ?_, ?_, ?_, ?_, rel, q⟩
  · exact J.os
  · exact J.bare
  · exact J.base
  · exact J.hok
/-- a def from which no exception leaves -/
theorem okG {P : Program} {w : World} {K : PySem.W.Frag} {mg : Str → Option Value} {base : Heap} {x qual : Str} {st : Stmt} {f : Addr} {fd : FuncData} {N ps : List Str} {k : Nat} {sp : Sp} (F : Fun K x qual st f fd) (S : FnScope N ps (defScope st))
    (arity : ∀ vs H Q E, sp vs H Q E → vs.length = ps.length)
    (body : ∀ (cdv : Value) (A : Around) (outer : List Env) (s : Shared) (H : Hp) (vs : List V) (Q : VK) (E : XK), Room k (A.deeper (envOfC qual (defScope st) s.heap.objs.size f cdv)) → A.guards = some [] → sp vs H Q E →
      ∃ t, PSs (cxOf CX0 P w K mg base N qual (defScope st) f cdv A outer s H E).nox (defBody st) t ∧ t { nx := fun _ H' => Q .non H', rt := Q } (L2.start N vs) H) : FnG P w K mg base CX0 (k + 1) f fd ps sp := by
  obtain ⟨_, _, _, _, _, _, cdv, _, _, rfl, known, coded⟩ := F.ex
  constructor
  · intro vs H Q E q
    exact arity vs H Q E q
  intro A outer s H args us vs Q E room quiet around bound rel want
  have old : ∀ b o, base.get? b = some o → s.heap.get? b = some o := fun b o e => (around.bs b o e).left
  have ledger : K.In s.heap := around.mod.kin.keeps old
  have places : ∀ y ∈ ps.zip us, (defScope st).names.lookup y.1 = some .local ∨ ((defScope st).names.lookup y.1 = some .cell ∧ ((cellsFrom (s.heap.objs.size + 1) (defScope st).names []).lookup y.1).isSome = true) := by
    rintro ⟨n, v⟩ there
    cases S.par n (List.of_mem_zip there).left with
    | inl q => exact Or.inl q
    | inr q => exact Or.inr ⟨q, PySem.W.cellsFrom_some _ _ _ (Or.inl q)⟩
  obtain ⟨t, runs, reads⟩ := body cdv A outer s H vs Q E (room.deeper _) quiet want
  apply codeAny_call_function room.depth (ledger _ _ known) rfl S.co S.gen rfl (PySem.W.codeRec_of ledger coded)
  apply bound
  apply wpAny_newFunctionEnv_cells S.kind places
  rintro env rfl s1 made
  refine ⟨(around.mod.nolimit.keeps old).keeps made.toInCall.keep, ?_⟩
  apply codeAny_func
  have begun := inv_start (CX := CX0) (E := E) S room.hd around (arity _ _ _ _ want) rel made
  refine wpAny_mono (runs.nox.run [] s1 (L2.start N vs) H _ begun reads) ?_ fun _ _ z => z
  rintro (_ | _ | _ | u) s' told
  · obtain ⟨σ', H', J, q⟩ := told
    exact ends_of J (u := Value.none) (v := V.non) rfl q
  all_goals first
    | (obtain ⟨v, σ', H', J, rv, q⟩ := told; exact ends_of J rv q)
    | (obtain ⟨_, _, _, q⟩ := told; exact q.elim)

section
variable {X : Cx} {CX : CXT} {k : Nat} {f : Addr} {fd : FuncData} {ps : List Str} {sp : Sp} {dvs : List V} {ds : List Value} {E : XK} {x : Str} {p pos : Pos} {e : Expr} {es : List Expr} {t : TA}
/-- f(e, ..) of such a def -/
theorem pe_callG (F : FnG X.prog X.w X.K X.mg X.base CX k f fd ps sp) (room : Room k X.A) (quiet : X.A.guards = some []) (gl : Gl X x) (hm : X.mg x = some (.ref f)) (keep : PySem.W.keepIn X.K (.ref f) = true) (bd : Binds X.K fd ps ds) (hd : Vals dvs ds) (ex : Passes CX X E)
    (args : PA X (e :: es) t) (dbg : (x == ("__debug__" : Str)) = false := by decide) (each : starEach (e :: es) X.env = (false, eval e X.env) :: starEach es X.env := by rfl) (plain : (backTo pos (starEach es X.env)).any (·.1) = false := by rfl) :
    (PE X (.Call (.Name x p) (e :: es) [] pos) <| tCall sp dvs E t) := by
  constructor
  intro pins s σ H Q inv goal
  apply wpAny_Call_Name_kw
  apply ld_glob inv gl hm _ dbg
  apply PySem.W.callWith_K (h₀ := X.base) inv.ok.mod.kin keep _ each plain
  refine thn (args.run pos pins s σ H _ inv goal) ?_
  rintro us s1 ⟨vs, H1, inv1, rel, sat⟩
  refine ⟨inv1.kIn, ?_⟩
  have all := Vals.append rel hd
  apply wpAny_call
  have n : (us ++ ds).length = ps.length := all.length.symm.trans (F.arity sat)
  apply codeAny_mono (F.go room quiet inv1.env0 (bd s1 us inv1.kIn n) all sat)
  rintro (raised | fl) s' told
  · exact ex pins σ H1 s1 raised s' inv1 told
  · rcases fl with _ | _ | _ | u
    all_goals first
      | exact inv1.after told
      | exact False.elim told
end

/-! ### the law's call -/
/-- the heap behind the top, of which what H tracks is hidden: what a def wants of it -/
theorem env_top {P : Program} {w : World} {K : PySem.W.Frag} {mg mb : Str → Option Value} {s : Shared} {H : Hp} (inK : K.In s.heap) (hmg : s.heap.Ns mainGlobals mg) (hmb : s.heap.Ns builtinsNs mb) (boot : ∀ x : Str, x ≠ "__name__" → mb x = bootBuiltins x) (nl : s.heap.NoLimit)
    (gens : s.gens = #[]) (plain : ∀ b o es ep, s.heap.get? b = some o → o.data = .dict es ep → H b = none) (free : ∀ b o, K.lookup b = some o → H b = none) (hok : HOk P w H s.heap) : Env0 P w K mg (hidT s.heap H) callerA [] s H := by
  have ns : ∀ b m, s.heap.Ns b m → (hidT s.heap H).Ns b m := by
    rintro b m ⟨o, es, ep, there, isd, rest⟩
    exact ⟨o, es, ep, hidT_get there (plain b o es ep there isd), isd, rest⟩
  constructor
  · rfl
  · constructor
    · exact fun b o known => hidT_get (inK b o known) (free b o known)
    · exact ns _ _ hmg
    · exact ⟨mb, ns _ _ hmb, boot⟩
    · obtain ⟨mc, q, r⟩ := nl
      exact ⟨mc, ns _ _ q, r⟩
  · exact fun b o there => of_hidT there
  · rw [hidT_size]
    exact Nat.le_refl _
  · trivial
  · intro b there
    cases there
  · exact hok
  · exact .of_eq gens
/-- behind the call: nothing that stood has changed -/
theorem kept_top {P : Program} {w : World} {s s' : Shared} {H : Hp} {u : Value} (only : Only H) (hok : HOk P w H s.heap) (h : CE [] P w H s (fun v _ => v = .bl true) u s') :
    u = Value.bool true ∧ OldK s.heap s'.heap ∧ s'.os = s.os ∧ AllBare s'.gens := by
  obtain ⟨v, H', os, bare, un, hok', rel, isT⟩ := h
  subst isT
  have eu : u = Value.bool true := rel
  refine ⟨eu, ?_, os, bare⟩
  apply OldK.of_keep
  intro b o there
  rcases only b with no | ⟨ob, xs, yes⟩
  · refine un.keep b o there no ?_ ?_
    · intro z
      cases z
    · simp
  · have before := (hok b _ yes).1
    have after := (hok' b _ (un.frzs b ob _ yes)).1
    rw [there] at before
    injection before with same
    rw [same]
    exact after
theorem call_top {P : Program} {w : World} {K : PySem.W.Frag} {mg mb : Str → Option Value} {CX : CXT} {k : Nat} {fa a : Addr} {fd : FuncData} {x : Str} {sp : Sp} {s : Shared} {vs : List Value} {ns : List Int}
    (inK : K.In s.heap) (hmg : s.heap.Ns mainGlobals mg) (hmb : s.heap.Ns builtinsNs mb) (boot : ∀ x : Str, x ≠ "__name__" → mb x = bootBuiltins x) (nl : s.heap.NoLimit) (gens : s.gens = #[])
    (script : s.heap.get? a = some { cls := .type "list", data := .seq vs.toArray }) (nums : IntsAre vs ns) (few : ns.length ≤ sizeLine) (room : Room k callerA)
    (F : ∀ base : Heap, K.In base → base.Ns mainGlobals mg → FnG P w K mg base CX k fa fd [x] sp) (bound : ∀ (s : Shared) (u : Value), BindsTo s fd ⟨[u], []⟩ [(x, u)])
    (asks : ∀ H : Hp, Only H → SqL K H a (ns.map V.int) → sp [.ref a] H (fun v _ => v = .bl true) fun _ _ _ => False) (noX : ∀ H e s', CX [] H s (fun _ _ _ => False) e s' → False) :
    codeAny (model P w) callerA (.call (.ref fa) ⟨[.ref a], []⟩) (fun r s' => r = .ok (.ret (.bool true)) ∧ OldK s.heap s'.heap ∧ s'.os = s.os ∧ AllBare s'.gens) s := by
  have vals := vals_ints nums
  have count : (ns.map V.int).length = vs.length := vals.length
  suffices core : ∃ H : Hp, Only H ∧ SqL K H a (ns.map V.int) ∧ HOk P w H s.heap ∧ (∀ b o es ep, s.heap.get? b = some o → o.data = .dict es ep → H b = none) ∧ ∀ b o, K.lookup b = some o → H b = none by
    obtain ⟨H, only, seq, hok, plain, free⟩ := core
    have around : Env0 P w K mg (hidT s.heap H) callerA [] s H := env_top inK hmg hmb boot nl gens plain free hok
    have runs := (F _ around.mod.kin around.mod.glob).go room rfl around (us := [.ref a]) (vs := [V.ref a]) (bound s (.ref a)) (.cons rfl .nil) (asks H only seq)
    refine codeAny_mono runs ?_
    rintro (raised | fl) s' told
    · exact (noX H raised s' told).elim
    · rcases fl with _ | _ | _ | u
      all_goals first
        | exact False.elim told
        | (obtain ⟨rfl, rest⟩ := kept_top only hok told; exact ⟨rfl, rest⟩)
  by_cases known : ∃ o, K.lookup a = some o
  · obtain ⟨o, known⟩ := known
    have same : o = { cls := .type "list", data := .seq vs.toArray } := Option.some.inj ((inK a o known).symm.trans script)
    subst same
    refine ⟨fun _ => none, fun _ => Or.inl rfl, Or.inr ⟨_, vs.toArray, _, known, rfl, rfl, rfl, ?_, ?_⟩, ?_, fun _ _ _ _ _ _ => rfl, fun _ _ _ => rfl⟩
    · rw [List.size_toArray, ← count, List.length_map]
      exact few
    · simpa using vals
    · intro b u z
      exact absurd z (by simp)
  · have fresh : K.lookup a = none := by
      cases e : K.lookup a with
      | none => rfl
      | some o => exact absurd ⟨o, e⟩ known
    let H : Hp := fun b => if b = a then some (.frz { cls := .type "list", data := .seq vs.toArray } (.lst (ns.map V.int))) else none
    have at_a : H a = some (.frz { cls := .type "list", data := .seq vs.toArray } (.lst (ns.map V.int))) := by simp [H]
    have off : ∀ {b}, b ≠ a → H b = none := fun {b} ne => by simp [H, ne]
    refine ⟨H, fun b => ?_, Or.inl (Or.inr ⟨_, at_a⟩), fun b u tracked => ?_, fun b o es ep there isd => off ?_, fun b o q => off ?_⟩
    · by_cases e : b = a
      · subst e
        exact Or.inr ⟨_, _, at_a⟩
      · exact Or.inl (off e)
    · by_cases e : b = a
      · subst e
        rw [at_a] at tracked
        injection tracked with tracked
        subst tracked
        refine ⟨script, ?_⟩
        refine ⟨?_, vs, _, vals, script⟩
        rw [List.length_map]
        exact few
      · rw [off e] at tracked
        cases tracked
    · rintro rfl
      rw [script] at there
      cases there
      cases isd
    · rintro rfl
      rw [fresh] at q
      cases q
theorem walk_ofG {l : PySem.W.OpenLaw} {n k : Nat} {q : Program} {loose : List Str} {XP : (Str → Option Value) → Heap → Prop} {YP : World → Heap → Prop} {d : DefRec} {K : Params → PySem.W.Frag} {CX : World → CXT} {sp : World → Sp} {x : Str} (most : l.most = some n)
    (few : n ≤ sizeLine) (nod : d.params.defaults = []) (room : Room k callerA) (ledger : ∀ (w : World) (h : Heap), YP w h → (K w.params).In h)
    (top : ∀ (w : World) (mg : Str → Option Value) (fa : Addr) (h : Heap), (K w.params).In h → h.Ns mainGlobals mg → mg d.name = some (.ref fa) → ∃ fd : FuncData, (∀ (s : Shared) (u : Value), BindsTo s fd ⟨[u], []⟩ [(x, u)]) ∧
      ∀ base : Heap, (K w.params).In base → base.Ns mainGlobals mg → FnG l.prog w (K w.params) mg base (CX w) k fa fd [x] (sp w))
    (asks : ∀ (w : World) (H : Hp) (a : Addr) (ns : List Int), ns.length ≤ n → Only H → SqL (K w.params) H a (ns.map V.int) → sp w [.ref a] H (fun v _ => v = .bl true) fun _ _ _ => False)
    (noX : ∀ (w : World) (H : Hp) (s : Shared) (e : Value) (s' : Shared), CX w [] H s (fun _ _ _ => False) e s' → False) : PySem.W.WalkO q loose XP YP l.row.toRowW d [] (fun f vs => PySem.call f vs) := by
  apply Att.attach_call most nod
  intro w s₀ s mg mb fa o pm cd doc a vs ns G Y _ _ _ named obj nums len gens
  have inK := ledger w _ Y
  obtain ⟨fd, bound, F⟩ := top w mg fa s.heap inK G.T.g named
  exact call_top inK G.T.g G.T.b G.T.builtins G.T.nolimit gens obj nums (Nat.le_trans len few) room F bound (fun H only seq => asks w H a ns len only seq) (fun H e s' => noX w H s e s')
end Cp
namespace Cp
open PySem PySem.Spec
open PyProof.Rows L2

section
variable {X : Cx}
/-- repr of data -/
def rRepr (K : PySem.W.Frag) : List V → Hp → VK → Prop := fun xs H Q => ∃ x d, xs = [x] ∧ Dp K H x d ∧ PyData.showable d = true ∧ PyData.hasDict d = false ∧ PyData.depth d ≤ 50 ∧ (PyData.shown d).length ≤ sizeLine ∧ Q (.str (PyData.shown d)) H
theorem call_repr (hG : X.A.guards = some []) (hu : X.A.units + 64 < cLine) : CallR X (.builtin "repr") (rRepr X.K) := by
  intro pins s σ H xs us Q I r goal
  obtain ⟨x, d, rfl, hd, hs, hno, hdp, hz, q⟩ := goal
  cases r with
  | cons r0 rr =>
    cases rr
    rename_i u
    have fin : ∀ h' u' tk, (∀ b o, s.heap.get? b = some o → h'.get? b = some o) → EP X pins σ Q (.str (PyData.shown d) u') { s with heap := h', toks := tk } := fun h' u' tk hk => ⟨.str (PyData.shown d), H, I.kept hk, ⟨_, rfl⟩, q⟩
    obtain ⟨as, rd⟩ := Dp.reads I d x u hd r0
    cases u with
    | ref a => exact repr_of_reads' rd hs (fun z => by rw [hno] at z; cases z) hG (by omega) (fun _ _ e => e) fin hz
    | none =>
      cases rd
      have e : PyData.shown .none = ("None" : Str) := by simp only [PyData.shown]
      rw [e] at fin
      exact PySem.P.repr_of_none (fin s.heap _ _ fun _ _ e => e)
    | bool b =>
      cases rd
      have e : PyData.shown (.bool b) = ((if b then "True" else "False" : String) : Str) := by cases b <;> simp only [PyData.shown] <;> rfl
      rw [e] at fin
      exact PySem.P.repr_of_bool (by
        have f := fin s.heap s.toks (s.toks + 1) fun _ _ e => e
        cases b <;> exact f)
    | int i t =>
      cases rd
      have e : PyData.shown (.int i) = ((toString i : String) : Str) := by simp only [PyData.shown]
      rw [e] at fin
      exact PySem.P.repr_of_int (by simpa [PyData.showable] using hs) (fin s.heap _ _ fun _ _ e => e)
    | str z t =>
      cases rd
      have e : PyData.shown (.str z) = reprText z := by simp only [PyData.shown]
      rw [e] at fin hz
      exact PySem.P.repr_of_str (fin s.heap _ _ fun _ _ e => e) hz
    | _ => cases rd
end

end Cp
namespace Cp
open PySem PySem.Spec
open PyProof.Rows L2

/-! ### operators by the kinds of their values -/
theorem OpR_or {X : Cx} {f : Value → Value → Sem Value} {r r' : R2} (h : OpR X f r) (h' : OpR X f r') : OpR X f (fun x y H Q => r x y H Q ∨ r' x y H Q) := by
  intro pins s σ H x y v u Q inv left right goal
  cases goal with
  | inl goal => exact h pins s σ H x y v u Q inv left right goal
  | inr goal => exact h' pins s σ H x y v u Q inv left right goal
def rAddS : R2 := fun x y H Q => ∃ i j, x = .str i ∧ y = .str j ∧ i.length + j.length ≤ sizeLine ∧ Q (.str (i ++ j)) H
def rAdd (K : PySem.W.Frag) : R2 := fun x y H Q => rI0 (fun i j => .int (i + j)) x y H Q ∨ rAddS x y H Q ∨ rCat x y H Q ∨ rCatA K x y H Q
theorem opU_add {X : Cx} : OpR X (binaryOp .Add) (rAdd X.K) := OpR_or op_add (OpR_or (r := rAddS) op_add_str (OpR_or op_cat op_catA))
section
variable {K : PySem.W.Frag} {H : Hp} {Q : VK}
theorem add_ii {i j : Int} (q : Q (.int (i + j)) H) : rAdd K (.int i) (.int j) H Q := .inl ⟨i, j, rfl, rfl, q⟩
theorem add_ss {i j : Str} (hz : i.length + j.length ≤ sizeLine) (q : Q (.str (i ++ j)) H) : rAdd K (.str i) (.str j) H Q := .inr (.inl ⟨i, j, rfl, rfl, hz, q⟩)
theorem add_ll {l b : Addr} {xs zs : List V} (h1 : H l = some (.lst xs)) (h2 : H b = some (.lst zs)) (hz : xs.length + zs.length ≤ sizeLine) (q : ∀ p, H p = none → Q (.ref p) (upd H p (.lst (xs ++ zs)))) : rAdd K (.ref l) (.ref b) H Q :=
  .inr (.inr (.inl ⟨l, b, xs, zs, rfl, rfl, h1, h2, hz, q⟩))
theorem add_tt {a b : Addr} {xs ys : List V} (h1 : SqT K H a xs) (h2 : SqT K H b ys) (hz : xs.length + ys.length ≤ sizeLine) (q : ∀ p H', SqT K H' p (xs ++ ys) → (H' = H ∨ (H p = none ∧ H' = upd H p (.tup (xs ++ ys)))) → Q (.ref p) H') : rAdd K (.ref a) (.ref b) H Q := by
  refine .inr (.inr (.inr ⟨a, b, xs, ys, rfl, rfl, h1, h2, hz, fun e => ?_, fun _ e => ?_, fun _ _ p hp => ?_⟩))
  · subst e
    exact q b H (by rw [List.nil_append]; exact h2) (.inl rfl)
  · subst e
    exact q a H (by rw [List.append_nil]; exact h1) (.inl rfl)
  · exact q p _ (.inl (.inl upd_same)) (.inr ⟨hp, rfl⟩)
end
/-- == and != of any two -/
def rEqU (K : PySem.W.Frag) : R2 := fun x y H Q => rEq x y H Q ∨ rEqD K x y H Q
def rNeU (K : PySem.W.Frag) : R2 := fun x y H Q => rNe x y H Q ∨ rNeD K x y H Q
theorem opU_eq {X : Cx} (hu : X.A.units + 64 < cLine) : OpR X (compareOp .Eq) (rEqU X.K) := OpR_or op_eq (op_eqD hu)
theorem opU_ne {X : Cx} (hu : X.A.units + 64 < cLine) : OpR X (compareOp .NotEq) (rNeU X.K) := OpR_or op_ne (op_neD hu)
section
variable {K : PySem.W.Frag} {H : Hp} {Q : VK} {x y : V} {d e : PyData}
theorem eq_s (h : scal x y = true) (q : Q (.bl (decide (x = y))) H) : rEqU K x y H Q := .inl ⟨h, q⟩
theorem ne_s (h : scal x y = true) (q : Q (.bl (!decide (x = y))) H) : rNeU K x y H Q := .inl ⟨h, q⟩
theorem eq_d (h1 : Dp K H x d) (h2 : Dp K H y e) (s1 : SeqAt.shaped d = true) (s2 : SeqAt.shaped e = true) (q : Q (.bl (PyData.eqv d e)) H) : rEqU K x y H Q := .inr ⟨d, e, h1, h2, s1, s2, q⟩
theorem ne_d (h1 : Dp K H x d) (h2 : Dp K H y e) (s1 : SeqAt.shaped d = true) (s2 : SeqAt.shaped e = true) (q : Q (.bl (!PyData.eqv d e)) H) : rNeU K x y H Q := .inr ⟨d, e, h1, h2, s1, s2, q⟩
end
/-- in, of a list or tuple of flat things, of a list of data, of a text (one sign) -/
def rInSg (neg : Bool) : R2 := fun x y H Q => ∃ (c : Nat) (z : Str), x = .str ⟨#[c]⟩ ∧ y = .str z ∧ Q (.bl (if neg then !decide (c ∈ z.cps.toList) else decide (c ∈ z.cps.toList))) H
def rInU (K : PySem.W.Frag) : R2 := fun x y H Q => rIn K false x y H Q ∨ rInD K x y H Q ∨ rInSg false x y H Q
def rNotInU (K : PySem.W.Frag) : R2 := fun x y H Q => rIn K true x y H Q ∨ rNotInD K x y H Q ∨ rInSg true x y H Q
theorem opU_in {X : Cx} (hu : X.A.units + 65 < cLine) : OpR X (compareOp .In) (rInU X.K) := OpR_or op_in_seq (OpR_or (op_inD hu) (r' := rInSg false) op_in_sign)
theorem opU_notIn {X : Cx} (hu : X.A.units + 65 < cLine) : OpR X (compareOp .NotIn) (rNotInU X.K) := OpR_or op_notIn_seq (OpR_or (op_notInD hu) (r' := rInSg true) op_notIn_sign)
section
variable {K : PySem.W.Frag} {H : Hp} {Q : VK} {x : V} {p : Addr} {xs : List V}
theorem in_seq (h : SqL K H p xs ∨ SqT K H p xs) (hx : flatV x = true) (ha : xs.all flatV = true) (q : Q (.bl (inV x xs)) H) : rInU K x (.ref p) H Q := .inl ⟨p, xs, rfl, h, hx, ha, q⟩
theorem notIn_seq (h : SqL K H p xs ∨ SqT K H p xs) (hx : flatV x = true) (ha : xs.all flatV = true) (q : Q (.bl (!inV x xs)) H) : rNotInU K x (.ref p) H Q := .inl ⟨p, xs, rfl, h, hx, ha, q⟩
theorem in_sign {c : Nat} {z : Str} (q : Q (.bl (decide (c ∈ z.cps.toList))) H) : rInU K (.str ⟨#[c]⟩) (.str z) H Q := .inr (.inr ⟨c, z, rfl, rfl, q⟩)
theorem notIn_sign {c : Nat} {z : Str} (q : Q (.bl (!decide (c ∈ z.cps.toList))) H) : rNotInU K (.str ⟨#[c]⟩) (.str z) H Q := .inr (.inr ⟨c, z, rfl, rfl, q⟩)
end
/-! len -/
section
variable {X : Cx}
def rLen (K : PySem.W.Frag) : List V → Hp → VK → Prop := fun args H Q => ∃ x many, args = [x] ∧ LenV K x H many ∧ Q (.int many) H
theorem callU_len : CallR X (.builtin "len") (rLen X.K) := call_len
end
section
variable {K : PySem.W.Frag} {H : Hp} {Q : VK} {p : Addr} {xs : List V} {z : Str}
theorem len_l (h : SqL K H p xs) (q : Q (.int xs.length) H) : rLen K [.ref p] H Q := ⟨_, _, rfl, .inl ⟨xs, h, rfl⟩, q⟩
theorem len_t (h : SqT K H p xs) (q : Q (.int xs.length) H) : rLen K [.ref p] H Q := ⟨_, _, rfl, .inr ⟨xs, h, rfl⟩, q⟩
theorem len_s (hz : z.length ≤ sizeLine) (q : Q (.int z.length) H) : rLen K [.str z] H Q := ⟨_, _, rfl, ⟨hz, rfl⟩, q⟩
end

/-! ### what a step leaves as it was: all but M; what is never changed (tuples, what is locked, instances of the classes FZ) -/
def Frz (FZ : Addr → Prop) : HO → Prop
  | .tup _ => True
  | .frz _ _ => True
  | .ins C _ _ => FZ C
  | _ => False
structure Stp (FZ : Addr → Prop) (M : Addr → Prop) (H H' : Hp) : Prop where
  keep : ∀ a o, H a = some o → (Frz FZ o ∨ ¬ M a) → H' a = some o
section
variable {FZ M N : Addr → Prop} {H H1 H2 H' : Hp} {K : PySem.W.Frag} {a p : Addr} {xs : List V} {o : HO}
theorem Stp.refl : Stp FZ M H H := ⟨fun _ _ h _ => h⟩
theorem Stp.trans (s : Stp FZ M H H1) (t : Stp FZ M H1 H2) : Stp FZ M H H2 := ⟨fun a o h n => t.keep a o (s.keep a o h n) n⟩
theorem Stp.mono (s : Stp FZ M H H1) (h : ∀ a, M a → N a) : Stp FZ N H H1 := ⟨fun a o e n => s.keep a o e (n.imp id fun z q => z (h a q))⟩
theorem Stp.new (h : H p = none) : Stp FZ M H (upd H p o) := ⟨fun a u e _ => by rw [upd_ne (ne_of_none e h)]; exact e⟩
theorem Stp.more (s : Stp FZ M H H1) (h : H1 p = none) : Stp FZ M H (upd H1 p o) := s.trans (.new h)
/-- what was not there at the start may change -/
theorem Stp.own (s : Stp FZ M H H1) (h : H p = none) : Stp FZ M H (upd H1 p o) := ⟨fun a u e n => by rw [upd_ne (ne_of_none e h)]; exact s.keep a u e n⟩
/-- what may change -/
theorem Stp.set {u : HO} (s : Stp FZ M H H1) (hm : M p) (h : H p = some u) (hn : ¬ Frz FZ u) : Stp FZ M H (upd H1 p o) := ⟨fun a v e n => by
  by_cases hp : a = p
  · subst hp
    rw [h] at e
    cases e
    rcases n with n | n
    · exact absurd n hn
    · exact absurd hm n
  · rw [upd_ne hp]; exact s.keep a v e n⟩
theorem Stp.hide (s : Stp FZ N H H1) (h : ∀ a o, N a → H a = some o → ¬ Frz FZ o → M a) : Stp FZ M H H1 := ⟨fun a o e n => by
  refine s.keep a o e ?_
  by_cases hf : Frz FZ o
  · exact .inl hf
  · rcases n with n | n
    · exact .inl n
    · exact .inr fun q => n (h a o q e hf)⟩
theorem Stp.at (s : Stp FZ M H H1) (h : H a = some o) (hm : ¬ M a) : H1 a = some o := s.keep a o h (.inr hm)
theorem Stp.tup (s : Stp FZ M H H1) (h : SqT K H a xs) : SqT K H1 a xs := by
  rcases h with (h | ⟨u, h⟩) | h
  · exact .inl (.inl (s.keep a _ h (.inl trivial)))
  · exact .inl (.inr ⟨u, s.keep a _ h (.inl trivial)⟩)
  · exact .inr h
theorem Stp.free (s : Stp FZ M H H1) (h : H1 p = none) : H p = none ∨ M p := by
  cases q : H p with
  | none => exact .inl rfl
  | some u =>
    refine .inr ?_
    by_cases hm : M p
    · exact hm
    · rw [s.keep p u q (.inr hm)] at h; cases h
theorem Stp.free' (s : Stp FZ M H H1) (hM : ∀ a, M a → H1 a ≠ none) (h : H1 p = none) : H p = none := by
  rcases s.free h with q | q
  · exact q
  · exact absurd h (hM p q)
end

/-! ### data of tuples -/
mutual
inductive Tp (K : PySem.W.Frag) (H : Hp) : V → PyData → Prop
  | non : Tp K H .non .none
  | bl (b : Bool) : Tp K H (.bl b) (.bool b)
  | int (i : Int) : Tp K H (.int i) (.int i)
  | str (x : Str) : Tp K H (.str x) (.str x)
  | tup {a : Addr} {xs : List V} {ds : List PyData} : SqT K H a xs → TpAll K H xs ds → Tp K H (.ref a) (.tuple ds)
inductive TpAll (K : PySem.W.Frag) (H : Hp) : List V → List PyData → Prop
  | nil : TpAll K H [] []
  | cons {v : V} {vs : List V} {d : PyData} {ds : List PyData} : Tp K H v d → TpAll K H vs ds → TpAll K H (v :: vs) (d :: ds)
end
section
variable {FZ M : Addr → Prop} {H H' : Hp} {K : PySem.W.Frag}
mutual
theorem Tp.mono (s : Stp FZ M H H') : ∀ {v : V} {d : PyData}, Tp K H v d → Tp K H' v d
  | _, _, .non => .non
  | _, _, .bl b => .bl b
  | _, _, .int i => .int i
  | _, _, .str x => .str x
  | _, _, .tup h t => .tup (s.tup h) (TpAll.mono s t)
theorem TpAll.mono (s : Stp FZ M H H') : ∀ {vs : List V} {ds : List PyData}, TpAll K H vs ds → TpAll K H' vs ds
  | _, _, .nil => .nil
  | _, _, .cons h t => .cons (Tp.mono s h) (TpAll.mono s t)
end
mutual
theorem Tp.dp : ∀ {v : V} {d : PyData}, Tp K H v d → Dp K H v d
  | _, _, .non => .non
  | _, _, .bl b => .bl b
  | _, _, .int i => .int i
  | _, _, .str x => .str x
  | _, _, .tup h t => .tup h (TpAll.dp t)
theorem TpAll.dp : ∀ {vs : List V} {ds : List PyData}, TpAll K H vs ds → DpAll K H vs ds
  | _, _, .nil => .nil
  | _, _, .cons h t => .cons (Tp.dp h) (TpAll.dp t)
end
theorem TpAll.length : ∀ {vs : List V} {ds : List PyData}, TpAll K H vs ds → vs.length = ds.length
  | _, _, .nil => rfl
  | _, _, .cons _ t => by rw [List.length_cons, List.length_cons, t.length]
theorem TpAll.get : ∀ {vs : List V} {ds : List PyData} {i : Nat} {v : V}, TpAll K H vs ds → vs[i]? = some v → ∃ d, ds[i]? = some d ∧ Tp K H v d
  | _, _, _, _, .nil, there => by simp at there
  | _, _, 0, _, .cons h _, e => by simp at e; subst e; exact ⟨_, rfl, h⟩
  | _, _, i + 1, v, .cons _ t, e => by
    obtain ⟨d, h1, h2⟩ := TpAll.get (i := i) (v := v) t (by simpa using e)
    exact ⟨d, by simpa using h1, h2⟩
theorem TpAll.get' : ∀ {vs : List V} {ds : List PyData} {i : Nat} {d : PyData}, TpAll K H vs ds → ds[i]? = some d → ∃ v, vs[i]? = some v ∧ Tp K H v d
  | _, _, _, _, .nil, there => by simp at there
  | _, _, 0, _, .cons h _, e => by simp at e; subst e; exact ⟨_, rfl, h⟩
  | _, _, i + 1, d, .cons _ t, e => by
    obtain ⟨v, h1, h2⟩ := TpAll.get' (i := i) (d := d) t (by simpa using e)
    exact ⟨v, by simpa using h1, h2⟩
theorem TpAll.append : ∀ {vs ws : List V} {ds es : List PyData}, TpAll K H vs ds → TpAll K H ws es → TpAll K H (vs ++ ws) (ds ++ es)
  | _, _, _, _, .nil, s => s
  | _, _, _, _, .cons h t, s => .cons h (TpAll.append t s)
end
end Cp
namespace Cp
open PySem PySem.Spec
open PyProof.Rows L2

/-- the dict of the draws: the list of the great cells at g, that of all cells at c -/
def drK (g c : Addr) (r t sd : Int) : List (Key × V) := [(.inr "great", .ref g), (.inr "rest", .int r), (.inr "turn", .int t), (.inr "seed", .int sd), (.inr "cells", .ref c)]
section
variable {g c : Addr} {r t sd x : Int}
theorem drK_great : valV (drK g c r t sd) (Sum.inr "great") = some (.ref g) := by rfl
theorem drK_rest : valV (drK g c r t sd) (Sum.inr "rest") = some (.int r) := by rfl
theorem drK_turn : valV (drK g c r t sd) (Sum.inr "turn") = some (.int t) := by rfl
theorem drK_seed : valV (drK g c r t sd) (Sum.inr "seed") = some (.int sd) := by rfl
theorem drK_cells : valV (drK g c r t sd) (Sum.inr "cells") = some (.ref c) := by rfl
theorem drK_rest' : putK (drK g c r t sd) (Sum.inr "rest") (.int x) = drK g c x t sd := by rfl
theorem drK_turn' : putK (drK g c r t sd) (Sum.inr "turn") (.int x) = drK g c r x sd := by rfl
theorem drK_seed' : putK (drK g c r t sd) (Sum.inr "seed") (.int x) = drK g c r t x := by rfl
end
/-- the draws stand at d, g, c; so many of the mixed ones were drawn at most -/
structure Dr (H : Hp) (d g c : Addr) (n : Nat) : Prop where
  dg : d ≠ g
  dc : d ≠ c
  gc : g ≠ c
  ex : ∃ (gs cs : List Int) (r t sd : Int), H d = some (.dK (drK g c r t sd)) ∧ H g = some (.lst (gs.map V.int)) ∧ H c = some (.lst (cs.map V.int)) ∧ 0 ≤ r ∧ (∀ x ∈ gs, 0 ≤ x) ∧ gs.length ≤ 100 ∧
    0 ≤ t ∧ t ≤ n ∧ 0 ≤ sd ∧ sd < 2147483647 ∧ cs ≠ [] ∧ (∀ x ∈ cs, 0 ≤ x ∧ x < 2147483629) ∧ cs.length ≤ 100
/-- what a draw may change -/
def Md (d g : Addr) : Addr → Prop := fun a => a = d ∨ a = g
theorem Dr.mono {H : Hp} {d g c : Addr} {n m : Nat} (h : Dr H d g c n) (hl : n ≤ m) : Dr H d g c m := by
  obtain ⟨a, b, e, gs, cs, r, t, sd, h1, h2, h3, h4, h5, h6, h7, h8, h9⟩ := h
  exact ⟨a, b, e, gs, cs, r, t, sd, h1, h2, h3, h4, h5, h6, h7, by omega, h9⟩
theorem Dr.stp {FZ M : Addr → Prop} {H H' : Hp} {d g c : Addr} {n : Nat} (h : Dr H d g c n) (s : Stp FZ M H H') (hd : ¬ M d) (hg : ¬ M g) (hc : ¬ M c) : Dr H' d g c n := by
  obtain ⟨a, b, e, gs, cs, r, t, sd, h1, h2, h3, h4⟩ := h
  exact ⟨a, b, e, gs, cs, r, t, sd, s.at h1 hd, s.at h2 hg, s.at h3 hc, h4⟩
theorem Dr.new {H : Hp} {d g c p : Addr} {n : Nat} {o : HO} (h : Dr H d g c n) (hp : H p = none) : Dr (upd H p o) d g c n :=
  h.stp (FZ := fun _ => False) (M := fun _ => False) (Stp.new hp) id id id
/-- another list, dict, .. is changed -/
theorem Dr.oth {H : Hp} {d g c p : Addr} {n : Nat} {o : HO} (h : Dr H d g c n) (h1 : p ≠ d) (h2 : p ≠ g) (h3 : p ≠ c) : Dr (upd H p o) d g c n := by
  obtain ⟨a, b, e, gs, cs, r, t, sd, k1, k2, k3, h4⟩ := h
  exact ⟨a, b, e, gs, cs, r, t, sd, by rw [upd_ne h1.symm]; exact k1, by rw [upd_ne h2.symm]; exact k2, by rw [upd_ne h3.symm]; exact k3, h4⟩
theorem Dr.nd {H : Hp} {d g c p : Addr} {n : Nat} (h : Dr H d g c n) (hp : H p = none) : p ≠ d ∧ p ≠ g ∧ p ≠ c := by
  obtain ⟨a, b, e, gs, cs, r, t, sd, k1, k2, k3, h4⟩ := h
  refine ⟨?_, ?_, ?_⟩ <;> (rintro rfl; simp_all)
theorem at_mod {α : Type} {xs : List α} (h : xs ≠ []) {t : Int} (ht : 0 ≤ t) : ∃ (j : Nat) (x : α), xs[j]? = some x ∧ atI xs (t % (xs.length : Int)) = some x := by
  have hl : 0 < xs.length := List.length_pos_iff.mpr h
  have h1 : 0 ≤ t % (xs.length : Int) := Int.emod_nonneg _ (by omega)
  have h2 : t % (xs.length : Int) < (xs.length : Int) := Int.emod_lt_of_pos _ (by omega)
  obtain ⟨j, hj⟩ : ∃ j : Nat, t % (xs.length : Int) = (j : Int) := ⟨(t % (xs.length : Int)).toNat, by omega⟩
  have hj2 : j < xs.length := by omega
  rw [hj]
  exact ⟨j, xs[j], List.getElem?_eq_getElem hj2, atI_nat (List.getElem?_eq_getElem hj2)⟩
/-- the promises -/
def spTake (FZ : Addr → Prop) : Sp := fun vs H Q _ => ∃ (d g c : Addr) (n : Nat) (m : Int), vs = [.ref d, .int m] ∧ 0 < m ∧ m < 1073741824 ∧ Dr H d g c n ∧ n < 2 ^ 60 ∧
  ∀ (k : Int) (H' : Hp), 0 ≤ k → k < m → Dr H' d g c (n + 1) → Stp FZ (Md d g) H H' → Q (.int k) H'
/-- a list's, a tuple's or a text's items -/
def ItemsOf (K : PySem.W.Frag) (H : Hp) (v : V) (xs : List V) : Prop := (∃ p, v = .ref p ∧ (SqL K H p xs ∨ SqT K H p xs)) ∨ ∃ z : Str, v = .str z ∧ z.length ≤ 1000000 ∧ xs = z.cps.toList.map fun k => .str ⟨#[k]⟩
def spPick (FZ : Addr → Prop) (K : PySem.W.Frag) : Sp := fun vs H Q _ => ∃ (d g c : Addr) (n : Nat) (v : V) (xs : List V), vs = [.ref d, v] ∧ ItemsOf K H v xs ∧ (∀ p, v = .ref p → p ≠ g) ∧ xs ≠ [] ∧ xs.length ≤ 1000000 ∧ Dr H d g c n ∧ n < 2 ^ 60 ∧
  ∀ (i : Nat) (x : V) (H' : Hp), xs[i]? = some x → Dr H' d g c (n + 1) → Stp FZ (Md d g) H H' → Q x H'
def spBegun (FZ : Addr → Prop) (K : PySem.W.Frag) : Sp := fun vs H Q _ => ∃ (a : Addr) (ns : List Int), vs = [.ref a] ∧ SqL K H a (ns.map V.int) ∧ ns.length ≤ 63 ∧
  ∀ (d g c : Addr) (H' : Hp), H d = none → H g = none → H c = none → Dr H' d g c 0 → Stp FZ (fun _ => False) H H' → Q (.ref d) H'
section
variable {FZ : Addr → Prop} {K : PySem.W.Frag} {H : Hp} {d g c p : Addr} {n : Nat} {m : Int} {Q : VK} {E : XK}
theorem take (hD : Dr H d g c n) (hm : 0 < m ∧ m < 1073741824) (hn : n < 2 ^ 60) (k : ∀ (k : Int) (H' : Hp), 0 ≤ k → k < m → Dr H' d g c (n + 1) → Stp FZ (Md d g) H H' → Q (.int k) H') : spTake FZ [.ref d, .int m] H Q E :=
  ⟨d, g, c, n, m, rfl, hm.1, hm.2, hD, hn, k⟩
theorem pickS {z : Str} (hD : Dr H d g c n) (hn : n < 2 ^ 60) (k : ∀ (x : Nat) (H' : Hp), x ∈ z.cps.toList → Dr H' d g c (n + 1) → Stp FZ (Md d g) H H' → Q (.str ⟨#[x]⟩) H') (hz : z.length ≤ 1000000 := by decide +kernel) (h0 : z.cps.toList ≠ [] := by decide +kernel) : spPick FZ K [.ref d, .str z] H Q E := by
  refine ⟨d, g, c, n, _, _, rfl, .inr ⟨z, rfl, hz, rfl⟩, (fun p e => nomatch e), ?_, ?_, hD, hn, fun i x H' hx hD' s' => ?_⟩
  · intro e
    exact h0 (List.map_eq_nil_iff.mp e)
  · rw [List.length_map]
    have e : z.length = z.cps.toList.length := by simp [Str.length]
    omega
  · rw [List.getElem?_map] at hx
    obtain ⟨y, hy, rfl⟩ := Option.map_eq_some_iff.mp hx
    exact k y H' (List.mem_of_getElem? hy) hD' s'
theorem pickL {xs : List V} (hD : Dr H d g c n) (hn : n < 2 ^ 60) (h : SqL K H p xs ∨ SqT K H p xs) (hp : p ≠ g) (h0 : xs ≠ []) (hl : xs.length ≤ 1000000) (k : ∀ (i : Nat) (x : V) (H' : Hp), xs[i]? = some x → Dr H' d g c (n + 1) → Stp FZ (Md d g) H H' → Q x H') : spPick FZ K [.ref d, .ref p] H Q E :=
  ⟨d, g, c, n, _, xs, rfl, .inl ⟨p, rfl, h⟩, (fun q e => by cases e; exact hp), h0, hl, hD, hn, k⟩
theorem nmd (h : Dr H d g c n) (hp : H p = none) : ¬ Md d g p := fun z => by
  obtain ⟨h1, h2, _⟩ := h.nd hp
  rcases z with z | z
  · exact h1 z
  · exact h2 z
theorem Dr.same {H1 : Hp} (h : Dr H d g c n) (s : Same H H1) : Dr H1 d g c n := by
  obtain ⟨a, b, e, gs, cs, r, t, sd, h1, h2, h3, h4⟩ := h
  exact ⟨a, b, e, gs, cs, r, t, sd, s _ _ h1, s _ _ h2, s _ _ h3, h4⟩
theorem Dr.but {H1 : Hp} {l : Addr} (h : Dr H d g c n) (b : ∀ a, a ≠ l → H1 a = H a) (h1 : l ≠ d) (h2 : l ≠ g) (h3 : l ≠ c) : Dr H1 d g c n := by
  obtain ⟨a, b', e, gs, cs, r, t, sd, k1, k2, k3, h4⟩ := h
  exact ⟨a, b', e, gs, cs, r, t, sd, (b d h1.symm).trans k1, (b g h2.symm).trans k2, (b c h3.symm).trans k3, h4⟩
end
/-- arithmetic of the mixed draws -/
theorem mixed_nn {sd m : Int} (h0 : 0 ≤ sd) (hm : 0 < m) : 0 ≤ (sd ^ 2 % 2147483629 * 2147483587 + sd ^ 3 % 2147483579) / 7 % m := Int.emod_nonneg _ (by omega)
theorem scal_int {a b : Int} : scal (.int a) (.int b) = true := rfl
theorem dec_int {a b : Int} : decide (V.int a = V.int b) = decide (a = b) := by
  by_cases h : a = b
  · subst h; simp
  · have : ¬ V.int a = V.int b := fun e => h (V.int.inj e)
    rw [decide_eq_false h, decide_eq_false this]
theorem ints_dp {K : PySem.W.Frag} {H : Hp} : ∀ {ns : List Int}, DpAll K H (ns.map V.int) (ns.map PyData.int)
  | [] => .nil
  | _ :: _ => .cons (.int _) ints_dp
theorem ints_can : ∀ {ns : List Int}, PyData.canLayAll0 (ns.map PyData.int) = true
  | [] => by rw [List.map_nil]; simp [PyData.canLayAll0]
  | _ :: ns => by
    have := ints_can (ns := ns)
    simp [PyData.canLayAll0, PyData.canLay0, this]
theorem depth_int {i : Int} : PyData.depth (.int i) = 0 := by simp [PyData.depth]
theorem ints_depth : ∀ {ns : List Int}, PyData.depthAll (ns.map PyData.int) = 0
  | [] => by rw [List.map_nil]; simp [PyData.depthAll]
  | _ :: ns => by
    have := ints_depth (ns := ns)
    simp [PyData.depthAll, depth_int, this]
theorem ints_shaped {ns : List Int} : SeqAt.shaped (.list (ns.map PyData.int)) = true := by
  have h1 : PyData.canLay0 (.list (ns.map PyData.int)) = true := by
    simp only [PyData.canLay0]
    exact ints_can
  have h2 : PyData.depth (.list (ns.map PyData.int)) = 1 := by
    simp only [PyData.depth]
    rw [ints_depth]
  unfold SeqAt.shaped
  rw [h1, h2]
  rfl
theorem nil_shaped : SeqAt.shaped (.list []) = true := by simp [SeqAt.shaped, PyData.canLay0, PyData.canLayAll0, PyData.depth, PyData.depthAll]
theorem eqv_nil {ns : List Int} : PyData.eqv (.list (ns.map PyData.int)) (.list []) = ns.isEmpty := by cases ns <;> simp [PyData.eqv, PyData.eqvAll]
end Cp
namespace Cp
open PySem PySem.Spec
open PyProof.Rows L2

section
variable {σ : L2.St} {H H1 : Hp} {Q : VK} {D : Ends} {t u : TS} {te ta tb tv td ty : TE} {tt tu : TT} {g : TG} {gs : TGs} {x y v : V} {vs : List V} {i : Nat} {R : Bool → Hp → Prop} {R' : L2.St → Hp → Prop} {QA : List V → Hp → Prop} {tas : TA} {K : PySem.W.Frag} {a : Addr}
theorem r_seq (q : t { D with nx := u D } σ H) : tSeq t u D σ H := q
theorem r_next (q : D.nx σ H) : tNext D σ H := q
theorem r_brk (q : D.bk σ H) : tBreak D σ H := q
theorem r_cont (q : D.ct σ H) : tCont D σ H := q
theorem r_ret (q : te σ H D.rt) : tRet te D σ H := q
theorem r_retN (q : D.rt .non H) : tRetN D σ H := q
theorem r_drop (q : te σ H fun _ H1 => D.nx σ H1) : tDrop te D σ H := q
theorem r_asg (q : te σ H fun x H1 => g x σ H1 D.nx) : tAsg te g D σ H := q
theorem r_name (q : R' (σ.set i (some v)) H) : gName i v σ H R' := q
theorem r_ifS (q : tt σ H fun b H1 => if b = true then t D σ H1 else u D σ H1) : tIfS tt t u D σ H := q
theorem r_B (q : te σ H fun x H1 => ∃ c, x = .bl c ∧ R c H1) : tB te σ H R := q
theorem r_test (q : te σ H fun x H1 => ∃ c, x = .bl c ∧ R c H1) : tTest te σ H R := q
theorem r_bl {c : Bool} {R : Bool → Prop} (q : R c) : ∃ c', V.bl c = .bl c' ∧ R c' := ⟨c, rfl, q⟩
theorem r_and (q : tt σ H fun c H1 => if c = true then tu σ H1 R else R false H1) : tAnd tt tu σ H R := q
theorem r_or (q : tt σ H fun c H1 => if c = true then R true H1 else tu σ H1 R) : tOr tt tu σ H R := q
theorem r_not (q : tt σ H fun c H1 => R (!c) H1) : tNot tt σ H R := q
theorem r_andV (q : ta σ H fun x H1 => ∃ c, x = .bl c ∧ if c = true then tb σ H1 Q else Q (.bl false) H1) : tAndV ta tb σ H Q := q
theorem r_orV (q : ta σ H fun x H1 => ∃ c, x = .bl c ∧ if c = true then Q (.bl true) H1 else tb σ H1 Q) : tOrV ta tb σ H Q := q
theorem r_notV (q : ta σ H fun x H1 => ∃ c, x = .bl c ∧ Q (.bl (!c)) H1) : tNotV ta σ H Q := q
theorem r_ifE (q : tt σ H fun c H1 => if c = true then ta σ H1 Q else tb σ H1 Q) : tIf tt ta tb σ H Q := q
theorem r_itT {A B : Prop} (q : A) : if true = true then A else B := q
theorem r_itF {A B : Prop} (q : B) : if false = true then A else B := by rw [if_neg Bool.false_ne_true]; exact q
theorem r_itNT {A B : Prop} (q : B) : if (!true) = true then A else B := r_itF q
theorem r_itNF {A B : Prop} (q : A) : if (!false) = true then A else B := q
/-- a test whose outcome is open -/
theorem r_dec {p A B : Prop} [Decidable p] (h1 : p → A) (h2 : ¬ p → B) : if decide p = true then A else B := by
  by_cases h : p
  · rw [decide_eq_true h]; exact h1 h
  · rw [decide_eq_false h]; exact r_itF (h2 h)
theorem r_ndec {p A B : Prop} [Decidable p] (h1 : ¬ p → A) (h2 : p → B) : if (!decide p) = true then A else B := by
  by_cases h : p
  · rw [decide_eq_true h]; exact r_itF (h2 h)
  · rw [decide_eq_false h]; exact h1 h
theorem r_itb {b : Bool} {A B : Prop} (h1 : b = true → A) (h2 : b = false → B) : if b = true then A else B := by
  cases b
  · exact r_itF (h2 rfl)
  · exact h1 rfl
theorem r_itnb {b : Bool} {A B : Prop} (h1 : b = false → A) (h2 : b = true → B) : if (!b) = true then A else B := by
  cases b
  · exact h1 rfl
  · exact r_itF (h2 rfl)
theorem r_var (h : σ[i]? = some (some v)) (q : Q v H) : tVar i σ H Q := ⟨v, h, q⟩
theorem r_c (q : Q v H) : tC v σ H Q := q
theorem r_op {r : R2} (q : ta σ H fun x H1 => tb σ H1 fun y H2 => r x y H2 Q) : tOp r ta tb σ H Q := q
theorem r_un {r : V → Hp → VK → Prop} (q : ta σ H fun x H1 => r x H1 Q) : tUn r ta σ H Q := q
theorem r_I0 {f : Int → Int → V} {i j : Int} (q : Q (f i j) H) : rI0 f (.int i) (.int j) H Q := ⟨i, j, rfl, rfl, q⟩
theorem r_I {C : Int → Int → Prop} {f : Int → Int → V} {i j : Int} (c : C i j) (q : Q (f i j) H) : rI C f (.int i) (.int j) H Q := ⟨i, j, rfl, rfl, c, q⟩
theorem r_chain {r r' : R2} {tc : TE} (q : ta σ H fun x H1 => tb σ H1 fun y H2 => r x y H2 fun z H3 => ∃ k, z = .bl k ∧ (if k = true then tc σ H3 fun w' H4 => r' y w' H4 Q else Q (.bl false) H3)) : tChain r r' ta tb tc σ H Q := q
/-- dicts -/
def rDGet : R2 := fun x y H Q => ∃ a v, x = .ref a ∧ DGet H a y (some v) ∧ Q v H
theorem r_dget (q : td σ H fun x H1 => ty σ H1 fun y H2 => rDGet x y H2 Q) : tDGet td ty σ H Q := q
theorem r_dgetS {kvs : List (Key × V)} {k : Str} (h : H a = some (.dK kvs)) (hv : valV kvs (Sum.inr k) = some v) (q : Q v H) : rDGet (.ref a) (.str k) H Q := by
  refine ⟨a, v, rfl, ?_, q⟩
  have e := DGet.k (k := Sum.inr k) h
  rw [hv] at e
  exact e
def rDPut (D : Ends) (σ : L2.St) (x y v : V) (H : Hp) : Prop := ∃ a H4, x = .ref a ∧ DPut H a y v H4 ∧ D.nx σ H4
theorem r_dput (q : tv σ H fun v H1 => td σ H1 fun x H2 => ty σ H2 fun y H3 => rDPut D σ x y v H3) : sDPut td ty tv D σ H := q
theorem r_dputS {kvs : List (Key × V)} {k : Str} (h : H a = some (.dK kvs)) (hl : kvs.length < sizeLine) (q : D.nx σ (upd H a (.dK (putK kvs (Sum.inr k) v)))) : rDPut D σ (.ref a) (.str k) v H := ⟨a, _, rfl, DPut.k (k := Sum.inr k) h hl, q⟩
/-- two ints, two texts -/
theorem dec_ii {i j : Int} : decide (V.int i = V.int j) = decide (i = j) := by
  by_cases h : i = j
  · subst h; simp
  · have : ¬ V.int i = V.int j := fun e => h (V.int.inj e)
    rw [decide_eq_false h, decide_eq_false this]
theorem dec_ss {i j : Str} : decide (V.str i = V.str j) = decide (i = j) := by
  by_cases h : i = j
  · subst h; simp
  · have : ¬ V.str i = V.str j := fun e => h (V.str.inj e)
    rw [decide_eq_false h, decide_eq_false this]
theorem eq_ii {i j : Int} (q : Q (.bl (decide (i = j))) H) : rEqU K (.int i) (.int j) H Q := eq_s rfl (by rw [dec_ii]; exact q)
theorem ne_ii {i j : Int} (q : Q (.bl (!decide (i = j))) H) : rNeU K (.int i) (.int j) H Q := ne_s rfl (by rw [dec_ii]; exact q)
theorem eq_ss {i j : Str} (q : Q (.bl (decide (i = j))) H) : rEqU K (.str i) (.str j) H Q := eq_s rfl (by rw [dec_ss]; exact q)
theorem ne_ss {i j : Str} (q : Q (.bl (!decide (i = j))) H) : rNeU K (.str i) (.str j) H Q := ne_s rfl (by rw [dec_ss]; exact q)
/-- calls -/
theorem r_nil (q : QA [] H) : tNil σ H QA := q
theorem r_cons (q : te σ H fun x H1 => tas σ H1 fun xs H2 => QA (x :: xs) H2) : tCons te tas σ H QA := q
theorem r_call {sp : Sp} {E : XK} (q : tas σ H fun vs H1 => sp vs H1 Q E) : tCall sp [] E tas σ H Q := by
  have e : (fun (vs : List V) H1 => sp (vs ++ []) H1 Q E) = fun vs H1 => sp vs H1 Q E := by funext vs H1; rw [List.append_nil]
  show tas σ H fun vs H1 => sp (vs ++ []) H1 Q E
  rw [e]
  exact q
theorem r_CB {r : List V → Hp → VK → Prop} (q : tas σ H fun vs H1 => r vs H1 Q) : tCB r tas σ H Q := q
theorem r_BM {T : String} {r : V → List V → Hp → VK → Prop} (q : te σ H fun x H1 => tyV K T x H1 ∧ tas σ H1 fun xs H2 => r x xs H2 Q) : tBM K T r te tas σ H Q := q
theorem r_BM0 {T : String} {r : V → List V → Hp → VK → Prop} (q : te σ H fun x H1 => tyV K T x H1 ∧ r x [] H1 Q) : tBM0 K T r te σ H Q := q
/-- all but the object at l stands -/
def But (l : Addr) (H H2 : Hp) : Prop := ∀ a, a ≠ l → H2 a = H a
theorem But.at {l : Addr} {o : HO} (b : But l H H1) (h : H a = some o) (n : a ≠ l) : H1 a = some o := (b a n).trans h
theorem But.stp {FZ M : Addr → Prop} {l : Addr} {u : HO} (b : But l H H1) (h : H l = some u) (hn : ¬ Frz FZ u) (hm : M l) : Stp FZ M H H1 := ⟨fun a o e n => by
  by_cases hl : a = l
  · subst hl
    rw [h] at e
    cases e
    exact (n.elim hn fun z => z hm).elim
  · exact b.at e hl⟩
theorem But.tup {l : Addr} {u : HO} {xs : List V} (b : But l H H1) (h : H l = some u) (hn : ¬ Frz (fun _ => True) u) (k : SqT K H a xs) : SqT K H1 a xs := (b.stp (FZ := fun _ => True) (M := fun z => z = l) h hn rfl).tup k
theorem _root_.L2.Same.stp {FZ M : Addr → Prop} (s : Same H H1) : Stp FZ M H H1 := ⟨fun a o h _ => s a o h⟩
/-- a new object: what was tracked stands -/
def NewT (xs : List V) (H : Hp) (Q : VK) : Prop := xs.length ≤ sizeLine ∧ ∀ p, H p = none → Q (.ref p) (upd H p (.tup xs))
def NewL (xs : List V) (H : Hp) (Q : VK) : Prop := xs.length ≤ sizeLine ∧ ∀ p, H p = none → Q (.ref p) (upd H p (.lst xs))
theorem r_tup (q : tas σ H fun xs H1 => NewT xs H1 Q) : tTup tas σ H Q := q
theorem r_lst (q : tas σ H fun xs H1 => NewL xs H1 Q) : tLst tas σ H Q := q
theorem upd_Same {o : HO} {p : Addr} (hp : H p = none) : Same H (upd H p o) := fun b u e => by rw [upd_ne (ne_of_none e hp)]; exact e
theorem newT {xs : List V} (k : ∀ p H2, H p = none → Same H H2 → H2 p = some (.tup xs) → Q (.ref p) H2) (hz : xs.length ≤ 1000000 := by first | decide | exact Nat.le_of_ble_eq_true rfl | (simp; done) | omega) : NewT xs H Q := ⟨Nat.le_trans hz (by decide), fun p hp => k p _ hp (upd_Same hp) upd_same⟩
theorem newL {xs : List V} (k : ∀ p H2, H p = none → Same H H2 → H2 p = some (.lst xs) → Q (.ref p) H2) (hz : xs.length ≤ 1000000 := by first | decide | exact Nat.le_of_ble_eq_true rfl | (simp; done) | omega) : NewL xs H Q := ⟨Nat.le_trans hz (by decide), fun p hp => k p _ hp (upd_Same hp) upd_same⟩
theorem app {l : Addr} {xs : List V} (h : H l = some (.lst xs)) (hz : xs.length < 1000000) (k : ∀ H2, But l H H2 → H2 l = some (.lst (xs ++ [v])) → Q .non H2) : rAppend (.ref l) [v] H Q :=
  ⟨l, xs, v, rfl, rfl, h, Nat.lt_of_lt_of_le hz (by decide), k _ (fun _ ha => upd_ne ha) upd_same⟩
theorem pop0 {l : Addr} {y : V} {ys : List V} (h : H l = some (.lst (y :: ys))) (k : ∀ H2, But l H H2 → H2 l = some (.lst ys) → Q y H2) : rPopAt (.ref l) [.int 0] H Q :=
  ⟨l, y :: ys, 0, 0, y, rfl, rfl, h, by decide, by decide, by simp [seqIndex?], rfl, k _ (fun _ ha => upd_ne ha) upd_same⟩
theorem dputS {kvs : List (Key × V)} {kx : Str} (h : H a = some (.dK kvs)) (k : ∀ H2, But a H H2 → H2 a = some (.dK (putK kvs (Sum.inr kx) v)) → D.nx σ H2) (hl : kvs.length < 1000000 := by first | decide | exact Nat.le_of_ble_eq_true rfl | (simp; done) | omega) : rDPut D σ (.ref a) (.str kx) v H :=
  ⟨a, _, rfl, DPut.k (k := Sum.inr kx) h (Nat.lt_of_lt_of_le hl (by decide)), k _ (fun _ ha => upd_ne ha) upd_same⟩
theorem sz2 {n : Nat} (h : n ≤ 1000000) : n ≤ sizeLine := Nat.le_trans h (by decide)
theorem sz3 {n : Nat} (h : n < 1000000) : n < sizeLine := Nat.lt_of_lt_of_le h (by decide)
/-- targets -/
theorem r_gnil (q : R' σ H) : gNil [] σ H R' := ⟨rfl, q⟩
theorem r_gcons {r : List V} (q : g v σ H fun σ' H' => gs r σ' H' R') : gCons g gs (v :: r) σ H R' := ⟨v, r, rfl, q⟩
theorem r_gtup {xs : List V} {n : Nat} (h : SqT K H a xs) (hl : xs.length = n) (q : gs xs σ H R') : gTup K n gs (.ref a) σ H R' := ⟨a, xs, rfl, h, hl, q⟩
theorem r_par {i j : Nat} (q : tas σ H fun vs H1 => ∃ v w, vs = [v, w] ∧ D.nx ((σ.set i (some v)).set j (some w)) H1) : tPar i j tas D σ H := q
theorem r_par' {i j : Nat} {w : V} (q : D.nx ((σ.set i (some v)).set j (some w)) H) : ∃ v' w', [v, w] = [v', w'] ∧ D.nx ((σ.set i (some v')).set j (some w')) H := ⟨v, w, rfl, q⟩
theorem r_par3 {i j l : Nat} (q : tas σ H fun vs H1 => ∃ u v w, vs = [u, v, w] ∧ D.nx (((σ.set i (some u)).set j (some v)).set l (some w)) H1) : tPar3 i j l tas D σ H := q
theorem r_par3' {i j l : Nat} {w z : V} (q : D.nx (((σ.set i (some v)).set j (some w)).set l (some z)) H) : ∃ u' v' w', [v, w, z] = [u', v', w'] ∧ D.nx (((σ.set i (some u')).set j (some v')).set l (some w')) H := ⟨v, w, z, rfl, q⟩
/-- items of lists, tuples, texts -/
theorem ix_l {xs : List V} {i : Int} (h : SqL K H a xs) (e : atI xs i = some v) (q : Q v H) : rIx K (.ref a) (.int i) H Q := .inl ⟨a, xs, i, v, rfl, rfl, h, e, q⟩
theorem ix_t {xs : List V} {i : Int} (h : SqT K H a xs) (e : atI xs i = some v) (q : Q v H) : rIx K (.ref a) (.int i) H Q := .inr (.inl ⟨a, xs, i, v, rfl, rfl, h, e, q⟩)
theorem ix_s {z : Str} {i : Int} {c : Nat} (hz : z.length ≤ sizeLine) (e : atI z.cps.toList i = some c) (q : Q (.str ⟨#[c]⟩) H) : rIx K (.str z) (.int i) H Q := .inr (.inr ⟨z, i, c, rfl, rfl, hz, e, q⟩)
/-- lists changed -/
theorem r_app {l : Addr} {xs : List V} (h : H l = some (.lst xs)) (hz : xs.length < sizeLine) (q : Q .non (upd H l (.lst (xs ++ [v])))) : tyV K "list" (.ref l) H ∧ rAppend (.ref l) [v] H Q := ⟨.inl ⟨rfl, _, SqL.of h⟩, l, xs, v, rfl, rfl, h, hz, q⟩
theorem tyL {l : Addr} {xs : List V} (h : H l = some (.lst xs)) : tyV K "list" (.ref l) H := .inl ⟨rfl, _, SqL.of h⟩
end
end Cp
namespace Cp
open PySem PySem.Spec
open PyProof.Rows L2

/-- a comprehension's block over an iterator that has come -/
def LcGo (J : It) (g : TG) (tt : TT) (te : TE) (vs : List Nat) (σ : L2.St) (H1 : Hp) (Q : VK) : Prop := tLc (fun _ _ R => R J H1) g tt te vs σ H1 Q
def ForGo (J : It) (g : TG) (tb : TS) (D : Ends) (σ : L2.St) (H1 : Hp) : Prop := tFor (fun _ _ R => R J H1) g tb D σ H1
/-- the new list's address; the list so far; the item that comes -/
def LcAdd (P : List V → Hp → Prop) (D : Addr) (acc : List V) (y : V) (H4 : Hp) : Prop := H4 D = some (.lst acc) ∧ ∀ H5, But D H4 H5 → H5 D = some (.lst (acc ++ [y])) → P (acc ++ [y]) H5
def rItL (K : PySem.W.Frag) (x : V) (H : Hp) (R : It → Hp → Prop) : Prop := ∃ a, x = .ref a ∧ (∃ xs, SqL K H a xs) ∧ R (Itl K a) H
def rItT (K : PySem.W.Frag) (x : V) (H : Hp) (R : It → Hp → Prop) : Prop := ∃ a, x = .ref a ∧ (∃ xs, SqT K H a xs) ∧ R (Itt K a) H
def rItS (x : V) (H : Hp) (R : It → Hp → Prop) : Prop := ∃ z, x = .str z ∧ R (Its z) H
def rItR1 (vs : List V) (H : Hp) (R : It → Hp → Prop) : Prop := ∃ j : Int, vs = [.int j] ∧ -(2 ^ 62) ≤ j ∧ j < 2 ^ 62 ∧ R (Itr 0 j.toNat) H
def rItR2 (vs : List V) (H : Hp) (R : It → Hp → Prop) : Prop := ∃ i j : Int, vs = [.int i, .int j] ∧ (-(2 ^ 62) ≤ i ∧ i < 2 ^ 62 ∧ -(2 ^ 62) ≤ j ∧ j < 2 ^ 62) ∧ R (Itr i (j - i).toNat) H
def rItE (K : PySem.W.Frag) (vs : List V) (H : Hp) (R : It → Hp → Prop) : Prop := ∃ a xs, vs = [.ref a] ∧ SqL K H a xs ∧ R (Ite K a) H
section
variable {K : PySem.W.Frag} {σ : L2.St} {H H1 : Hp} {Q : VK} {D : Ends} {R : It → Hp → Prop} {wi : TI} {g : TG} {tt : TT} {te tl : TE} {ta : TA} {vs : List Nat} {tb : TS} {a : Addr} {xs : List V}
theorem r_lc (q : wi σ H fun J H1 => LcGo J g tt te vs σ H1 Q) : tLc wi g tt te vs σ H Q := q
theorem r_wip {σ1 σ2 : L2.St} {A : Prop} (h : wipe σ1 vs = wipe σ2 vs) (q : A) : wipe σ1 vs = wipe σ2 vs ∧ A := ⟨h, q⟩
theorem r_yes {R : Bool → Hp → Prop} (q : R true H) : tYes σ H R := q
theorem r_for (q : wi σ H fun J H1 => ForGo J g tb D σ H1) : tFor wi g tb D σ H := q
theorem r_iList (q : tl σ H fun x H1 => rItL K x H1 R) : iList K tl σ H R := q
theorem r_iTup (q : tl σ H fun x H1 => rItT K x H1 R) : iTup K tl σ H R := q
theorem r_iStr (q : tl σ H fun x H1 => rItS x H1 R) : iStr tl σ H R := q
theorem r_iRng1 (q : ta σ H fun x H1 => rItR1 x H1 R) : iRng1 ta σ H R := q
theorem r_iRng2 (q : ta σ H fun x H1 => rItR2 x H1 R) : iRng2 ta σ H R := q
theorem r_iEnum (q : ta σ H fun x H1 => rItE K x H1 R) : iEnum K ta σ H R := q
theorem itL (h : SqL K H a xs) (q : R (Itl K a) H) : rItL K (.ref a) H R := ⟨a, rfl, ⟨xs, h⟩, q⟩
theorem itT (h : SqT K H a xs) (q : R (Itt K a) H) : rItT K (.ref a) H R := ⟨a, rfl, ⟨xs, h⟩, q⟩
theorem itS {z : Str} (q : R (Its z) H) : rItS (.str z) H R := ⟨z, rfl, q⟩
theorem itR1 {j : Int} (h : -(2 ^ 62) ≤ j ∧ j < 2 ^ 62) (q : R (Itr 0 j.toNat) H) : rItR1 [.int j] H R := ⟨j, rfl, h.1, h.2, q⟩
theorem itR2 {i j : Int} (h : -(2 ^ 62) ≤ i ∧ i < 2 ^ 62 ∧ -(2 ^ 62) ≤ j ∧ j < 2 ^ 62) (q : R (Itr i (j - i).toNat) H) : rItR2 [.int i, .int j] H R := ⟨i, j, rfl, h, q⟩
theorem itE (h : SqL K H a xs) (q : R (Ite K a) H) : rItE K [.ref a] H R := ⟨a, xs, rfl, h, q⟩

/-! comprehensions -/
/-- P: of the new list's address, the turn, the list so far, the heap -/
def NxP (P : Addr → Nat → List V → Hp → Prop) (Dl : Addr) (i : Nat) (H' : Hp) : Prop := ∃ acc', acc'.length ≤ i + 1 ∧ P Dl (i + 1) acc' H'
def LcEnd (Nx : Hp → Prop) (Dl : Addr) (y : V) (H4 : Hp) : Prop := ∃ acc, H4 Dl = some (.lst acc) ∧ acc.length < sizeLine ∧ Nx (upd H4 Dl (.lst (acc ++ [y])))
theorem lc_any {J : It} (n : Nat) (P : Addr → Nat → List V → Hp → Prop) (hstop : ∀ Dl acc H1, H Dl = none → P Dl n acc H1 → J.stop n H1)
    (h0 : ∀ Dl H1, H Dl = none → Same H H1 → H1 Dl = some (.lst []) → P Dl 0 [] H1)
    (hs : ∀ Dl i acc H1, H Dl = none → i < n → acc.length ≤ i → P Dl i acc H1 → J.go i H1 ∧ ∀ x H2, J.yld i H1 x H2 → g x (wipe σ vs) H2 fun σ2 H2 => wipe σ2 vs = wipe σ vs ∧ tt σ2 H2 fun b H3 =>
      if b = true then te σ2 H3 fun y H4 => LcEnd (NxP P Dl i) Dl y H4 else NxP P Dl i H3)
    (hd : ∀ Dl acc H1, H Dl = none → acc.length ≤ n → P Dl n acc H1 → Q (.ref Dl) H1) : LcGo J g tt te vs σ H Q := by
  intro Dl hD
  refine ⟨fun i m H1 => m = n - i ∧ i ≤ n ∧ ∃ acc, acc.length ≤ i ∧ P Dl i acc H1, ⟨n, by simp, Nat.zero_le _, [], Nat.le_refl _, h0 Dl _ hD (upd_Same hD) upd_same⟩, ?_⟩
  rintro i m H1 ⟨rfl, hi, acc, hl, p⟩
  by_cases hlt : i < n
  · obtain ⟨go, st⟩ := hs Dl i acc H1 hD hlt hl p
    exact .inr ⟨go, NxP P Dl i, fun H' ⟨acc', l', p'⟩ => ⟨n - (i + 1), by omega, rfl, hlt, acc', l', p'⟩, st⟩
  · have e : i = n := by omega
    subst e
    exact .inl ⟨hstop Dl acc H1 hD p, hd Dl acc H1 hD hl p⟩
theorem lcEnd {P : Addr → Nat → List V → Hp → Prop} {Dl : Addr} {i : Nat} {acc : List V} {y : V} {H4 : Hp} (hl : acc.length ≤ i) (hz : i < 1000000) (h : H4 Dl = some (.lst acc)) (k : ∀ H5, But Dl H4 H5 → H5 Dl = some (.lst (acc ++ [y])) → P Dl (i + 1) (acc ++ [y]) H5) :
    LcEnd (NxP P Dl i) Dl y H4 :=
  ⟨acc, h, Nat.lt_of_lt_of_le (Nat.lt_of_le_of_lt hl hz) (by decide), acc ++ [y], by rw [List.length_append, List.length_singleton]; omega, k _ (fun _ ha => upd_ne ha) upd_same⟩
theorem lcSkip {P : Addr → Nat → List V → Hp → Prop} {Dl : Addr} {i : Nat} {acc : List V} {H3 : Hp} (hl : acc.length ≤ i) (h : P Dl (i + 1) acc H3) : NxP P Dl i H3 := ⟨acc, by omega, h⟩
/-- over a list, a tuple, a text, a range -/
theorem lcL (P : Addr → Nat → List V → Hp → Prop) (hl : ∀ Dl i acc H1, H Dl = none → P Dl i acc H1 → SqL K H1 a xs)
    (h0 : ∀ Dl H1, H Dl = none → Same H H1 → H1 Dl = some (.lst []) → P Dl 0 [] H1)
    (hs : ∀ Dl i acc x H1, H Dl = none → xs[i]? = some x → i < xs.length → acc.length ≤ i → P Dl i acc H1 → g x (wipe σ vs) H1 fun σ2 H2 => wipe σ2 vs = wipe σ vs ∧ tt σ2 H2 fun b H3 =>
      if b = true then te σ2 H3 fun y H4 => LcEnd (NxP P Dl i) Dl y H4 else NxP P Dl i H3)
    (hd : ∀ Dl acc H1, H Dl = none → acc.length ≤ xs.length → P Dl xs.length acc H1 → Q (.ref Dl) H1) : LcGo (Itl K a) g tt te vs σ H Q :=
  lc_any xs.length P (fun Dl acc H1 hD p => ⟨xs, hl Dl _ acc H1 hD p, Nat.le_refl _⟩) h0 (fun Dl i acc H1 hD hi ha p => by
    have q := hl Dl i acc H1 hD p
    refine ⟨⟨xs, xs[i], q, by simp [hi]⟩, fun x H2 y => ?_⟩
    obtain ⟨e, y⟩ := y
    subst e
    exact hs Dl i acc x _ hD (y xs q) hi ha p) hd
theorem lcT (P : Addr → Nat → List V → Hp → Prop) (hl : ∀ Dl i acc H1, H Dl = none → P Dl i acc H1 → SqT K H1 a xs)
    (h0 : ∀ Dl H1, H Dl = none → Same H H1 → H1 Dl = some (.lst []) → P Dl 0 [] H1)
    (hs : ∀ Dl i acc x H1, H Dl = none → xs[i]? = some x → i < xs.length → acc.length ≤ i → P Dl i acc H1 → g x (wipe σ vs) H1 fun σ2 H2 => wipe σ2 vs = wipe σ vs ∧ tt σ2 H2 fun b H3 =>
      if b = true then te σ2 H3 fun y H4 => LcEnd (NxP P Dl i) Dl y H4 else NxP P Dl i H3)
    (hd : ∀ Dl acc H1, H Dl = none → acc.length ≤ xs.length → P Dl xs.length acc H1 → Q (.ref Dl) H1) : LcGo (Itt K a) g tt te vs σ H Q :=
  lc_any xs.length P (fun Dl acc H1 hD p => ⟨xs, hl Dl _ acc H1 hD p, Nat.le_refl _⟩) h0 (fun Dl i acc H1 hD hi ha p => by
    have q := hl Dl i acc H1 hD p
    refine ⟨⟨xs, xs[i], q, by simp [hi]⟩, fun x H2 y => ?_⟩
    obtain ⟨e, y⟩ := y
    subst e
    exact hs Dl i acc x _ hD (y xs q) hi ha p) hd
theorem lcS {z : Str} (P : Addr → Nat → List V → Hp → Prop)
    (h0 : ∀ Dl H1, H Dl = none → Same H H1 → H1 Dl = some (.lst []) → P Dl 0 [] H1)
    (hs : ∀ Dl i acc c H1, H Dl = none → z.cps.toList[i]? = some c → i < z.cps.toList.length → acc.length ≤ i → P Dl i acc H1 → g (.str ⟨#[c]⟩) (wipe σ vs) H1 fun σ2 H2 => wipe σ2 vs = wipe σ vs ∧ tt σ2 H2 fun b H3 =>
      if b = true then te σ2 H3 fun y H4 => LcEnd (NxP P Dl i) Dl y H4 else NxP P Dl i H3)
    (hd : ∀ Dl acc H1, H Dl = none → acc.length ≤ z.cps.toList.length → P Dl z.cps.toList.length acc H1 → Q (.ref Dl) H1) : LcGo (Its z) g tt te vs σ H Q :=
  lc_any z.cps.toList.length P (fun Dl acc H1 hD p => by show z.cps.size ≤ z.cps.toList.length; simp) h0 (fun Dl i acc H1 hD hi ha p => by
    refine ⟨by show i < z.cps.size; simpa using hi, fun x H2 y => ?_⟩
    obtain ⟨e, c, hc, ex⟩ := y
    subst e
    subst ex
    exact hs Dl i acc c _ hD (by simpa using hc) hi ha p) hd
theorem lcR {lo : Int} {n : Nat} (P : Addr → Nat → List V → Hp → Prop)
    (h0 : ∀ Dl H1, H Dl = none → Same H H1 → H1 Dl = some (.lst []) → P Dl 0 [] H1)
    (hs : ∀ Dl i acc H1, H Dl = none → i < n → acc.length ≤ i → P Dl i acc H1 → g (.int (lo + i)) (wipe σ vs) H1 fun σ2 H2 => wipe σ2 vs = wipe σ vs ∧ tt σ2 H2 fun b H3 =>
      if b = true then te σ2 H3 fun y H4 => LcEnd (NxP P Dl i) Dl y H4 else NxP P Dl i H3)
    (hd : ∀ Dl acc H1, H Dl = none → acc.length ≤ n → P Dl n acc H1 → Q (.ref Dl) H1) : LcGo (Itr lo n) g tt te vs σ H Q :=
  lc_any n P (fun Dl acc H1 hD p => Nat.le_refl _) h0 (fun Dl i acc H1 hD hi ha p => by
    refine ⟨hi, fun x H2 y => ?_⟩
    obtain ⟨e, ex⟩ := y
    subst e
    subst ex
    exact hs Dl i acc _ hD hi ha p) hd
/-! loops: the forms of for_list .. over ForGo -/
theorem forL {xs : List V} (Pv : Nat → L2.St → Hp → Prop) (h0 : Pv 0 σ H) (hl : ∀ i σ H, i ≤ xs.length → Pv i σ H → SqL K H a xs)
    (hs : ∀ i x σ H, xs[i]? = some x → Pv i σ H → g x σ H fun σ2 H2 => tb { D with nx := Pv (i + 1), ct := Pv (i + 1), bk := D.nx } σ2 H2) (hd : ∀ σ H, Pv xs.length σ H → D.nx σ H) : ForGo (Itl K a) g tb D σ H := for_list Pv h0 hl hs hd
theorem forT {xs : List V} (Pv : Nat → L2.St → Hp → Prop) (h0 : Pv 0 σ H) (hl : ∀ i σ H, i ≤ xs.length → Pv i σ H → SqT K H a xs)
    (hs : ∀ i x σ H, xs[i]? = some x → Pv i σ H → g x σ H fun σ2 H2 => tb { D with nx := Pv (i + 1), ct := Pv (i + 1), bk := D.nx } σ2 H2) (hd : ∀ σ H, Pv xs.length σ H → D.nx σ H) : ForGo (Itt K a) g tb D σ H := for_tup Pv h0 hl hs hd
theorem forR {lo : Int} {n : Nat} (Pv : Nat → L2.St → Hp → Prop) (h0 : Pv 0 σ H)
    (hs : ∀ i σ H, i < n → Pv i σ H → g (.int (lo + i)) σ H fun σ2 H2 => tb { D with nx := Pv (i + 1), ct := Pv (i + 1), bk := D.nx } σ2 H2) (hd : ∀ σ H, Pv n σ H → D.nx σ H) : ForGo (Itr lo n) g tb D σ H := for_range Pv h0 hs hd
/-! displays of dicts -/
def rDisp (p : Addr) (ps : List (V × V)) (H2 : Hp) (Q : VK) : Prop := H2 p = some (.dK []) ∧ ∃ kvs : List (Key × V), ps = kvs.map (fun kv => (kV kv.1, kv.2)) ∧ kvs.length ≤ 15 ∧ Q (.ref p) (upd H2 p (.dK (mergeK [] kvs)))
theorem r_disp {trs : List (TE × TE)} (q : ∀ p H1, H p = none → Same H H1 → H1 p = some (.dK []) → tPairs trs σ H1 fun ps H2 => rDisp p ps H2 Q) : tDisp trs σ H Q := fun p hp => q p _ hp (upd_Same hp) upd_same
theorem r_pnil {Q : List (V × V) → Hp → Prop} (q : Q [] H) : tPairs [] σ H Q := q
theorem r_pcons {tk tv : TE} {r : List (TE × TE)} {Q : List (V × V) → Hp → Prop} (q : tk σ H fun x H1 => tv σ H1 fun y H2 => tPairs r σ H2 fun ps H3 => Q ((x, y) :: ps) H3) : tPairs ((tk, tv) :: r) σ H Q := q
theorem disp {p : Addr} {kvs : List (Key × V)} (h : H p = some (.dK [])) (k : ∀ H1, But p H H1 → H1 p = some (.dK (mergeK [] kvs)) → Q (.ref p) H1) (hl : kvs.length ≤ 15 := by first | decide | exact Nat.le_of_ble_eq_true rfl) : rDisp p (kvs.map fun kv => (kV kv.1, kv.2)) H Q :=
  ⟨h, kvs, rfl, hl, k _ (fun _ ha => upd_ne ha) upd_same⟩
end
/-! more of steps -/
section
variable {FZ M : Addr → Prop} {H H1 : Hp} {K : PySem.W.Frag} {a : Addr} {xs : List V}
theorem Stp.lst (s : Stp FZ M H H1) (h : SqL K H a xs) (n : H a = some (.lst xs) → ¬ M a) : SqL K H1 a xs := by
  rcases h with (h | ⟨u, h⟩) | h
  · exact .inl (.inl (s.at h (n h)))
  · exact .inl (.inr ⟨u, s.keep a _ h (.inl trivial)⟩)
  · exact .inr h
theorem ints_get {ns : List Int} {i : Nat} {x : V} (h : (ns.map V.int)[i]? = some x) : ∃ y, ns[i]? = some y ∧ x = .int y := by
  rw [List.getElem?_map] at h
  cases e : ns[i]? with
  | none => exact absurd (e ▸ h) (by simp)
  | some y => rw [e] at h; exact ⟨y, rfl, (Option.some.inj h).symm⟩
theorem at_in {α : Type} {xs : List α} {i : Int} (h0 : 0 ≤ i) (h1 : i < (xs.length : Int)) : ∃ (j : Nat) (x : α), i = (j : Int) ∧ xs[j]? = some x ∧ atI xs i = some x := by
  obtain ⟨j, rfl⟩ : ∃ j : Nat, i = (j : Int) := ⟨i.toNat, by omega⟩
  have hj : j < xs.length := by omega
  exact ⟨j, xs[j], rfl, List.getElem?_eq_getElem hj, atI_nat (List.getElem?_eq_getElem hj)⟩
end
end Cp
namespace Cp
open PySem PySem.Spec
open PyProof.Rows L2

/-! ### texts of plain signs -/
structure Asc (n : Nat) (z : Str) : Prop where
  len : z.length ≤ n
  asc : ∀ c ∈ z.cps.toList, c < 128
theorem Asc.mono {n m : Nat} {z : Str} (h : Asc n z) (hl : n ≤ m) : Asc m z := ⟨Nat.le_trans h.len hl, h.asc⟩
theorem len_list (z : Str) : z.length = z.cps.toList.length := by simp [Str.length]
theorem app_list (a b : Str) : (a ++ b).cps.toList = a.cps.toList ++ b.cps.toList := by
  show (a.cps ++ b.cps).toList = _
  rw [Array.toList_append]
theorem Asc.app {n m : Nat} {a b : Str} (h : Asc n a) (k : Asc m b) : Asc (n + m) (a ++ b) := by
  refine ⟨?_, fun c hc => ?_⟩
  · have h1 := h.len
    have h2 := k.len
    rw [len_list] at h1 h2 ⊢
    rw [app_list, List.length_append]
    omega
  · rw [app_list] at hc
    exact (List.mem_append.mp hc).elim (h.asc c) (k.asc c)
theorem Asc.cut {n : Nat} {z : Str} {lo hi : Option Int} (h : Asc n z) : Asc n (cutS z lo hi) := by
  refine ⟨Nat.le_trans (cutS_length z lo hi) h.len, fun c hc => ?_⟩
  have hc' : c ∈ (z.cps.toList.drop (HT.sIx z.length 0 lo)).take (HT.sIx z.length z.length hi - HT.sIx z.length 0 lo) := by simpa [cutS] using hc
  exact h.asc c (List.mem_of_mem_drop (List.mem_of_mem_take hc'))
theorem Asc.sign {c : Nat} (h : c < 128) : Asc 1 ⟨#[c]⟩ := ⟨by simp [Str.length], fun d hd => by simp at hd; omega⟩
theorem up1_asc {c : Nat} (h : c < 128) : PyProof.Rows.up1 c < 128 := by unfold PyProof.Rows.up1; split <;> omega
theorem Asc.upper {n : Nat} {z : Str} (h : Asc n z) : Asc n (Txt.upper z) := by
  rw [upper_ascii h.asc]
  refine ⟨?_, fun c hc => ?_⟩
  · show (z.cps.map PyProof.Rows.up1).size ≤ n
    rw [Array.size_map]
    exact h.len
  · have hc' : c ∈ z.cps.toList.map PyProof.Rows.up1 := by simpa using hc
    obtain ⟨d, hd, rfl⟩ := List.mem_map.mp hc'
    exact up1_asc (h.asc d hd)
theorem join0_list : ∀ ys : List Str, (Str.join Str.empty ys).cps.toList = (ys.map fun y => y.cps.toList).flatten
  | [] => rfl
  | [x] => by simp [Str.join]
  | x :: y :: r => by
    have ih := join0_list (y :: r)
    show (x ++ Str.empty ++ Str.join Str.empty (y :: r)).cps.toList = _
    rw [app_list, app_list, ih]
    simp [Str.empty]
/-- a text joined of single signs -/
theorem join_signs (cs : List Nat) : Txt.join Str.empty (cs.map fun c => (⟨#[c]⟩ : Str)) = ⟨cs.toArray⟩ := by
  rw [TL.join_eq]
  have e : ∀ cs : List Nat, (((cs.map fun c => (⟨#[c]⟩ : Str)).map fun y => y.cps.toList).flatten) = cs := fun cs => by
    induction cs with
    | nil => rfl
    | cons c cs ih =>
      rw [List.map_cons, List.map_cons, List.flatten_cons, ih]
      rfl
  have h := join0_list (cs.map fun c => (⟨#[c]⟩ : Str))
  rw [e] at h
  generalize Str.join Str.empty (cs.map fun c => (⟨#[c]⟩ : Str)) = z at h ⊢
  obtain ⟨a⟩ := z
  simp only at h
  subst h
  rfl
theorem join_signs' (cs : List Nat) : Txt.join ("" : Str) (cs.map fun c => (⟨#[c]⟩ : Str)) = ⟨cs.toArray⟩ := join_signs cs
theorem signs_sum (cs : List Nat) : ((cs.map fun c => (⟨#[c]⟩ : Str)).map (·.length)).sum = cs.length := by
  induction cs with
  | nil => rfl
  | cons c cs ih =>
    rw [List.map_cons, List.map_cons, List.sum_cons, ih, List.length_cons]
    show 1 + _ = _
    omega
theorem lst_cps (cs : List Nat) : (⟨cs.toArray⟩ : Str).cps.toList = cs := by simp
theorem asc_repr {n : Nat} {z : Str} (h : Asc n z) : (reprText z).length ≤ 10 * n + 2 := by
  have := PySem.StrLaws.reprText_len z (fun c hc => Nat.lt_trans (h.asc c hc) (by decide))
  have := h.len
  omega

theorem add_ssA {K : PySem.W.Frag} {H : Hp} {Q : VK} {n m : Nat} {i j : Str} (h1 : Asc n i) (h2 : Asc m j) (q : Asc (n + m) (i ++ j) → Q (.str (i ++ j)) H) (hz : n + m ≤ 1000000 := by first | decide | omega) : rAdd K (.str i) (.str j) H Q :=
  add_ss (sz2 (by have := h1.len; have := h2.len; omega)) (q (h1.app h2))
/-! ### isinstance -/
section
variable {K : PySem.W.Frag} {H : Hp} {Q : VK} {x : V} {T t : String} {b : Bool}
theorem isi (h : TyX K H x (.type t)) (e : PySem.W.kitOne K (.type t) (.type T) = some b) (q : Q (.bl b) H) : rIsi K [x, .ty T] H Q := ⟨x, .ty T, _, _, b, rfl, .ty T, h, e, q⟩
theorem ty_str {z : Str} : TyX K H (.str z) (.type "str") := .base (.str z)
theorem ty_int {i : Int} : TyX K H (.int i) (.type "int") := .base (.int i)
theorem ty_bl {c : Bool} : TyX K H (.bl c) (.type "bool") := .base (.bl c)
theorem ty_non : TyX K H .non (.type "NoneType") := .base .non
theorem ty_lst {a : Addr} {xs : List V} (h : H a = some (.lst xs)) : TyX K H (.ref a) (.type "list") := .base (.lst h)
theorem ty_tup {a : Addr} {xs : List V} (h : H a = some (.tup xs)) : TyX K H (.ref a) (.type "tuple") := .base (.tup h)
theorem ty_dK {a : Addr} {xs : List (Key × V)} (h : H a = some (.dK xs)) : TyX K H (.ref a) (.type "dict") := .base (.dK h)
theorem kit_ss : PySem.W.kitOne K (.type "str") (.type "str") = some true := kit_ty (by decide +kernel)
theorem kit_is : PySem.W.kitOne K (.type "int") (.type "str") = some false := kit_ty (by decide +kernel)
theorem kit_bs : PySem.W.kitOne K (.type "bool") (.type "str") = some false := kit_ty (by decide +kernel)
theorem kit_ns : PySem.W.kitOne K (.type "NoneType") (.type "str") = some false := kit_ty (by decide +kernel)
theorem kit_ls : PySem.W.kitOne K (.type "list") (.type "str") = some false := kit_ty (by decide +kernel)
theorem kit_ts : PySem.W.kitOne K (.type "tuple") (.type "str") = some false := kit_ty (by decide +kernel)
theorem kit_ds : PySem.W.kitOne K (.type "dict") (.type "str") = some false := kit_ty (by decide +kernel)
theorem kit_bb : PySem.W.kitOne K (.type "bool") (.type "bool") = some true := kit_ty (by decide +kernel)
theorem kit_ii : PySem.W.kitOne K (.type "int") (.type "int") = some true := kit_ty (by decide +kernel)
theorem kit_bi : PySem.W.kitOne K (.type "bool") (.type "int") = some true := kit_ty (by decide +kernel)
theorem kit_ib : PySem.W.kitOne K (.type "int") (.type "bool") = some false := kit_ty (by decide +kernel)
theorem kit_tt : PySem.W.kitOne K (.type "tuple") (.type "tuple") = some true := kit_ty (by decide +kernel)
theorem kit_lt : PySem.W.kitOne K (.type "list") (.type "tuple") = some false := kit_ty (by decide +kernel)
end

/-! ### repr -/
section
variable {X : Cx} {K : PySem.W.Frag} {H : Hp} {Q : VK} {x : V} {d : PyData}
theorem reprD (h : Dp K H x d) (h1 : PyData.showable d = true) (h2 : PyData.hasDict d = false) (h3 : PyData.depth d ≤ 50) (h4 : (PyData.shown d).length ≤ sizeLine) (q : Q (.str (PyData.shown d)) H) : rRepr K [x] H Q := ⟨x, d, rfl, h, h1, h2, h3, h4, q⟩
/-- a dict of one text -/
def rRepr1 : List V → Hp → VK → Prop := fun xs H Q => ∃ a k z, xs = [.ref a] ∧ H a = some (.dK [(.inr k, .str z)]) ∧ (PyData.shown (.dict [(.str k, .str z)])).length ≤ sizeLine ∧ Q (.str (PyData.shown (.dict [(.str k, .str z)]))) H
theorem call_repr1 (hG : X.A.guards = some []) (hu : X.A.units + 64 < cLine) : CallR X (.builtin "repr") rRepr1 := by
  intro pins s σ H xs us Q I r goal
  obtain ⟨a, k, z, rfl, ha, hz, q⟩ := goal
  cases r with
  | cons r0 rr =>
    cases rr
    cases r0
    obtain ⟨_, hsys, vs, kv, o, es, ep, ho, hc, hd, hk, hp, _⟩ := dk_of I.hok ha
    have hsa : sysModules ≠ a := fun e => by rw [← e] at hsys; simp at hsys
    cases kv with
    | cons p1 r1 =>
      cases r1
      obtain ⟨e1, t2, e2⟩ := p1
      generalize hes : es.toList = el at hp
      cases hp with
      | cons f1 f2 f3 =>
        cases f3
        rename_i en
        rw [← e1] at f1
        obtain ⟨t3, e3⟩ := Value.isStrOf_shape (x := k) (v := en.key) f1
        have r : Reads s.heap (.ref a) (.dict [(.str k, .str z)]) (a :: ([] ++ []) ++ ([] ++ [])) := by
          refine .dict ho hc.1 hd ?_ ?_
          · rw [hes]
            show ReadsAll s.heap [en.key] [.str k] ([] ++ [])
            rw [e3]
            exact .cons (.str _ _) .nil
          · rw [hes]
            show ReadsAll s.heap [en.val] [.str z] ([] ++ [])
            rw [f2, e2]
            exact .cons (.str _ _) .nil
        exact repr_of_reads' r (by simp [PyData.showable, PyData.showableKv]) (fun _ hm => by simp at hm; exact hsa hm) hG (by simp [PyData.depth, PyData.depthKv]; omega) (fun _ _ e => e) (fun h' u tk hk => ⟨.str _, H, I.kept hk, ⟨_, rfl⟩, q⟩) hz
end
end Cp
namespace Cp
open PySem PySem.Spec
open PyProof.Rows L2

def rIsiU (K : PySem.W.Frag) : List V → Hp → VK → Prop := fun xs H Q => rIsi K xs H Q ∨ rIsiT K xs H Q
def rListOf (K : PySem.W.Frag) : List V → Hp → VK → Prop := fun xs H Q => ∃ p ys, xs = [.ref p] ∧ (SqL K H p ys ∨ SqT K H p ys) ∧ ∀ l, H l = none → Q (.ref l) (upd H l (.lst ys))
def rTupOf (K : PySem.W.Frag) : List V → Hp → VK → Prop := fun xs H Q => ∃ p ys, xs = [.ref p] ∧ ((SqL K H p ys ∧ ∀ l, H l = none → Q (.ref l) (upd H l (.tup ys))) ∨ (SqT K H p ys ∧ Q (.ref p) H))
def rJoin (K : PySem.W.Frag) : V → List V → Hp → VK → Prop := fun x xs H Q => ∃ a p, ∃ ys : List Str, x = .str a ∧ xs = [.ref p] ∧ (SqL K H p (ys.map V.str) ∨ SqT K H p (ys.map V.str)) ∧ (ys.map (·.length)).sum + ys.length * a.length ≤ 16777216 ∧ Q (.str (Txt.join a ys)) H
def rUpper : V → List V → Hp → VK → Prop := fun x xs H Q => ∃ a, x = .str a ∧ xs = [] ∧ a.length ≤ 5592405 ∧ Q (.str (Txt.upper a)) H
section
variable {X : Cx} {K : PySem.W.Frag}
theorem kAdd (hK : X.K = K := by rfl) : OpR X (binaryOp .Add) (rAdd K) := hK ▸ opU_add
theorem kEq (hu : X.A.units + 64 < cLine) (hK : X.K = K := by rfl) : OpR X (compareOp .Eq) (rEqU K) := hK ▸ opU_eq hu
theorem kNe (hu : X.A.units + 64 < cLine) (hK : X.K = K := by rfl) : OpR X (compareOp .NotEq) (rNeU K) := hK ▸ opU_ne hu
theorem kIn (hu : X.A.units + 65 < cLine) (hK : X.K = K := by rfl) : OpR X (compareOp .In) (rInU K) := hK ▸ opU_in hu
theorem kNotIn (hu : X.A.units + 65 < cLine) (hK : X.K = K := by rfl) : OpR X (compareOp .NotIn) (rNotInU K) := hK ▸ opU_notIn hu
theorem kIx (hK : X.K = K := by rfl) : IxR X (rIx K) := hK ▸ ix_seq
theorem kLen (hK : X.K = K := by rfl) : CallR X (.builtin "len") (rLen K) := hK ▸ callU_len
theorem kIsi (hK : X.K = K := by rfl) : CallR X (.builtin "isinstance") (rIsiU K) := hK ▸ CallR.or call_isi call_isiT
theorem kRepr (hG : X.A.guards = some []) (hu : X.A.units + 64 < cLine) (hK : X.K = K := by rfl) : CallR X (.builtin "repr") (rRepr K) := hK ▸ call_repr hG hu
theorem kList (hK : X.K = K := by rfl) : CallR X (.type "list") (rListOf K) := hK ▸ (call_list_of (X := X))
theorem kTuple (hK : X.K = K := by rfl) : CallR X (.type "tuple") (rTupOf K) := hK ▸ (call_tuple_of (X := X))
theorem kAll (hc : X.calm = true) (hK : X.K = K := by rfl) : CallR X (.builtin "all") (rAll K) := hK ▸ cr_all hc
theorem kAny (hc : X.calm = true) (hK : X.K = K := by rfl) : CallR X (.builtin "any") (rAny K) := hK ▸ cr_any hc
theorem kSum (hc : X.calm = true) (hK : X.K = K := by rfl) : CallR X (.builtin "sum") (rSum K) := hK ▸ cr_sum hc
theorem kSlL (hK : X.K = K := by rfl) : SlR X (rSlL K) := hK ▸ sl_list
theorem kSlT (hK : X.K = K := by rfl) : SlR X (rSlA K) := hK ▸ sl_tupA
theorem kJoin (hK : X.K = K := by rfl) : MtR X "str.join" (rJoin K) := hK ▸ (mt_join (X := X))
theorem kUpper : MtR X "str.upper" rUpper := mt_upper
variable {e o : Expr} {es : List Expr} {te to : TE} {t : TA} {tg : Expr} {f : Str} {pos apos cpos pos' : Pos} {name : Str} {id T : String} {r : V → List V → Hp → VK → Prop}
theorem k_fld (he : PE X e te) (hb : attributeBase e f X.env (eval e X.env) = eval e X.env) (hK : X.K = K := by rfl) : PE X (.Attribute e f pos) (tFld K te f) := hK ▸ pe_fld he hb
theorem k_bm0 (own : PlainAttrs T) (at_ : Slot T name id) (kind : typeOf (.builtin id) = pure (.type "method_descriptor")) (does : MtR X id r) (obj : PE X o to) (stands : attributeBase o name X.env (eval o X.env) = eval o X.env := by rfl)
    (row : (apos.endLine == cpos.line) = true := by rfl) (told : X.K = K := by rfl) : PE X (.Call (.Attribute o name apos) [] [] cpos) (tBM0 K T r to) := told ▸ pe_bm0 own at_ kind does obj stands row
theorem k_bm (own : PlainAttrs T) (at_ : Slot T name id) (kind : typeOf (.builtin id) = pure (.type "method_descriptor")) (does : MtR X id r) (obj : PE X o to) (args : PA X (e :: es) t) (stands : attributeBase o name X.env (eval o X.env) = eval o X.env := by rfl)
    (few : ((backTo cpos (starEach (e :: es) X.env)).all (fun x => !x.1) && (backToKw cpos (keywordEach [] X.env)).all (fun x => x.1.isSome) && decide ((e :: es).length + ([] : List Keyword).length + (if ([] : List Keyword).isEmpty then 0 else 1) < 30)) = true := by rfl)
    (row : (apos.endLine == cpos.line) = true := by rfl) (each : starEach (e :: es) X.env = (false, eval e X.env) :: starEach es X.env := by rfl) (single : (backTo cpos (starEach es X.env)).any (·.1) = false := by rfl) (told : X.K = K := by rfl) :
    PE X (.Call (.Attribute o name apos) (e :: es) [] cpos) (tBM K T r to t) := told ▸ pe_bm own at_ kind does obj args stands few row each single
theorem k_list (hl : PE X e te) (hK : X.K = K := by rfl) : PI X tg e (iList K te) := hK ▸ pi_list hl
theorem k_tup (hl : PE X e te) (hK : X.K = K := by rfl) : PI X tg e (iTup K te) := hK ▸ pi_tup hl
theorem k_enum {p tpos : Pos} {elts : List Expr} {kk : Nat} (hg : Gl X "enumerate") (hm : X.mg "enumerate" = none) (ha : PA X [e] t) (hs : starEach [e] X.env = [(false, eval e X.env)] := by rfl) (hK : X.K = K := by rfl) :
    PI X (.Tuple elts kk tpos) (.Call (.Name "enumerate" p) [e] [] pos) (iEnum K t) := hK ▸ pi_enum hg hm ha hs
theorem k_reversed {p : Pos} (hg : Gl X "reversed") (hm : X.mg "reversed" = none) (ha : PA X [e] t) (hs : starEach [e] X.env = [(false, eval e X.env)] := by rfl) (hK : X.K = K := by rfl) : PI X tg (.Call (.Name "reversed" p) [e] [] pos) (iRev K t) := hK ▸ pi_reversed hg hm ha hs
theorem k_gtup {k : Nat} {gs : TGs} {n : Nat} (hc : X.calm = true) (h : PGs X es gs) (hn : (assignEach es X.env).length = n := by rfl) (hst : (assignEach es X.env).findIdx? (·.1) = none := by rfl) (hK : X.K = K := by rfl) : PG X (.Tuple es k pos) (gTup K n gs) := hK ▸ pg_tup hc h hn hst
end
section
variable {K : PySem.W.Frag} {H : Hp} {Q : VK} {x : V} {T t : String} {b : Bool} {p : Addr} {xs : List V}
theorem r_tyS {z : Str} {A : Prop} (q : A) : tyV K "str" (.str z) H ∧ A := ⟨rfl, q⟩
theorem r_sl {σ : L2.St} {te : TE} {r : V → Option Int → Option Int → Hp → VK → Prop} {tl th : TO} (q : te σ H fun x H1 => tl σ H1 fun l H2 => th σ H2 fun u H3 => r x l u H3 Q) : tSl r te tl th σ H Q := q
theorem r_np {σ : L2.St} {QO : Option Int → Hp → Prop} (q : QO none H) : tNoPart σ H QO := q
theorem r_part {σ : L2.St} {te : TE} {QO : Option Int → Hp → Prop} (q : te σ H fun x H1 => ∃ i, x = .int i ∧ QO (some i) H1) : tPart te σ H QO := q
theorem r_exi {i : Int} {R : Int → Prop} (q : R i) : ∃ i', V.int i = .int i' ∧ R i' := ⟨i, rfl, q⟩
theorem slS {z : Str} {lo hi : Option Int} (hz : z.length ≤ 1000000) (q : Q (.str (cutS z lo hi)) H) : rSlS (.str z) lo hi H Q := ⟨z, rfl, Nat.le_trans hz (by decide), q⟩
theorem slL {lo hi : Option Int} (h : SqL K H p xs) (k : ∀ l H2, H l = none → Same H H2 → H2 l = some (.lst (cutV xs lo hi)) → Q (.ref l) H2) : rSlL K (.ref p) lo hi H Q := ⟨p, xs, rfl, h, fun l hl => k l _ hl (upd_Same hl) upd_same⟩
theorem isiU (h : TyX K H x (.type t)) (e : PySem.W.kitOne K (.type t) (.type T) = some b) (q : Q (.bl b) H) : rIsiU K [x, .ty T] H Q := .inl (isi h e q)
theorem listOf (h : SqL K H p xs ∨ SqT K H p xs) (k : ∀ l H2, H l = none → Same H H2 → H2 l = some (.lst xs) → Q (.ref l) H2) : rListOf K [.ref p] H Q := ⟨p, xs, rfl, h, fun l hl => k l _ hl (upd_Same hl) upd_same⟩
theorem tupOfL (h : SqL K H p xs) (k : ∀ l H2, H l = none → Same H H2 → H2 l = some (.tup xs) → Q (.ref l) H2) : rTupOf K [.ref p] H Q := ⟨p, xs, rfl, .inl ⟨h, fun l hl => k l _ hl (upd_Same hl) upd_same⟩⟩
theorem tupOfT (h : SqT K H p xs) (q : Q (.ref p) H) : rTupOf K [.ref p] H Q := ⟨p, xs, rfl, .inr ⟨h, q⟩⟩
theorem allL {bs : List Bool} (h : SqL K H p (bs.map V.bl)) (q : Q (.bl (bs.all id)) H) : rAll K [.ref p] H Q := ⟨p, bs, rfl, h, q⟩
theorem anyL {bs : List Bool} (h : SqL K H p (bs.map V.bl)) (q : Q (.bl (bs.any id)) H) : rAny K [.ref p] H Q := ⟨p, bs, rfl, h, q⟩
theorem joinL {a : Str} {ys : List Str} (h : SqL K H p (ys.map V.str)) (hz : (ys.map (·.length)).sum + ys.length * a.length ≤ 16777216) (q : Q (.str (Txt.join a ys)) H) : rJoin K (.str a) [.ref p] H Q := ⟨a, p, ys, rfl, rfl, .inl h, hz, q⟩
theorem upperS {a : Str} (hz : a.length ≤ 5592405) (q : Q (.str (Txt.upper a)) H) : rUpper (.str a) [] H Q := ⟨a, rfl, rfl, hz, q⟩
end
end Cp
namespace Cp
open PySem PySem.Spec
open PyProof.Rows L2

def rReprU (K : PySem.W.Frag) : List V → Hp → VK → Prop := fun xs H Q => rRepr K xs H Q ∨ rRepr1 xs H Q
/-- repr of v is the text R, at any heap like this one -/
def Shows (K : PySem.W.Frag) (H : Hp) (v : V) (R : Str) : Prop := ∀ Q : VK, Q (.str R) H → rReprU K [v] H Q
section
variable {X : Cx} {K : PySem.W.Frag} {H : Hp} {Q : VK} {v : V} {R : Str}
theorem kReprU (hG : X.A.guards = some []) (hu : X.A.units + 64 < cLine) (hK : X.K = K := by rfl) : CallR X (.builtin "repr") (rReprU K) := hK ▸ CallR.or (call_repr hG hu) (call_repr1 hG hu)
theorem reprS (h : Shows K H v R) (q : Q (.str R) H) : rReprU K [v] H Q := h Q q
def rMin2 : List V → Hp → VK → Prop := fun xs H Q => ∃ i j, xs = [.int i, .int j] ∧ Q (.int (if j < i then j else i)) H
theorem kMin2 (hc : X.calm = true) : CallR X (.builtin "min") rMin2 := call_min2 hc
theorem min2 {i j : Int} (q : Q (.int (min i j)) H) : rMin2 [.int i, .int j] H Q := by
  refine ⟨i, j, rfl, ?_⟩
  have e : (if j < i then j else i) = min i j := by
    rw [Int.min_def]
    split <;> split <;> omega
  rw [e]
  exact q
end
section
variable {X : Cx} {CX : CXT} {k : Nat} {f : Addr} {fd : FuncData} {ps ks : List Str} {sp : Sp} {E : XK} {x : Str} {p pos : Pos} {kws : List Keyword} {t : TA} {g : List Value → List Value → List Value} {gV : List V → List V → List V}
/-- f(k = v, ..): no positional argument -/
def tKw (sp : Sp) (gV : List V → List V → List V) (E : XK) (t : TA) : TE := fun σ H Q => t σ H fun zs H1 => sp (gV [] zs) H1 Q E
theorem kCallKw (F : FnOk X.prog X.w X.K X.mg X.base CX k f fd ps sp) (room : Room k X.A) (gl : Gl X x) (hm : X.mg x = some (.ref f)) (keep : PySem.W.keepIn X.K (.ref f) = true) (kb : KBinds X.K fd ps ks g gV) (ex : Passes CX X E) (kw : PK X kws t)
    (named : (backToKw pos (keywordEach kws X.env)).all (·.1.isSome) = true := by rfl) (names : (backToKw pos (keywordEach kws X.env)).filterMap (·.1) = ks := by rfl) (dbg : (x == ("__debug__" : Str)) = false := by decide)
    (plain : ((backTo pos (starEach [] X.env)).any (·.1) || (backToKw pos (keywordEach kws X.env)).any (·.1.isNone)) = false := by rfl) : PE X (.Call (.Name x p) [] kws pos) (tKw sp gV E t) := by
  constructor
  intro pins s σ H Q inv goal
  apply wpAny_Call_Name_kw
  apply ld_glob inv gl hm _ dbg
  apply PySem.W.callWith_KW0 (h₀ := X.base) inv.ok.mod.kin keep named _ plain
  refine thn (kw.run pos pins s σ H _ inv goal) ?_
  rintro ws s2 ⟨zs, H2, inv2, rel, sat⟩
  refine ⟨inv2.kIn, ?_⟩
  rw [names]
  exact run_fnk F room kb ex inv2 .nil rel sat
theorem r_kw {σ : L2.St} {H : Hp} {Q : VK} (q : t σ H fun zs H1 => sp (gV [] zs) H1 Q E) : tKw sp gV E t σ H Q := q
/-- one parameter, by place or by its name -/
theorem kb_one {K : PySem.W.Frag} {n : Str} (h : ∀ (s : Shared) (v : Value), BindsTo s fd ⟨[v], []⟩ [(n, v)]) (h' : ∀ (s : Shared) (v : Value), BindsTo s fd ⟨[], [(n, v)]⟩ [(n, v)]) : KBinds K fd [n] [n] (fun us ws => us ++ ws) (fun vs zs => vs ++ zs) := by
  refine ⟨fun s us ws _ hl => ?_, fun r z => r.append z⟩
  match us, ws, hl with
  | [u], [], _ => exact h s u
  | [], [u], _ => exact h' s u
end
end Cp
namespace Cp
open PySem PySem.Spec PySem.W
open PyProof.Rows L2

/-! ### < of data -/
def rLtD (K : PySem.W.Frag) : R2 := fun x y H Q => ∃ d e, Dp K H x d ∧ Dp K H y e ∧ alike d e = true ∧ d ≠ .none ∧ PyData.depth d ≤ 50 ∧ Q (.bl (dataLt d e)) H
section
variable {X : Cx} {K : PySem.W.Frag} {H : Hp} {Q : VK} {x y : V} {d e : PyData}
theorem kLtD (hu : X.A.units + 64 < cLine) (hK : X.K = K := by rfl) : OpR X (compareOp .Lt) (rLtD K) := by
  subst hK
  intro pins s σ H x y v u Q I rx ry goal
  obtain ⟨d, e, hd, he, al, no, dp, q⟩ := goal
  obtain ⟨as, r1⟩ := Dp.reads I d x v hd rx
  obtain ⟨bs, r2⟩ := Dp.reads I e y u he ry
  exact rcLt_alike d e X.A s v u as bs r1 r2 al no (by have := Nat.min_le_left (PyData.depth d) (PyData.depth e); omega) X.prog X.w X.xe _ ⟨.bl (dataLt d e), H, I, rfl, q⟩
theorem ltD (h1 : Dp K H x d) (h2 : Dp K H y e) (al : alike d e = true) (no : d ≠ .none) (dp : PyData.depth d ≤ 50) (q : Q (.bl (dataLt d e)) H) : rLtD K x y H Q := ⟨d, e, h1, h2, al, no, dp, q⟩
end

theorem add_llS {K : PySem.W.Frag} {H : Hp} {Q : VK} {l b : Addr} {xs zs : List V} (h1 : H l = some (.lst xs)) (h2 : H b = some (.lst zs)) (hz : xs.length + zs.length ≤ 1000000) (k : ∀ p H2, H p = none → Same H H2 → H2 p = some (.lst (xs ++ zs)) → Q (.ref p) H2) : rAdd K (.ref l) (.ref b) H Q :=
  add_ll h1 h2 (sz2 hz) fun p hp => k p _ hp (upd_Same hp) upd_same
theorem strs_get {zs : List Str} {i : Nat} {x : V} (h : (zs.map V.str)[i]? = some x) : ∃ z, z ∈ zs ∧ x = .str z := by
  obtain ⟨z, hz, e⟩ := List.mem_map.mp (List.mem_of_getElem? h)
  exact ⟨z, hz, e.symm⟩
def rIns : V → List V → Hp → VK → Prop := fun o args H Q => ∃ (l : Addr) (xs : List V) (i : Int) (y : V), o = .ref l ∧ args = [.int i, y] ∧ H l = some (.lst xs) ∧ xs.length < sizeLine ∧ 0 ≤ i ∧ i < 2 ^ 63 ∧ Q .non (upd H l (.lst (xs.take i.toNat ++ [y] ++ xs.drop i.toNat)))
theorem kIns {X : Cx} : MtR X "list.insert" rIns := mt_insert
theorem insL {H : Hp} {Q : VK} {l : Addr} {xs : List V} {i : Int} {y : V} (h : H l = some (.lst xs)) (h0 : 0 ≤ i) (h1 : i < 2 ^ 63) (k : ∀ H2, But l H H2 → H2 l = some (.lst (xs.take i.toNat ++ [y] ++ xs.drop i.toNat)) → Q .non H2) (hz : xs.length ≤ 1000000) : rIns (.ref l) [.int i, y] H Q :=
  ⟨l, xs, i, y, rfl, rfl, h, Nat.lt_of_le_of_lt hz (by decide), h0, h1, k _ (fun _ ha => upd_ne ha) upd_same⟩
theorem ne_selfB {K : PySem.W.Frag} {H : Hp} {Q : VK} {b : Bool} (q : Q (.bl false) H) : rNeU K (.bl b) (.bl b) H Q := ne_s rfl (by rw [decide_eq_true rfl]; exact q)
/-! ### the lower layer: plain names in a frame of their own -/
/-- s is as s0 was, but for the frame of env (where the names are as m says) and new objects -/
def Lc (env : Env) (m : Str → Option Value) (s0 s : Shared) : Prop := ∃ h tk, s = { s0 with heap := h, toks := tk } ∧ h.Ns env.locals m ∧ ∀ b o, b ≠ env.locals → s0.heap.get? b = some o → h.get? b = some o
section
variable {prog : Program} {w : World} {A : Around} {E : Value → Shared → Prop} {s0 s : Shared} {env : Env} {m : Str → Option Value} {x : Str} {v : Value} {pos : Pos}
theorem Lc.load {Q : Value → Shared → Prop} (l : Lc env m s0 s) (fn : env.scope.kind = .function) (hk : env.kindOf x = some .local) (hv : m x = some v) (q : Q v s) (hd : (x == ("__debug__" : Str)) = false := by decide) :
    wpAny (model prog w) A (eval (.Name x pos) env) Q E s := by
  obtain ⟨h, tk, rfl, ns, _⟩ := l
  exact wpAny_Name (wpAny_loadName_local fn hk ns hv q) hd
theorem Lc.store {Q : Unit → Shared → Prop} (l : Lc env m s0 s) (fn : env.scope.kind = .function) (hk : env.kindOf x = some .local) (q : ∀ s', Lc env (fun y => if y = x then some v else m y) s0 s' → Q () s') :
    wpAny (model prog w) A (assign (.Name x pos) env v) Q E s := by
  obtain ⟨h, tk, rfl, ns, kp⟩ := l
  refine wpAny_assign_Name (wpAny_storeName_local hk ns (fun h' ns' same => ?_) ?_)
  · exact q _ ⟨h', _, rfl, ns', fun b o ne e => (same.2 b ne).trans (kp b o ne e)⟩
  · rw [fn]
    rfl
theorem Lc.grow {h' : Heap} {tk : Nat} (l : Lc env m s0 s) (k : ∀ b o, s.heap.get? b = some o → h'.get? b = some o) : Lc env m s0 { s with heap := h', toks := tk } := by
  obtain ⟨h, t, rfl, ns, kp⟩ := l
  exact ⟨h', tk, rfl, ns.keeps k, fun b o ne e => k b o (kp b o ne e)⟩
theorem spl {e : Expr} {es : List Expr} {Q : List Value → Shared → Prop} (q : wpAny (model prog w) A (eval e env) (fun u s1 => wpAny (model prog w) A (spliced (backTo pos (starEach es env))) (fun us s2 => Q (u :: us) s2) E s1) E s)
    (h1 : starEach (e :: es) env = (false, eval e env) :: starEach es env := by rfl) : wpAny (model prog w) A (spliced (backTo pos (starEach (e :: es) env))) Q E s := by
  rw [h1]
  exact Calls.spliced_cons q
theorem asg_one {tg : Expr} {Q : Unit → Shared → Prop} (q : wpAny (model prog w) A (assign tg env v) Q E s) (h1 : (assignEach [tg] env).map (·.2) = [assign tg env] := by rfl) : wpAny (model prog w) A (assignAll v ((assignEach [tg] env).map (·.2))) Q E s := by
  rw [h1]
  exact q
end
end Cp
namespace Cp
open PySem PySem.Spec
open PyProof.Rows L2
local macro_rules | `(tactic| walk_at "rd1") => `(tactic| first
  | with_reducible refine r_seq ?_ | with_reducible refine r_next ?_ | with_reducible refine r_ret ?_ | with_reducible refine r_retN ?_ | with_reducible refine r_drop ?_ | with_reducible refine r_asg ?_ | with_reducible refine r_name ?_ | with_reducible refine r_ifS ?_ | with_reducible refine r_B ?_ | with_reducible refine r_test ?_ | with_reducible refine r_bl ?_ | with_reducible refine r_and ?_ | with_reducible refine r_or ?_ | with_reducible refine r_not ?_
  | with_reducible refine r_andV ?_ | with_reducible refine r_orV ?_ | with_reducible refine r_notV ?_ | with_reducible refine r_ifE ?_ | with_reducible refine r_itT ?_ | with_reducible refine r_itF ?_ | with_reducible refine r_itNT ?_ | with_reducible refine r_itNF ?_
  | with_reducible refine r_c ?_ | (with_reducible show tVar _ _ _ _; refine r_var rfl ?_) | with_reducible refine r_op ?_ | with_reducible refine r_un ?_ | with_reducible refine r_I0 ?_ | with_reducible refine r_chain ?_
  | with_reducible refine r_dget ?_ | (with_reducible show rDGet (.ref _) (.str _) _ _; refine r_dgetS (by assumption) (by first | exact drK_great | exact drK_rest | exact drK_turn | exact drK_seed | exact drK_cells | assumption | rfl) ?_) | with_reducible refine r_dput ?_ | with_reducible refine r_nil ?_ | with_reducible refine r_cons ?_ | with_reducible refine r_call ?_ | with_reducible refine r_CB ?_ | with_reducible refine r_BM ?_ | with_reducible refine r_BM0 ?_ | with_reducible refine r_tup ?_ | with_reducible refine r_lst ?_
  | with_reducible refine r_lc ?_ | with_reducible refine r_for ?_ | (show wipe _ _ = wipe _ _ ∧ _; refine r_wip rfl ?_) | with_reducible refine r_yes ?_ | with_reducible refine r_iList ?_ | with_reducible refine r_iTup ?_ | with_reducible refine r_iStr ?_ | with_reducible refine r_iRng1 ?_ | with_reducible refine r_iRng2 ?_ | with_reducible refine r_iEnum ?_ | with_reducible refine itS ?_ | with_reducible refine r_kw ?_ | with_reducible refine min2 ?_ | with_reducible refine r_pnil ?_ | with_reducible refine r_pcons ?_
  | with_reducible refine r_tyS ?_ | with_reducible refine r_sl ?_ | with_reducible refine r_np ?_ | with_reducible refine r_part ?_ | with_reducible refine r_exi ?_
  | with_reducible refine r_gnil ?_ | with_reducible refine r_gcons ?_ | with_reducible refine r_par ?_ | with_reducible refine r_par' ?_ | with_reducible refine r_par3 ?_ | with_reducible refine r_par3' ?_
  | with_reducible refine add_ii ?_ | with_reducible refine eq_ii ?_ | with_reducible refine eq_ss ?_ | with_reducible refine ne_ii ?_ | with_reducible refine ne_ss ?_
  | (with_reducible refine r_I ?h1 ?_; (case h1 => first | decide | omega | (unfold CDiv; omega) | (unfold CMul; omega) | (unfold CPow; omega) | (unfold CPow; decide) | assumption))
  | (with_reducible show rLen _ [.ref _] _ _; first | refine len_l (SqL.of (by assumption)) ?_ | refine len_l (by assumption) ?_ | refine len_t (SqT.of (by assumption)) ?_ | refine len_t (by assumption) ?_))
local macro_rules | `(tactic| walk_at "rd") => `(tactic| repeat (first | walk_at "rd1" | (dsimp only; walk_at "rd1")))
def top (i : Nat) : Stmt := PySem.Challenge.pw_counterpost_k05_letters_in_order.main.body.getD i (.Pass ⟨0, 0, 0, 0⟩)
abbrev s_Lbegun : Stmt := top 3
abbrev N_Lbegun : List Str := ["_law_script", "_law_cell"]
abbrev P_Lbegun : List Str := ["_law_script"]
theorem sc_Lbegun : FnScope N_Lbegun P_Lbegun (defScope s_Lbegun) := ⟨rfl, rfl, rfl, by decide +kernel, rfl, by decide +kernel, by decide +kernel⟩
abbrev s_Ltake : Stmt := top 4
abbrev N_Ltake : List Str := ["_law_state", "_law_many", "_law_found", "_law_turn", "_law_cell", "_law_seed", "_law_mixed"]
abbrev P_Ltake : List Str := ["_law_state", "_law_many"]
theorem sc_Ltake : FnScope N_Ltake P_Ltake (defScope s_Ltake) := ⟨rfl, rfl, rfl, by decide +kernel, rfl, by decide +kernel, by decide +kernel⟩
abbrev s_Lpick : Stmt := top 5
abbrev N_Lpick : List Str := ["_law_state", "_law_some"]
abbrev P_Lpick : List Str := ["_law_state", "_law_some"]
theorem sc_Lpick : FnScope N_Lpick P_Lpick (defScope s_Lpick) := ⟨rfl, rfl, rfl, by decide +kernel, rfl, by decide +kernel, by decide +kernel⟩
abbrev s_order : Stmt := top 1
abbrev N_order : List Str := ["letter", "time", "to", "kind", "number", "sender", "sent", "place", "turn"]
abbrev P_order : List Str := ["letter"]
theorem sc_order : FnScope N_order P_order (defScope s_order) := ⟨rfl, rfl, rfl, by decide +kernel, rfl, by decide +kernel, by decide +kernel⟩
abbrev s_Lletter : Stmt := top 6
abbrev N_Lletter : List Str := ["_law_state", "_law_titles", "_law_time", "_law_number", "_law_sender", "_law_sent", "_law_place", "_law_turn"]
abbrev P_Lletter : List Str := ["_law_state", "_law_titles"]
theorem sc_Lletter : FnScope N_Lletter P_Lletter (defScope s_Lletter) := ⟨rfl, rfl, rfl, by decide +kernel, rfl, by decide +kernel, by decide +kernel⟩
abbrev s_Lfirst : Stmt := top 7
abbrev N_Lfirst : List Str := ["_law_one", "_law_other", "_law_k"]
abbrev P_Lfirst : List Str := ["_law_one", "_law_other"]
theorem sc_Lfirst : FnScope N_Lfirst P_Lfirst (defScope s_Lfirst) := ⟨rfl, rfl, rfl, by decide +kernel, rfl, by decide +kernel, by decide +kernel⟩
abbrev s_law : Stmt := top 8
abbrev N_law : List Str := ["_law_script", "_law_state", "_law_titles", "_law_some", "_law_k", "_law_due", "_law_one", "_law_at", "_law_other", "_law_told", "_law_whole"]
abbrev P_law : List Str := ["_law_script"]
theorem sc_law : FnScope N_law P_law (defScope s_law) := ⟨rfl, rfl, rfl, by decide +kernel, rfl, by decide +kernel, by decide +kernel⟩
structure Txt (K : PySem.W.Frag) (mg : Str → Option Value) where
  a_Lbegun : Addr
  fd_Lbegun : FuncData
  F_Lbegun : Fun K "_law_begun" "_law_begun" s_Lbegun a_Lbegun fd_Lbegun
  b_Lbegun : Binds K fd_Lbegun P_Lbegun []
  m_Lbegun : mg "_law_begun" = some (.ref a_Lbegun)
  a_Ltake : Addr
  fd_Ltake : FuncData
  F_Ltake : Fun K "_law_take" "_law_take" s_Ltake a_Ltake fd_Ltake
  b_Ltake : Binds K fd_Ltake P_Ltake []
  m_Ltake : mg "_law_take" = some (.ref a_Ltake)
  a_Lpick : Addr
  fd_Lpick : FuncData
  F_Lpick : Fun K "_law_pick" "_law_pick" s_Lpick a_Lpick fd_Lpick
  b_Lpick : Binds K fd_Lpick P_Lpick []
  m_Lpick : mg "_law_pick" = some (.ref a_Lpick)
  a_order : Addr
  fd_order : FuncData
  F_order : Fun K "order" "order" s_order a_order fd_order
  b_order : Binds K fd_order P_order []
  kb_order : KBinds K fd_order P_order ["letter"] (fun us ws => us ++ ws) (fun vs zs => vs ++ zs)
  m_order : mg "order" = some (.ref a_order)
  a_Lletter : Addr
  fd_Lletter : FuncData
  F_Lletter : Fun K "_law_letter" "_law_letter" s_Lletter a_Lletter fd_Lletter
  b_Lletter : Binds K fd_Lletter P_Lletter []
  m_Lletter : mg "_law_letter" = some (.ref a_Lletter)
  a_Lfirst : Addr
  fd_Lfirst : FuncData
  F_Lfirst : Fun K "_law_first" "_law_first" s_Lfirst a_Lfirst fd_Lfirst
  b_Lfirst : Binds K fd_Lfirst P_Lfirst []
  m_Lfirst : mg "_law_first" = some (.ref a_Lfirst)
  a_law : Addr
  fd_law : FuncData
  F_law : Fun K "law" "law" s_law a_law fd_law
  b_law : Binds K fd_law P_law []
  m_law : mg "law" = some (.ref a_law)
  n_len : mg "len" = none
  n_range : mg "range" = none
  n_repr : mg "repr" = none
  n_sorted : mg "sorted" = none

section
variable {P : Program} {w : World} {K : PySem.W.Frag} {mg : Str → Option Value} {base : Heap}
theorem ok_Ltake (T : Txt K mg) {FZ : Addr → Prop} : FnOk P w K mg base CX0 1 T.a_Ltake T.fd_Ltake P_Ltake (spTake FZ) := by
  refine T.F_Ltake.ok sc_Ltake (fun vs H Q E h => ?_) (fun cdv A outer s H vs Q E hr h => ?_)
  · obtain ⟨_, _, _, _, _, rfl, _⟩ := h
    rfl
  · obtain ⟨d, g, c, n, m, rfl, hm, hm2, ⟨dg, dc, gc, gs, cs, r, t, sd, hd, hg, hc, r0, gs0, gl, t0, tn, s0, s1', cne, cs0, cl⟩, hn, k⟩ := h
    have hu := hu_of hr
    refine ⟨_, (Evl.pss_cut (ps_if (PW.pt (pw_and (pt_cmpR (kEq (K := K) hr.units) (pe_dget hu (pv 0) pe_str (fun _ _ => rfl)) pe_int (nomark _)) (pw_and1 (pt_cmpR (kNe (K := K) hr.units) (pe_dget hu (pv 0) pe_str (fun _ _ => rfl)) (pe_lst pa_nil) (nomark _)))))
  (pss_one (ps_dput hu (pv 0) pe_str (k_bm (K := K) PySem.F.plainAttrs_list PySem.F.slot_list_pop PySem.F.type_list_pop mt_popAt (pe_dget hu (pv 0) pe_str (fun _ _ => rfl)) (pa_cons pe_int pa_nil)) rfl))
  pss_nil)
  (pss_cons (ps_if (pt_cmpR op_gt (pe_dget hu (pv 0) pe_str (fun _ _ => rfl)) pe_int (nomark _))
  (pss_cons (ps_set (i := 2) sc_Ltake.nd rfl (Or.inl rfl) (pe_op op_mod (pe_dget hu (pv 0) pe_str (fun _ _ => rfl)) (pv 1)))
  (pss_cons (ps_dput hu (pv 0) pe_str (pe_op op_fdiv (pe_dget hu (pv 0) pe_str (fun _ _ => rfl)) (pv 1)) rfl)
  (pss_one (ps_ret (pv 2)))))
  pss_nil)
  (pss_cons (ps_set (i := 3) sc_Ltake.nd rfl (Or.inl rfl) (pe_dget hu (pv 0) pe_str (fun _ _ => rfl)))
  (pss_cons (ps_dput hu (pv 0) pe_str (pe_op (kAdd (K := K)) (pv 3) pe_int) rfl)
  (pss_cons (ps_set (i := 4) sc_Ltake.nd rfl (Or.inl rfl) (pe_ix (kIx (K := K)) (pe_dget hu (pv 0) pe_str (fun _ _ => rfl)) (pe_op op_mod (pv 3) (pe_callB (kLen (K := K)) (by rfl) T.n_len (by decide +kernel) (pa_cons (pe_dget hu (pv 0) pe_str (fun _ _ => rfl)) pa_nil))) (fun _ _ => rfl)))
  (pss_cons (ps_set (i := 5) sc_Ltake.nd rfl (Or.inl rfl) (pe_op op_mod (pe_op (kAdd (K := K)) (pe_op (kAdd (K := K)) (pe_op op_mul (pe_dget hu (pv 0) pe_str (fun _ _ => rfl)) pe_int) (pe_op op_mul (pv 4) (pe_op (kAdd (K := K)) (pe_op op_mul pe_int (pv 3)) pe_int))) (pe_op op_pow (pv 3) pe_int)) pe_int))
  (pss_cons (ps_dput hu (pv 0) pe_str (pv 5) rfl)
  (pss_cons (ps_set (i := 6) sc_Ltake.nd rfl (Or.inl rfl) (pe_op (kAdd (K := K)) (pe_op op_mul (pe_op op_mod (pe_op op_pow (pv 5) pe_int) pe_int) pe_int) (pe_op op_mod (pe_op op_pow (pv 5) pe_int) pe_int)))
  (pss_one (ps_ret (pe_op op_mod (pe_op op_fdiv (pv 6) pe_int) (pv 1)))))))))))), ?_⟩
    refine ⟨fun σ1 H1 => ∃ (gs1 : List Int) (r1 : Int), σ1 = L2.start N_Ltake [V.ref d, V.int m] ∧ Stp FZ (Md d g) H H1 ∧ H1 d = some (.dK (drK g c r1 t sd)) ∧ H1 g = some (.lst (gs1.map V.int)) ∧ H1 c = some (.lst (cs.map V.int)) ∧ 0 ≤ r1 ∧ (∀ x ∈ gs1, 0 ≤ x) ∧ gs1.length ≤ 100, ?_, ?_⟩
    · walk_at "rd"
      refine r_dec (fun e => ?_) (fun e => ?_)
      · walk_at "rd"
        refine newL fun p H1 hp s1 h1 => ?_
        have hd1 := s1 _ _ hd
        have hg1 := s1 _ _ hg
        have hc1 := s1 _ _ hc
        refine ne_d (.lst (.inl (.inl hg1)) ints_dp) (.lst (SqL.of h1) .nil) ints_shaped nil_shaped ?_
        rw [eqv_nil]
        walk_at "rd"
        cases gs with
        | nil =>
          walk_at "rd"
          exact ⟨[], r, rfl, s1.stp, hd1, hg1, hc1, r0, gs0, gl⟩
        | cons y ys =>
          walk_at "rd"
          refine r_itNF ?_
          walk_at "rd"
          refine ⟨tyL hg1, ?_⟩
          walk_at "rd"
          refine pop0 hg1 fun H2 b2 h2 => ?_
          walk_at "rd"
          have hd2 := b2.at hd1 dg
          have hc2 := b2.at hc1 (Ne.symm gc)
          walk_at "rd"
          refine dputS hd2 fun H3 b3 h3 => ?_
          exact ⟨ys, y, rfl, (s1.stp.trans (b2.stp hg1 id (.inr rfl))).trans (b3.stp hd2 id (.inl rfl)), h3, b3.at h2 (Ne.symm dg), b3.at hc2 (Ne.symm dc), gs0 y List.mem_cons_self, fun x hx => gs0 x (List.mem_cons_of_mem _ hx), by have := gl; rw [List.length_cons] at this; omega⟩
      · walk_at "rd"
        exact ⟨gs, r, rfl, .refl, hd, hg, hc, r0, gs0, gl⟩
    · rintro σ1 H1 ⟨gs1, r1, rfl, s1, hd1, hg1, hc1, r10, gs10, gl1⟩
      walk_at "rd"
      refine r_dec (fun e => ?_) (fun e => ?_)
      · walk_at "rd"
        refine dputS hd1 fun H2 b2 h2 => ?_
        walk_at "rd"
        refine k _ H2 (Int.emod_nonneg _ (by omega)) (Int.emod_lt_of_pos _ hm) ⟨dg, dc, gc, gs1, cs, r1 / m, t, sd, h2, b2.at hg1 (Ne.symm dg), b2.at hc1 (Ne.symm dc), Int.ediv_nonneg (by omega) (by omega), gs10, gl1, t0, by omega, s0, s1', cne, cs0, cl⟩ (s1.trans (b2.stp hd1 id (.inl rfl)))
      · walk_at "rd"
        refine dputS hd1 fun H2 b2 h2 => ?_
        have hg2 := b2.at hg1 (Ne.symm dg)
        have hc2 := b2.at hc1 (Ne.symm dc)
        rw [drK_turn'] at h2
        have cl0 : (0 : Int) < ((cs.map V.int).length : Int) := by
          rw [List.length_map]
          have := List.length_pos_iff.mpr cne
          omega
        walk_at "rd"
        obtain ⟨j, x, hx, hj⟩ := at_mod (xs := cs.map V.int) (by simpa using cne) t0
        refine ix_l (SqL.of hc2) hj ?_
        obtain ⟨y, hy, rfl⟩ : ∃ y, cs[j]? = some y ∧ x = V.int y := by
          rw [List.getElem?_map] at hx
          cases e : cs[j]? with
          | none => rw [e] at hx; cases hx
          | some y => rw [e] at hx; exact ⟨y, rfl, (Option.some.inj hx).symm⟩
        obtain ⟨y0, y1⟩ := cs0 y (List.mem_of_getElem? hy)
        walk_at "rd"
        have z0 : 0 ≤ (sd * 48271 + y * (2 * t + 3) + t ^ Int.toNat 3) % 2147483647 := Int.emod_nonneg _ (by omega)
        have z1 : (sd * 48271 + y * (2 * t + 3) + t ^ Int.toNat 3) % 2147483647 < 2147483647 := Int.emod_lt_of_pos _ (by omega)
        generalize (sd * 48271 + y * (2 * t + 3) + t ^ Int.toNat 3) % 2147483647 = sd2 at z0 z1 ⊢
        refine dputS h2 fun H3 b3 h3 => ?_
        rw [drK_seed'] at h3
        walk_at "rd"
        refine k _ H3 (Int.emod_nonneg _ (by omega)) (Int.emod_lt_of_pos _ hm) ⟨dg, dc, gc, gs1, cs, r1, t + 1, sd2, h3, b3.at hg2 (Ne.symm dg), b3.at hc2 (Ne.symm dc), r10, gs10, gl1, by omega, by omega, z0, z1, cne, cs0, cl⟩ ((s1.trans (b2.stp hd1 id (.inl rfl))).trans (b3.stp h2 id (.inl rfl)))
theorem ok_Lpick (T : Txt K mg) {FZ : Addr → Prop} : FnOk P w K mg base CX0 2 T.a_Lpick T.fd_Lpick P_Lpick (spPick FZ K) := by
  refine T.F_Lpick.ok sc_Lpick (fun vs H Q E h => ?_) (fun cdv A outer s H vs Q E hr h => ?_)
  · obtain ⟨_, _, _, _, _, _, rfl, _⟩ := h
    rfl
  · obtain ⟨d, g, c, n, v, xs, rfl, hx, hg, hne, hl, hD, hn, k⟩ := h
    have hu := hu_of hr
    refine ⟨_, (pss_one (ps_ret (pe_ix (kIx (K := K)) (pv 1) (pe_call (ok_Ltake T (FZ := FZ)) (hr.mono (by first | decide | omega)) (by rfl) T.m_Ltake T.F_Ltake.kp T.b_Ltake .nil pass0 (pa_cons (pv 0) (pa_cons (pe_callB (kLen (K := K)) (by rfl) T.n_len (by decide +kernel) (pa_cons (pv 1) pa_nil)) pa_nil))) (fun _ _ => rfl)))), ?_⟩
    walk_at "rd"
    have mD : ∀ p, H p = some (.lst xs) ∨ H p = some (.tup xs) → p ≠ g → ¬ Md d g p := fun p hp n z => by
      obtain ⟨_, _, _, gs, cs, r, t, sd, e1, _⟩ := hD
      rcases z with rfl | z
      · rcases hp with hp | hp <;> (rw [e1] at hp; cases hp)
      · exact n z
    have hl0 : (0 : Int) < (xs.length : Int) := by
      have := List.length_pos_iff.mpr hne
      omega
    rcases hx with ⟨p, rfl, hx | hx⟩ | ⟨z, rfl, hz, hx⟩
    · refine len_l hx ?_
      walk_at "rd"
      refine ⟨d, g, c, n, _, rfl, hl0, by omega, hD, hn, fun i H' i0 i1 hD' s' => ?_⟩
      obtain ⟨j, x, rfl, hj, ha⟩ := at_in (xs := xs) i0 i1
      exact ix_l (s'.lst hx fun h => mD p (.inl h) (hg p rfl)) ha (k j x H' hj hD' s')
    · refine len_t hx ?_
      walk_at "rd"
      refine ⟨d, g, c, n, _, rfl, hl0, by omega, hD, hn, fun i H' i0 i1 hD' s' => ?_⟩
      obtain ⟨j, x, rfl, hj, ha⟩ := at_in (xs := xs) i0 i1
      exact ix_t (s'.tup hx) ha (k j x H' hj hD' s')
    · have el : xs.length = z.length := by rw [hx, List.length_map]; simp [Str.length]
      refine len_s (sz2 hz) ?_
      walk_at "rd"
      refine ⟨d, g, c, n, _, rfl, by omega, by omega, hD, hn, fun i H' i0 i1 hD' s' => ?_⟩
      obtain ⟨j, x, rfl, hj, ha⟩ := at_in (xs := z.cps.toList) i0 (by simpa [Str.length] using i1)
      exact ix_s (sz2 hz) ha (k j _ H' (by rw [hx, List.getElem?_map, hj]; rfl) hD' s')
theorem ok_Lbegun (T : Txt K mg) {FZ : Addr → Prop} : FnOk P w K mg base CX0 1 T.a_Lbegun T.fd_Lbegun P_Lbegun (spBegun FZ K) := by
  refine T.F_Lbegun.ok sc_Lbegun (fun vs H Q E h => ?_) (fun cdv A outer s H vs Q E hr h => ?_)
  · obtain ⟨_, _, rfl, _⟩ := h
    rfl
  · obtain ⟨a, ns, rfl, hS, hl, k⟩ := h
    have hu := hu_of hr
    refine ⟨_, (pss_one (ps_ret (pe_disp (pps_cons pe_str (pe_lc (own := [("_law_cell", 1)]) rfl sc_Lbegun.nd (k_list (K := K) (pv 0)) (blkOk_by (own := [("_law_cell", 1)]) (N := N_Lbegun) (sc := defScope s_Lbegun) (by decide +kernel)) (fun _ _ _ _ _ => (pg_name (i := 1) sc_Lbegun.nd rfl (Or.inl rfl))) (fun _ _ _ _ _ => (pts_one (pt_cmpR op_ge (pv 1) (pe_op op_pow pe_int pe_int) (nomark _)))) (fun _ _ _ _ _ => (pv 1))) (pps_cons pe_str pe_int (pps_cons pe_str pe_int (pps_cons pe_str pe_int (pps_cons pe_str (pe_op (kAdd (K := K)) (pe_lc (own := [("_law_cell", 1)]) rfl sc_Lbegun.nd (k_list (K := K) (pv 0)) (blkOk_by (own := [("_law_cell", 1)]) (N := N_Lbegun) (sc := defScope s_Lbegun) (by decide +kernel)) (fun _ _ _ _ _ => (pg_name (i := 1) sc_Lbegun.nd rfl (Or.inl rfl))) (fun _ _ _ _ _ => pts_nil) (fun _ _ _ _ _ => (pe_op op_mod (pv 1) pe_int))) (pe_lst (pa_cons pe_int pa_nil))) pps_nil))))) (by rfl) (by rfl) (fun z => by cases z) (by decide)))), ?_⟩
    refine r_disp fun d H1 d0 sa hd1 => ?_
    have hS1 := sa.seq hS
    walk_at "rd"
    refine itL hS1 ?_
    refine lcL (fun Dl i acc H2 => ∃ gs : List Int, acc = gs.map V.int ∧ (∀ x ∈ gs, 0 ≤ x) ∧ Same H1 H2 ∧ H2 Dl = some (.lst acc)) (fun Dl i acc H2 _ ⟨_, _, _, s2, _⟩ => s2.seq hS1) (fun Dl H2 hD s2 h2 => ⟨[], rfl, by simp, s2, h2⟩) ?_ ?_
    · rintro Dl i _ x H2 hD hx hi hl ⟨gs, rfl, hg0, s2, h2⟩
      obtain ⟨y, hy, rfl⟩ := ints_get hx
      rw [List.length_map] at hi
      walk_at "rd"
      refine r_dec (fun e => ?_) (fun e => ?_)
      · walk_at "rd"
        refine lcEnd hl (by omega) h2 fun H3 b3 h3 => ⟨gs ++ [y], by rw [List.map_append]; rfl, fun z hz => ?_, fun b o e => b3.at (s2 b o e) (ne_of_none e hD), h3⟩
        rcases List.mem_append.mp hz with hz | hz
        · exact hg0 z hz
        · rw [List.mem_singleton.mp hz]
          have e' : (10 : Int) ^ Int.toNat 18 ≤ y := e
          have : (0 : Int) ≤ 10 ^ Int.toNat 18 := by decide
          omega
      · exact lcSkip hl ⟨gs, rfl, hg0, s2, h2⟩
    · rintro g _ H2 hg gl ⟨gs, rfl, hg0, s2, hg2⟩
      rw [List.length_map, List.length_map] at gl
      walk_at "rd"
      have hS2 := s2.seq hS1
      refine itL hS2 ?_
      refine lcL (fun Dl i acc H3 => ∃ cs : List Int, acc = cs.map V.int ∧ cs.length = i ∧ (∀ x ∈ cs, 0 ≤ x ∧ x < 2147483629) ∧ Same H2 H3 ∧ H3 Dl = some (.lst acc)) (fun Dl i acc H3 _ ⟨_, _, _, _, s3, _⟩ => s3.seq hS2) (fun Dl H3 hD s3 h3 => ⟨[], rfl, rfl, by simp, s3, h3⟩) ?_ ?_
      · rintro Dl i _ x H3 hD hx hi hl2 ⟨cs, rfl, el, hc0, s3, h3⟩
        obtain ⟨y, hy, rfl⟩ := ints_get hx
        rw [List.length_map] at hi
        walk_at "rd"
        refine lcEnd hl2 (by omega) h3 fun H4 b4 h4 => ⟨cs ++ [y % 2147483629], by rw [List.map_append]; rfl, by rw [List.length_append, el]; rfl, fun z hz => ?_, fun b o e => b4.at (s3 b o e) (ne_of_none e hD), h4⟩
        rcases List.mem_append.mp hz with hz | hz
        · exact hc0 z hz
        · rw [List.mem_singleton.mp hz]
          exact ⟨Int.emod_nonneg _ (by omega), Int.emod_lt_of_pos _ (by omega)⟩
      · rintro p _ H3 hp _ ⟨cs, rfl, el, hc0, s3, h3⟩
        rw [List.length_map] at el
        walk_at "rd"
        refine newL fun q H4 hq s4 h4 => ?_
        refine add_ll (s4 _ _ h3) h4 (sz2 (by rw [List.length_map]; show _ + 1 ≤ _; omega)) fun c hc => ?_
        walk_at "rd"
        have hd4 := s4 _ _ (s3 _ _ (s2 _ _ hd1))
        have hg4 := s4 _ _ (s3 _ _ hg2)
        have s5 : Same H4 (upd H4 c (.lst (cs.map V.int ++ [V.int 77]))) := upd_Same hc
        refine disp (kvs := [(.inr "great", .ref g), (.inr "rest", .int 0), (.inr "turn", .int 0), (.inr "seed", .int 7), (.inr "cells", .ref c)]) (s5 _ _ hd4) fun H6 b6 h6 => ?_
        have dg : d ≠ g := ne_of_none hd1 hg
        have dc : d ≠ c := ne_of_none hd4 hc
        have gc : g ≠ c := ne_of_none hg4 hc
        refine k d g c H6 d0 (sa.free hg) (sa.free (s2.free (s3.free (s4.free hc)))) ⟨dg, dc, gc, gs, cs ++ [77], 0, 0, 7, h6, b6.at (s5 _ _ hg4) (Ne.symm dg), b6.at (by rw [upd_same, List.map_append]; rfl) (Ne.symm dc), Int.le_refl _, hg0, ?_, Int.le_refl _, Int.le_refl _, by decide, by decide, by simp, fun z hz => ?_, ?_⟩ ?_
        · exact Nat.le_trans gl (Nat.le_trans hl (by decide))
        · rcases List.mem_append.mp hz with hz | hz
          · exact hc0 z hz
          · rw [List.mem_singleton.mp hz]
            decide
        · rw [List.length_append, el]
          show ns.length + 1 ≤ 100
          omega
        · exact ⟨fun b o e _ => (b6 b (ne_of_none e d0)).trans (s5 _ _ (s4 _ _ (s3 _ _ (s2 _ _ (sa _ _ e)))))⟩
end

/-! ### order, in the lower layer -/
section
variable {P : Program} {w : World} {K : PySem.W.Frag}
theorem order_low {f : Addr} {fd : FuncData} (F : Fun K "order" "order" s_order f fd) (bd : Binds K fd P_order []) {A : Around} {E : Value → Shared → Prop} {s : Shared} {p : Addr} {v0 v1 v2 v3 v4 v5 v6 v7 : Value} (hr : Room 1 A) (kin : K.In s.heap) (lim : s.heap.NoLimit)
    (ht : IsTup s.heap p #[v0, v1, v2, v3, v4, v5, v6, v7]) :
    wpAny (model P w) A (call (.ref f) [.ref p]) (fun u s' => ∃ h' tk q, u = .ref q ∧ s' = { s with heap := h', toks := tk } ∧ (∀ b o, s.heap.get? b = some o → h'.get? b = some o) ∧ IsTup h' q #[v0, v1, v4, v5, v6, v7, v2, v3]) E s := by
  have binds := bd s [.ref p] kin rfl
  obtain ⟨_, _, _, _, _, _, cdv, _, _, rfl, known, coded⟩ := F.ex
  apply wpAny_call
  apply codeAny_call_function hr.depth (kin _ _ known) rfl rfl rfl rfl (PySem.W.codeRec_of kin coded)
  apply binds
  apply wpAny_newFunctionEnv_cells rfl (fun y there => by
    cases there with
    | head => exact Or.inl rfl
    | tail _ r => cases r)
  rintro env rfl s1 made
  refine ⟨lim.keeps made.toInCall.keep, codeAny_func ?_⟩
  obtain ⟨h1, tk1, e1, keep1⟩ := made.done
  have l0 : Lc _ _ s s1 := ⟨h1, tk1, e1, by have := made.toInCall.ns; rw [e1] at this; exact this, fun b o _ e => keep1 b o e⟩
  have ht1 : IsTup s1.heap p #[v0, v1, v2, v3, v4, v5, v6, v7] := by
    rw [e1]
    obtain ⟨o, there, r⟩ := ht
    exact ⟨o, keep1 p o there, r⟩
  refine wpAny_execs_cons (wpAny_Assign_stores (l0.load rfl rfl rfl ?_) rfl rfl)
  refine asg_one (assign_Tuple_tuple hr.hd ht1 rfl rfl fun h2 ext => ?_)
  have l1 := l0.grow (h' := h2) (tk := s1.toks) fun b o e => ext b o (Nat.ne_of_lt (Heap.lt_size e)) e
  refine assignInOrder_cons (l1.store rfl rfl fun s3 l2 => ?_)
  refine assignInOrder_cons (l2.store rfl rfl fun s4 l3 => ?_)
  refine assignInOrder_cons (l3.store rfl rfl fun s5 l4 => ?_)
  refine assignInOrder_cons (l4.store rfl rfl fun s6 l5 => ?_)
  refine assignInOrder_cons (l5.store rfl rfl fun s7 l6 => ?_)
  refine assignInOrder_cons (l6.store rfl rfl fun s8 l7 => ?_)
  refine assignInOrder_cons (l7.store rfl rfl fun s9 l8 => ?_)
  refine assignInOrder_cons (l8.store rfl rfl fun s10 l9 => ?_)
  refine assignInOrder_nil ?_
  refine wpAny_execs_cons (wpAny_Return_some (wpAny_Tuple_spliced ?_))
  refine spl (l9.load rfl rfl rfl ?_)
  refine spl (l9.load rfl rfl rfl ?_)
  refine spl (l9.load rfl rfl rfl ?_)
  refine spl (l9.load rfl rfl rfl ?_)
  refine spl (l9.load rfl rfl rfl ?_)
  refine spl (l9.load rfl rfl rfl ?_)
  refine spl (l9.load rfl rfl rfl ?_)
  refine spl (l9.load rfl rfl rfl ?_)
  refine Calls.spliced_nil ⟨(by decide : (8 : Nat) ≤ 16777216), ?_⟩
  obtain ⟨h9, t9, rfl, _, kp⟩ := l9
  refine ⟨_, t9, h9.objs.size, rfl, rfl, fun b o e => Heap.get?_push_of_some _ (kp b o (Nat.ne_of_lt (Heap.lt_size e)) e), ?_⟩
  exact ⟨_, Heap.get?_push_size _ rfl, rfl, _, rfl⟩
end

/-! ### letters -/
structure Lt8 where
  time : Int
  to : Str
  kind : Str
  number : Int
  sender : Str
  sent : Int
  place : Int
  turn : Int
def Lt8.vs (x : Lt8) : List V := [.int x.time, .str x.to, .str x.kind, .int x.number, .str x.sender, .int x.sent, .int x.place, .int x.turn]
def Lt8.ks (x : Lt8) : List V := [.int x.time, .str x.to, .str x.sender, .int x.sent, .int x.place, .int x.turn, .str x.kind, .int x.number]
def Lt8.key (x : Lt8) : PyData := .tuple [.int x.time, .str x.to, .str x.sender, .int x.sent, .int x.place, .int x.turn, .str x.kind, .int x.number]
def Lt8.dat (x : Lt8) : PyData := .tuple [.int x.time, .str x.to, .str x.kind, .int x.number, .str x.sender, .int x.sent, .int x.place, .int x.turn]
theorem key_alike (x y : Lt8) : PySem.W.alike x.key y.key = true := rfl
theorem dat_alike (x y : Lt8) : PySem.W.alike x.dat y.dat = true := rfl
theorem key_depth (x : Lt8) : PyData.depth x.key = 1 := by simp [Lt8.key, PyData.depth, PyData.depthAll]
theorem vals8 {x : Lt8} : ∀ {its : List Value}, Vals x.vs its → ∃ t0 t1 t2 t3 t4 t5 t6 t7, its = [.int x.time t0, .str x.to t1, .str x.kind t2, .int x.number t3, .str x.sender t4, .int x.sent t5, .int x.place t6, .int x.turn t7]
  | [_, _, _, _, _, _, _, _], .cons ⟨t0, e0⟩ (.cons ⟨t1, e1⟩ (.cons ⟨t2, e2⟩ (.cons ⟨t3, e3⟩ (.cons ⟨t4, e4⟩ (.cons ⟨t5, e5⟩ (.cons ⟨t6, e6⟩ (.cons ⟨t7, e7⟩ .nil))))))) => ⟨t0, t1, t2, t3, t4, t5, t6, t7, by rw [e0, e1, e2, e3, e4, e5, e6, e7]⟩
theorem each_refs : ∀ {ls : List (Addr × Lt8)} {its : List Value}, Vals (ls.map fun x => V.ref x.1) its → PySem.W.EachIs (fun v x => v = Value.ref x.1) its ls
  | [], [], .nil => .nil
  | _ :: _, _ :: _, .cons e r => .cons e (each_refs r)
theorem refs_each : ∀ {ls : List (Addr × Lt8)} {its : List Value}, PySem.W.EachIs (fun v x => v = Value.ref x.1) its ls → Vals (ls.map fun x => V.ref x.1) its
  | [], [], .nil => .nil
  | _ :: _, _ :: _, .cons e r => .cons e (refs_each r)
def rSortO (K : PySem.W.Frag) (f : Addr) : List V → List V → Hp → VK → Prop := fun vs zs H Q => ∃ (a : Addr) (ls : List (Addr × Lt8)), vs = [.ref a] ∧ zs = [.ref f] ∧ SqL K H a (ls.map fun x => V.ref x.1) ∧ (∀ x ∈ ls, H x.1 = some (.tup x.2.vs)) ∧ ls.length ≤ 1000 ∧
  ∀ p, H p = none → Q (.ref p) (upd H p (.lst ((ls.mergeSort (PySem.W.dataLe false fun x => x.2.key)).map fun x => V.ref x.1)))
theorem cr_sortO {X : Cx} {K : PySem.W.Frag} {f : Addr} {fd : FuncData} (F : Fun K "order" "order" s_order f fd) (bd : Binds K fd P_order []) (room : Room 3 X.A) (hK : X.K = K := by rfl) : CallRK X (.builtin "sorted") [Str.ofString "key"] (rSortO K f) := by
  subst hK
  intro pins s σ H vs zs us ws Q I r rz goal
  obtain ⟨a, ls, rfl, rfl, hs, hl, hn, q⟩ := goal
  obtain rfl := Vals.ref1 r
  obtain ⟨w1, rfl, e1⟩ := vals1 rz
  obtain rfl : w1 = Value.ref f := e1
  obtain ⟨its, rv, hL, hz⟩ := I.list hs
  have hz' : ls.length ≤ 16777216 := by omega
  refine PySem.W.sorted_key_data (b := false) (fun x : Addr × Lt8 => x.2.key) hL.isList (each_refs rv) (fun d hd d' hd' => ?_) (.inl fun d hd => ?_) hz' (fun x _ => ?_) (ksk_s1 _ _) (fun _ => ksk_l1 _ _) (fun _ => ksk_t1 _ _) ?_ ?_
  · obtain ⟨x, _, rfl⟩ := List.mem_map.mp hd
    obtain ⟨y, _, rfl⟩ := List.mem_map.mp hd'
    exact key_alike _ _
  · obtain ⟨x, _, rfl⟩ := List.mem_map.mp hd
    exact ⟨_, _, rfl⟩
  · rw [key_depth]
    have := room.un
    omega
  · rintro v x rfl hx h tk kp
    have I' : Inv X pins σ H { s with heap := h, toks := tk } := I.kept kp
    obtain ⟨i8, r8, t8, _⟩ := I'.tuple (SqT.of (hl x hx))
    obtain ⟨t0, t1, t2, t3, t4, t5, t6, t7, rfl⟩ := vals8 r8
    refine thn (order_low F bd room.in1.in1 I'.kIn (I'.mod.nolimit.keeps I'.bk) t8) ?_
    rintro u s' ⟨h', tk', q, rfl, rfl, kp', o, there, cls, n, isd⟩
    refine ⟨h', tk', rfl, kp', ?_⟩
    have r := ReadsAll.cons (Reads.int (h := h') x.2.time t0) (.cons (.str x.2.to t1) (.cons (.str x.2.sender t4) (.cons (.int x.2.sent t5) (.cons (.int x.2.place t6) (.cons (.int x.2.turn t7) (.cons (.str x.2.kind t2) (.cons (.int x.2.number t3) .nil)))))))
    exact Reads.tuple there cls isd r
  · intro out c h' tk kp fresh hD len each
    refine ⟨.ref (s.heap.objs.size + 1), upd H (s.heap.objs.size + 1) (.lst ((ls.mergeSort (PySem.W.dataLe false fun x => x.2.key)).map fun x => V.ref x.1)), I.laid (t' := tk) kp (Nat.le_succ _) ⟨?_, out, c, refs_each each, hD⟩, rfl, q _ (I.hok.fresh (Nat.le_succ _))⟩
    rw [List.length_map, List.length_mergeSort]
    exact hz'

/-! ### the order of letters -/
def ltL (x y : Lt8) : Bool := PySem.W.dataLt x.key y.key
section
open PySem.W
theorem ltL8 (x y : Lt8) : ltL x y = lexLt itemOrd [.inl 1, .inl x.time, .inl 1, .inr x.to.cps.toList, .inl 1, .inr x.sender.cps.toList, .inl 1, .inl x.sent, .inl 1, .inl x.place, .inl 1, .inl x.turn, .inl 1, .inr x.kind.cps.toList, .inl 1, .inl x.number, .inl 0]
    [.inl 1, .inl y.time, .inl 1, .inr y.to.cps.toList, .inl 1, .inr y.sender.cps.toList, .inl 1, .inl y.sent, .inl 1, .inl y.place, .inl 1, .inl y.turn, .inl 1, .inr y.kind.cps.toList, .inl 1, .inl y.number, .inl 0] := by
  unfold ltL dataLt
  simp [Lt8.key, keyToks, keyToksAll]
theorem lexI {a b : Int} {l m : List (Int ⊕ List Nat)} (h : a ≠ b) : lexLt itemOrd (.inl 1 :: .inl a :: l) (.inl 1 :: .inl b :: m) = dataLt (.int a) (.int b) :=
  (lex_pre [.inl 1] (.inl a :: l) (.inl b :: m)).trans (lex_atom (fun e => h (Sum.inl.inj e)) l m)
theorem lexS {a b : Str} {l m : List (Int ⊕ List Nat)} (h : a ≠ b) : lexLt itemOrd (.inl 1 :: .inr a.cps.toList :: l) (.inl 1 :: .inr b.cps.toList :: m) = dataLt (.str a) (.str b) :=
  (lex_pre [.inl 1] (.inr a.cps.toList :: l) (.inr b.cps.toList :: m)).trans (lex_atom (fun e => h (str_of_cps (Sum.inr.inj e))) l m)
theorem lexE {p q : Int ⊕ List Nat} {l m : List (Int ⊕ List Nat)} : lexLt itemOrd (p :: q :: l) (p :: q :: m) = lexLt itemOrd l m := lex_pre [p, q] l m
end
section
open PySem.W
theorem ltL_eq {x y : Lt8} (h1 : ltL x y = false) (h2 : ltL y x = false) : x = y := by
  have e := lex_total _ _ h1 h2
  obtain ⟨t, to, k, n, se, st, pl, tu⟩ := x
  obtain ⟨t', to', k', n', se', st', pl', tu'⟩ := y
  simp [Lt8.key, keyToks, keyToksAll] at e
  obtain ⟨rfl, e1, e2, rfl, rfl, rfl, e3, rfl⟩ := e
  have c : ∀ {a b : Str}, a.cps = b.cps → a = b := fun {a b} h => by cases a; cases b; simp at h; rw [h]
  rw [c e1, c e2, c e3]
def leL (x y : Lt8) : Bool := !ltL y x
theorem leL_total : TotalLe leL := sortLe_total (listOrd itemOrd) false fun x : Lt8 => keyToks x.key
theorem leL_eq {x y : Lt8} (h1 : leL x y = true) (h2 : leL y x = true) : x = y := ltL_eq (by simpa [leL] using h2) (by simpa [leL] using h1)
/-- one letter put behind those that are not behind it -/
def ins (d : List Lt8) (x : Lt8) : List Lt8 := d.take (d.filter fun y => leL y x).length ++ [x] ++ d.drop (d.filter fun y => leL y x).length
theorem ins_perm (d : List Lt8) (x : Lt8) : (ins d x).Perm (x :: d) := by
  have h : (ins d x).Perm (x :: (d.take (d.filter fun y => leL y x).length ++ d.drop (d.filter fun y => leL y x).length)) := by
    unfold ins
    rw [List.append_assoc]
    exact List.perm_middle
  rwa [List.take_append_drop] at h
theorem ins_sorted : ∀ {d : List Lt8} (x : Lt8), d.Pairwise (fun a b => leL a b = true) → (ins d x).Pairwise (fun a b => leL a b = true)
  | [], x, _ => by simp [ins]
  | y :: r, x, h => by
    obtain ⟨h1, h2⟩ := List.pairwise_cons.mp h
    by_cases hy : leL y x = true
    · have e : ins (y :: r) x = y :: ins r x := by simp [ins, List.filter_cons, hy]
      rw [e]
      refine List.pairwise_cons.mpr ⟨fun z hz => ?_, ins_sorted x h2⟩
      rcases List.mem_cons.mp ((ins_perm r x).mem_iff.mp hz) with rfl | hz
      · exact hy
      · exact h1 z hz
    · have no : ∀ z ∈ y :: r, leL z x = false := fun z hz => by
        cases q : leL z x with
        | false => rfl
        | true =>
          rcases List.mem_cons.mp hz with rfl | hz
          · exact absurd q hy
          · exact absurd (leL_total.trans _ _ _ (h1 z hz) q) hy
      have e0 : ((y :: r).filter fun z => leL z x) = [] := List.filter_eq_nil_iff.mpr fun z hz => by rw [no z hz]; simp
      have e : ins (y :: r) x = x :: y :: r := by
        unfold ins
        rw [e0]
        rfl
      rw [e]
      have xy : leL x y = true := (leL_total.total x y).resolve_right hy
      refine List.pairwise_cons.mpr ⟨fun z hz => ?_, h⟩
      rcases List.mem_cons.mp hz with rfl | hz
      · exact xy
      · exact leL_total.trans _ _ _ xy (h1 z hz)
def due (ls : List Lt8) : List Lt8 := ls.foldl ins []
theorem due_snoc (ls : List Lt8) (x : Lt8) : due (ls ++ [x]) = ins (due ls) x := by simp [due]
theorem due_of : ∀ (n : Nat) (ls : List Lt8), ls.length = n → (due ls).Perm ls ∧ (due ls).Pairwise (fun a b => leL a b = true)
  | 0, ls, h => by
    have : ls = [] := List.length_eq_zero_iff.mp h
    subst this
    simp [due]
  | n + 1, ls, h => by
    obtain ⟨r, x, rfl⟩ : ∃ r x, ls = r ++ [x] := ⟨ls.dropLast, ls.getLast (by intro e; rw [e] at h; simp at h), (List.dropLast_concat_getLast _).symm⟩
    obtain ⟨p, q⟩ := due_of n r (by simpa using h)
    rw [due_snoc]
    refine ⟨(ins_perm _ x).trans ?_, ins_sorted x q⟩
    exact (List.Perm.cons x p).trans (List.perm_append_singleton x r).symm
theorem due_sort (ls : List (Addr × Lt8)) : (ls.mergeSort (dataLe false fun x => x.2.key)).map (·.2) = due (ls.map (·.2)) := by
  obtain ⟨p, q⟩ := due_of _ (ls.map (·.2)) rfl
  refine List.Perm.eq_of_pairwise (le := fun a b => leL a b = true) (fun a b _ _ h1 h2 => leL_eq h1 h2) ?_ q (((List.mergeSort_perm ls _).map _).trans p.symm)
  rw [List.pairwise_map]
  exact sort_pairwise (sortLe_total (listOrd itemOrd) false fun x : Addr × Lt8 => keyToks x.2.key) ls
end

def spOrder : Sp := fun vs H Q _ => ∃ (p : Addr) (x : Lt8), vs = [.ref p] ∧ H p = some (.tup x.vs) ∧ ∀ q H', H q = none → Same H H' → H' q = some (.tup x.ks) → Q (.ref q) H'
def spFirst : Sp := fun vs H Q _ => ∃ (p q : Addr) (x y : Lt8), vs = [.ref p, .ref q] ∧ H p = some (.tup x.vs) ∧ H q = some (.tup y.vs) ∧ ∀ H', Same H H' → Q (.bl (ltL x y)) H'
section
variable {P : Program} {w : World} {K : PySem.W.Frag} {mg : Str → Option Value} {base : Heap}
theorem ok_order (T : Txt K mg) {FZ : Addr → Prop} : FnOk P w K mg base CX0 1 T.a_order T.fd_order P_order spOrder := by
  refine T.F_order.ok sc_order (fun vs H Q E h => ?_) (fun cdv A outer s H vs Q E hr h => ?_)
  · obtain ⟨_, _, rfl, _⟩ := h
    rfl
  · obtain ⟨p, x, rfl, hp, k⟩ := h
    have hu := hu_of hr
    refine ⟨_, (pss_cons (ps_asg (pv 0) (k_gtup (K := K) rfl (pgs_cons (pg_name (i := 1) sc_order.nd rfl (Or.inl rfl)) (pgs_cons (pg_name (i := 2) sc_order.nd rfl (Or.inl rfl)) (pgs_cons (pg_name (i := 3) sc_order.nd rfl (Or.inl rfl)) (pgs_cons (pg_name (i := 4) sc_order.nd rfl (Or.inl rfl)) (pgs_cons (pg_name (i := 5) sc_order.nd rfl (Or.inl rfl)) (pgs_cons (pg_name (i := 6) sc_order.nd rfl (Or.inl rfl)) (pgs_cons (pg_name (i := 7) sc_order.nd rfl (Or.inl rfl)) (pgs_cons (pg_name (i := 8) sc_order.nd rfl (Or.inl rfl)) pgs_nil))))))))))
  (pss_one (ps_ret (pe_tup (pa_cons (pv 1) (pa_cons (pv 2) (pa_cons (pv 5) (pa_cons (pv 6) (pa_cons (pv 7) (pa_cons (pv 8) (pa_cons (pv 3) (pa_cons (pv 4) pa_nil)))))))))))), ?_⟩
    walk_at "rd"
    refine r_gtup (SqT.of hp) rfl ?_
    unfold Lt8.vs
    walk_at "rd"
    exact newT fun q H' hq s' h' => k q H' hq s' h'
theorem ok_Lfirst (T : Txt K mg) {FZ : Addr → Prop} : FnOk P w K mg base CX0 1 T.a_Lfirst T.fd_Lfirst P_Lfirst spFirst := by
  refine T.F_Lfirst.ok sc_Lfirst (fun vs H Q E h => ?_) (fun cdv A outer s H vs Q E hr h => ?_)
  · obtain ⟨_, _, _, _, rfl, _⟩ := h
    rfl
  · obtain ⟨p, q, x, y, rfl, hp, hq, k⟩ := h
    have hu := hu_of hr
    refine ⟨_, (pss_cons (ps_for PassesOwn.never rfl (k_list (K := K) (pe_lst (pa_cons pe_int (pa_cons pe_int (pa_cons pe_int (pa_cons pe_int (pa_cons pe_int (pa_cons pe_int (pa_cons pe_int (pa_cons pe_int pa_nil)))))))))) (pg_name (i := 2) sc_Lfirst.nd rfl (Or.inl rfl))
  (pss_one (ps_if (pt_cmpR (kNe (K := K) hr.units) (pe_ix (kIx (K := K)) (pv 0) (pv 2) (fun _ _ => rfl)) (pe_ix (kIx (K := K)) (pv 1) (pv 2) (fun _ _ => rfl)) (nomark _))
  (pss_one (ps_ret (pe_cmpR (kLtD (K := K) hr.units) (pe_ix (kIx (K := K)) (pv 0) (pv 2) (fun _ _ => rfl)) (pe_ix (kIx (K := K)) (pv 1) (pv 2) (fun _ _ => rfl)) (nomark _))))
  pss_nil)))
  (pss_one (ps_ret pe_bl))), ?_⟩
    walk_at "rd"
    refine newL fun l H1 hl s1 h1 => ?_
    walk_at "rd"
    refine itL (SqL.of h1) ?_
    have hp1 := SqT.of (K := K) (s1 _ _ hp)
    have hq1 := SqT.of (K := K) (s1 _ _ hq)
    refine forL (xs := [.int 0, .int 1, .int 4, .int 5, .int 6, .int 7, .int 2, .int 3]) (fun i σ H2 => H2 = H1 ∧ (∃ o, σ = [some (.ref p), some (.ref q), o]) ∧ x.ks.take i = y.ks.take i) ⟨rfl, ⟨_, rfl⟩, rfl⟩ ?_ ?_ ?_
    · rintro i σ H2 _ ⟨rfl, _, _⟩
      exact SqL.of h1
    · rintro i z σ H2 hz ⟨rfl, ⟨o, rfl⟩, he⟩
      obtain ⟨xt, xto, xk, xn, xse, xst, xpl, xtu⟩ := x
      obtain ⟨yt, yto, yk, yn, yse, yst, ypl, ytu⟩ := y
      match i, hz with
      | 0, e =>
        obtain rfl := Option.some.inj e
        walk_at "rd"
        refine ix_t hp1 rfl ?_
        walk_at "rd"
        refine ix_t hq1 rfl ?_
        walk_at "rd"
        refine r_ndec (fun ne => ?_) (fun eq => ?_)
        · walk_at "rd"
          refine ix_t hp1 rfl ?_
          walk_at "rd"
          refine ix_t hq1 rfl ?_
          walk_at "rd"
          refine ltD (.int _) (.int _) rfl (fun z => nomatch z) (by simp [PyData.depth]) ?_
          have g := k H2 s1
          have el : ltL ⟨xt, xto, xk, xn, xse, xst, xpl, xtu⟩ ⟨yt, yto, yk, yn, yse, yst, ypl, ytu⟩ = PySem.W.dataLt (.int xt) (.int yt) := (ltL8 _ _).trans (lexI ne)
          rw [el] at g
          exact g
        · walk_at "rd"
          refine ⟨rfl, ⟨_, rfl⟩, ?_⟩
          subst eq
          rfl
      | 1, e =>
        obtain rfl := Option.some.inj e
        simp [Lt8.ks] at he
        subst he
        walk_at "rd"
        refine ix_t hp1 rfl ?_
        walk_at "rd"
        refine ix_t hq1 rfl ?_
        walk_at "rd"
        refine r_ndec (fun ne => ?_) (fun eq => ?_)
        · walk_at "rd"
          refine ix_t hp1 rfl ?_
          walk_at "rd"
          refine ix_t hq1 rfl ?_
          walk_at "rd"
          refine ltD (.str _) (.str _) rfl (fun z => nomatch z) (by simp [PyData.depth]) ?_
          have g := k H2 s1
          have el : ltL ⟨xt, xto, xk, xn, xse, xst, xpl, xtu⟩ ⟨xt, yto, yk, yn, yse, yst, ypl, ytu⟩ = PySem.W.dataLt (.str xto) (.str yto) := (ltL8 _ _).trans (lexE.trans (lexS ne))
          rw [el] at g
          exact g
        · walk_at "rd"
          refine ⟨rfl, ⟨_, rfl⟩, ?_⟩
          subst eq
          rfl
      | 2, e =>
        obtain rfl := Option.some.inj e
        simp [Lt8.ks] at he
        obtain ⟨rfl, rfl⟩ := he
        walk_at "rd"
        refine ix_t hp1 rfl ?_
        walk_at "rd"
        refine ix_t hq1 rfl ?_
        walk_at "rd"
        refine r_ndec (fun ne => ?_) (fun eq => ?_)
        · walk_at "rd"
          refine ix_t hp1 rfl ?_
          walk_at "rd"
          refine ix_t hq1 rfl ?_
          walk_at "rd"
          refine ltD (.str _) (.str _) rfl (fun z => nomatch z) (by simp [PyData.depth]) ?_
          have g := k H2 s1
          have el : ltL ⟨xt, xto, xk, xn, xse, xst, xpl, xtu⟩ ⟨xt, xto, yk, yn, yse, yst, ypl, ytu⟩ = PySem.W.dataLt (.str xse) (.str yse) := (ltL8 _ _).trans (lexE.trans (lexE.trans (lexS ne)))
          rw [el] at g
          exact g
        · walk_at "rd"
          refine ⟨rfl, ⟨_, rfl⟩, ?_⟩
          subst eq
          rfl
      | 3, e =>
        obtain rfl := Option.some.inj e
        simp [Lt8.ks] at he
        obtain ⟨rfl, rfl, rfl⟩ := he
        walk_at "rd"
        refine ix_t hp1 rfl ?_
        walk_at "rd"
        refine ix_t hq1 rfl ?_
        walk_at "rd"
        refine r_ndec (fun ne => ?_) (fun eq => ?_)
        · walk_at "rd"
          refine ix_t hp1 rfl ?_
          walk_at "rd"
          refine ix_t hq1 rfl ?_
          walk_at "rd"
          refine ltD (.int _) (.int _) rfl (fun z => nomatch z) (by simp [PyData.depth]) ?_
          have g := k H2 s1
          have el : ltL ⟨xt, xto, xk, xn, xse, xst, xpl, xtu⟩ ⟨xt, xto, yk, yn, xse, yst, ypl, ytu⟩ = PySem.W.dataLt (.int xst) (.int yst) := (ltL8 _ _).trans (lexE.trans (lexE.trans (lexE.trans (lexI ne))))
          rw [el] at g
          exact g
        · walk_at "rd"
          refine ⟨rfl, ⟨_, rfl⟩, ?_⟩
          subst eq
          rfl
      | 4, e =>
        obtain rfl := Option.some.inj e
        simp [Lt8.ks] at he
        obtain ⟨rfl, rfl, rfl, rfl⟩ := he
        walk_at "rd"
        refine ix_t hp1 rfl ?_
        walk_at "rd"
        refine ix_t hq1 rfl ?_
        walk_at "rd"
        refine r_ndec (fun ne => ?_) (fun eq => ?_)
        · walk_at "rd"
          refine ix_t hp1 rfl ?_
          walk_at "rd"
          refine ix_t hq1 rfl ?_
          walk_at "rd"
          refine ltD (.int _) (.int _) rfl (fun z => nomatch z) (by simp [PyData.depth]) ?_
          have g := k H2 s1
          have el : ltL ⟨xt, xto, xk, xn, xse, xst, xpl, xtu⟩ ⟨xt, xto, yk, yn, xse, xst, ypl, ytu⟩ = PySem.W.dataLt (.int xpl) (.int ypl) := (ltL8 _ _).trans (lexE.trans (lexE.trans (lexE.trans (lexE.trans (lexI ne)))))
          rw [el] at g
          exact g
        · walk_at "rd"
          refine ⟨rfl, ⟨_, rfl⟩, ?_⟩
          subst eq
          rfl
      | 5, e =>
        obtain rfl := Option.some.inj e
        simp [Lt8.ks] at he
        obtain ⟨rfl, rfl, rfl, rfl, rfl⟩ := he
        walk_at "rd"
        refine ix_t hp1 rfl ?_
        walk_at "rd"
        refine ix_t hq1 rfl ?_
        walk_at "rd"
        refine r_ndec (fun ne => ?_) (fun eq => ?_)
        · walk_at "rd"
          refine ix_t hp1 rfl ?_
          walk_at "rd"
          refine ix_t hq1 rfl ?_
          walk_at "rd"
          refine ltD (.int _) (.int _) rfl (fun z => nomatch z) (by simp [PyData.depth]) ?_
          have g := k H2 s1
          have el : ltL ⟨xt, xto, xk, xn, xse, xst, xpl, xtu⟩ ⟨xt, xto, yk, yn, xse, xst, xpl, ytu⟩ = PySem.W.dataLt (.int xtu) (.int ytu) := (ltL8 _ _).trans (lexE.trans (lexE.trans (lexE.trans (lexE.trans (lexE.trans (lexI ne))))))
          rw [el] at g
          exact g
        · walk_at "rd"
          refine ⟨rfl, ⟨_, rfl⟩, ?_⟩
          subst eq
          rfl
      | 6, e =>
        obtain rfl := Option.some.inj e
        simp [Lt8.ks] at he
        obtain ⟨rfl, rfl, rfl, rfl, rfl, rfl⟩ := he
        walk_at "rd"
        refine ix_t hp1 rfl ?_
        walk_at "rd"
        refine ix_t hq1 rfl ?_
        walk_at "rd"
        refine r_ndec (fun ne => ?_) (fun eq => ?_)
        · walk_at "rd"
          refine ix_t hp1 rfl ?_
          walk_at "rd"
          refine ix_t hq1 rfl ?_
          walk_at "rd"
          refine ltD (.str _) (.str _) rfl (fun z => nomatch z) (by simp [PyData.depth]) ?_
          have g := k H2 s1
          have el : ltL ⟨xt, xto, xk, xn, xse, xst, xpl, xtu⟩ ⟨xt, xto, yk, yn, xse, xst, xpl, xtu⟩ = PySem.W.dataLt (.str xk) (.str yk) := (ltL8 _ _).trans (lexE.trans (lexE.trans (lexE.trans (lexE.trans (lexE.trans (lexE.trans (lexS ne)))))))
          rw [el] at g
          exact g
        · walk_at "rd"
          refine ⟨rfl, ⟨_, rfl⟩, ?_⟩
          subst eq
          rfl
      | 7, e =>
        obtain rfl := Option.some.inj e
        simp [Lt8.ks] at he
        obtain ⟨rfl, rfl, rfl, rfl, rfl, rfl, rfl⟩ := he
        walk_at "rd"
        refine ix_t hp1 rfl ?_
        walk_at "rd"
        refine ix_t hq1 rfl ?_
        walk_at "rd"
        refine r_ndec (fun ne => ?_) (fun eq => ?_)
        · walk_at "rd"
          refine ix_t hp1 rfl ?_
          walk_at "rd"
          refine ix_t hq1 rfl ?_
          walk_at "rd"
          refine ltD (.int _) (.int _) rfl (fun z => nomatch z) (by simp [PyData.depth]) ?_
          have g := k H2 s1
          have el : ltL ⟨xt, xto, xk, xn, xse, xst, xpl, xtu⟩ ⟨xt, xto, xk, yn, xse, xst, xpl, xtu⟩ = PySem.W.dataLt (.int xn) (.int yn) := (ltL8 _ _).trans (lexE.trans (lexE.trans (lexE.trans (lexE.trans (lexE.trans (lexE.trans (lexE.trans (lexI ne))))))))
          rw [el] at g
          exact g
        · walk_at "rd"
          refine ⟨rfl, ⟨_, rfl⟩, ?_⟩
          subst eq
          rfl
      | _ + 8, e => simp at e
    · rintro σ H2 ⟨rfl, ⟨o, rfl⟩, he⟩
      walk_at "rd"
      have g := k H2 s1
      have e : ltL x y = false := by
        obtain ⟨xt, xto, xk, xn, xse, xst, xpl, xtu⟩ := x
        obtain ⟨yt, yto, yk, yn, yse, yst, ypl, ytu⟩ := y
        simp [Lt8.ks] at he
        obtain ⟨rfl, rfl, rfl, rfl, rfl, rfl, rfl, rfl⟩ := he
        exact lex_irrefl _
      rw [e] at g
      exact g
end

theorem pick3 {a b c i : Int} (h0 : 0 ≤ i) (h1 : i < 3) : ∃ m, atI [V.int a, .int b, .int c] i = some (.int m) ∧ (m = a ∨ m = b ∨ m = c) := by
  obtain ⟨j, x, rfl, hj, ha⟩ := at_in (xs := [V.int a, .int b, .int c]) h0 h1
  rw [ha]
  match j, hj with
  | 0, e => exact ⟨a, by rw [← Option.some.inj e], .inl rfl⟩
  | 1, e => exact ⟨b, by rw [← Option.some.inj e], .inr (.inl rfl)⟩
  | 2, e => exact ⟨c, by rw [← Option.some.inj e], .inr (.inr rfl)⟩
  | _ + 3, e => simp at e
structure Lt8.Ok (x : Lt8) : Prop where
  time : 0 ≤ x.time ∧ x.time ≤ 2000000
  to : Asc 30 x.to
  kind : Asc 30 x.kind
  number : 0 ≤ x.number ∧ x.number ≤ 2000000
  sender : Asc 30 x.sender
  sent : 0 ≤ x.sent ∧ x.sent ≤ 2000000
  place : 0 ≤ x.place ∧ x.place ≤ 2000000
  turn : 0 ≤ x.turn ∧ x.turn ≤ 2000000
def spLetter (FZ : Addr → Prop) : Sp := fun vs H Q _ => ∃ (d g c ti : Addr) (n : Nat) (zs : List Str), vs = [.ref d, .ref ti] ∧ Dr H d g c n ∧ n < 2 ^ 59 ∧ H ti = some (.lst (zs.map V.str)) ∧ ¬ Md d g ti ∧ zs ≠ [] ∧ zs.length ≤ 10 ∧ (∀ z ∈ zs, Asc 30 z) ∧
  ∀ p (x : Lt8) H', Dr H' d g c (n + 30) → Stp FZ (Md d g) H H' → H' p = some (.tup x.vs) → x.Ok → Q (.ref p) H'
section
variable {P : Program} {w : World} {K : PySem.W.Frag} {mg : Str → Option Value} {base : Heap}
theorem ok_Lletter (T : Txt K mg) {FZ : Addr → Prop} : FnOk P w K mg base CX0 3 T.a_Lletter T.fd_Lletter P_Lletter (spLetter FZ) := by
  refine T.F_Lletter.ok sc_Lletter (fun vs H Q E h => ?_) (fun cdv A outer s H vs Q E hr h => ?_)
  · obtain ⟨_, _, _, _, _, _, rfl, _⟩ := h
    rfl
  · obtain ⟨d, g, c, ti, n, zs, rfl, hD, hn, ht, nm, z0, z1, za, k⟩ := h
    have hu := hu_of hr
    refine ⟨_, (pss_cons (ps_set (i := 2) sc_Lletter.nd rfl (Or.inl rfl) (pe_ix (kIx (K := K)) (pe_lst (pa_cons pe_int (pa_cons (pe_op (kAdd (K := K)) pe_int (pe_call (ok_Ltake T (FZ := FZ)) (hr.mono (by first | decide | omega)) (by rfl) T.m_Ltake T.F_Ltake.kp T.b_Ltake .nil pass0 (pa_cons (pv 0) (pa_cons pe_int pa_nil)))) (pa_cons (pe_op (kAdd (K := K)) pe_int (pe_call (ok_Ltake T (FZ := FZ)) (hr.mono (by first | decide | omega)) (by rfl) T.m_Ltake T.F_Ltake.kp T.b_Ltake .nil pass0 (pa_cons (pv 0) (pa_cons pe_int pa_nil)))) pa_nil)))) (pe_call (ok_Ltake T (FZ := FZ)) (hr.mono (by first | decide | omega)) (by rfl) T.m_Ltake T.F_Ltake.kp T.b_Ltake .nil pass0 (pa_cons (pv 0) (pa_cons pe_int pa_nil))) (fun _ _ => rfl)))
  (pss_cons (ps_set (i := 3) sc_Lletter.nd rfl (Or.inl rfl) (pe_ix (kIx (K := K)) (pe_lst (pa_cons pe_int (pa_cons (pe_call (ok_Ltake T (FZ := FZ)) (hr.mono (by first | decide | omega)) (by rfl) T.m_Ltake T.F_Ltake.kp T.b_Ltake .nil pass0 (pa_cons (pv 0) (pa_cons pe_int pa_nil))) (pa_cons (pe_call (ok_Ltake T (FZ := FZ)) (hr.mono (by first | decide | omega)) (by rfl) T.m_Ltake T.F_Ltake.kp T.b_Ltake .nil pass0 (pa_cons (pv 0) (pa_cons pe_int pa_nil))) pa_nil)))) (pe_call (ok_Ltake T (FZ := FZ)) (hr.mono (by first | decide | omega)) (by rfl) T.m_Ltake T.F_Ltake.kp T.b_Ltake .nil pass0 (pa_cons (pv 0) (pa_cons pe_int pa_nil))) (fun _ _ => rfl)))
  (pss_cons (ps_par (i := 4) (j := 5) (by rfl) sc_Lletter.nd rfl rfl (by decide) rfl rfl (pa_cons (pe_call (ok_Lpick T (FZ := FZ)) (hr.mono (by first | decide | omega)) (by rfl) T.m_Lpick T.F_Lpick.kp T.b_Lpick .nil pass0 (pa_cons (pv 0) (pa_cons (pe_op (kAdd (K := K)) (pv 1) (pe_lst (pa_cons pe_str pa_nil))) pa_nil))) (pa_cons (pe_call (ok_Ltake T (FZ := FZ)) (hr.mono (by first | decide | omega)) (by rfl) T.m_Ltake T.F_Ltake.kp T.b_Ltake .nil pass0 (pa_cons (pv 0) (pa_cons pe_int pa_nil))) pa_nil)) (by rfl))
  (pss_cons (ps_par (i := 6) (j := 7) (by rfl) sc_Lletter.nd rfl rfl (by decide) rfl rfl (pa_cons (pe_call (ok_Ltake T (FZ := FZ)) (hr.mono (by first | decide | omega)) (by rfl) T.m_Ltake T.F_Ltake.kp T.b_Ltake .nil pass0 (pa_cons (pv 0) (pa_cons pe_int pa_nil))) (pa_cons (pe_ix (kIx (K := K)) (pe_lst (pa_cons pe_int (pa_cons (pe_call (ok_Ltake T (FZ := FZ)) (hr.mono (by first | decide | omega)) (by rfl) T.m_Ltake T.F_Ltake.kp T.b_Ltake .nil pass0 (pa_cons (pv 0) (pa_cons pe_int pa_nil))) (pa_cons (pe_call (ok_Ltake T (FZ := FZ)) (hr.mono (by first | decide | omega)) (by rfl) T.m_Ltake T.F_Ltake.kp T.b_Ltake .nil pass0 (pa_cons (pv 0) (pa_cons pe_int pa_nil))) pa_nil)))) (pe_call (ok_Ltake T (FZ := FZ)) (hr.mono (by first | decide | omega)) (by rfl) T.m_Ltake T.F_Ltake.kp T.b_Ltake .nil pass0 (pa_cons (pv 0) (pa_cons pe_int pa_nil))) (fun _ _ => rfl)) pa_nil)) (by rfl))
  (pss_one (ps_ret (pe_tup (pa_cons (pv 2) (pa_cons (pe_call (ok_Lpick T (FZ := FZ)) (hr.mono (by first | decide | omega)) (by rfl) T.m_Lpick T.F_Lpick.kp T.b_Lpick .nil pass0 (pa_cons (pv 0) (pa_cons (pv 1) pa_nil))) (pa_cons (pe_call (ok_Lpick T (FZ := FZ)) (hr.mono (by first | decide | omega)) (by rfl) T.m_Lpick T.F_Lpick.kp T.b_Lpick .nil pass0 (pa_cons (pv 0) (pa_cons (pe_lst (pa_cons pe_str (pa_cons pe_str (pa_cons pe_str pa_nil)))) pa_nil))) (pa_cons (pv 3) (pa_cons (pv 4) (pa_cons (pv 5) (pa_cons (pv 6) (pa_cons (pv 7) pa_nil))))))))))))))), ?_⟩
    walk_at "rd"
    refine take hD (by omega) (by omega) fun k1 H1 k10 k11 hD1 s1 => ?_
    walk_at "rd"
    refine take hD1 (by omega) (by omega) fun k2 H2 k20 k21 hD2 s2 => ?_
    walk_at "rd"
    refine newL fun l1 H3 hl1 m3 hl3 => ?_
    have hD3 := hD2.same m3
    walk_at "rd"
    refine take hD3 (by omega) (by omega) fun k3 H4 k30 k31 hD4 s4 => ?_
    walk_at "rd"
    obtain ⟨a1, e1, f1⟩ := pick3 (a := 1) (b := 1 + k1) (c := 1 + k2) k30 k31
    refine ix_l (SqL.of (s4.at hl3 (nmd hD2 hl1))) e1 ?_
    walk_at "rd"
    refine take hD4 (by omega) (by omega) fun k4 H5 k40 k41 hD5 s5 => ?_
    walk_at "rd"
    refine take hD5 (by omega) (by omega) fun k5 H6 k50 k51 hD6 s6 => ?_
    walk_at "rd"
    refine newL fun l2 H7 hl2 m7 hl7 => ?_
    have hD7 := hD6.same m7
    walk_at "rd"
    refine take hD7 (by omega) (by omega) fun k6 H8 k60 k61 hD8 s8 => ?_
    walk_at "rd"
    obtain ⟨a2, e2, f2⟩ := pick3 (a := 0) (b := k4) (c := k5) k60 k61
    refine ix_l (SqL.of (s8.at hl7 (nmd hD6 hl2))) e2 ?_
    walk_at "rd"
    have t8 := (((((((s1.trans s2).trans m3.stp).trans s4).trans s5).trans s6).trans m7.stp).trans s8)
    have g8 := t8.at ht nm
    refine newL fun l3 H9 hl3' m9 hl9 => ?_
    have hD9 := hD8.same m9
    walk_at "rd"
    refine add_llS (m9 _ _ g8) hl9 (by rw [List.length_map]; simp; omega) fun l4 H10 hl4 m10 h10 => ?_
    walk_at "rd"
    have hD10 := hD9.same m10
    have e10 : zs.map V.str ++ [V.str ""] = (zs ++ [("" : Str)]).map V.str := by rw [List.map_append]; rfl
    rw [e10] at h10
    refine pickL hD10 (by omega) (.inl (SqL.of h10)) (fun z => nmd hD9 hl4 (.inr z)) (by simp) (by simp; omega) fun i5 x5 H11 hx5 hD11 s11 => ?_
    obtain ⟨se, hse, rfl⟩ := strs_get hx5
    have ase : Asc 30 se := by
      rcases List.mem_append.mp hse with h | h
      · exact za _ h
      · rw [List.mem_singleton.mp h]
        exact ⟨by decide, by decide⟩
    walk_at "rd"
    refine take hD11 (by omega) (by omega) fun k7 H12 k70 k71 hD12 s12 => ?_
    walk_at "rd"
    refine take hD12 (by omega) (by omega) fun k8 H13 k80 k81 hD13 s13 => ?_
    walk_at "rd"
    refine take hD13 (by omega) (by omega) fun k9 H14 k90 k91 hD14 s14 => ?_
    walk_at "rd"
    refine take hD14 (by omega) (by omega) fun k10 H15 k100 k101 hD15 s15 => ?_
    walk_at "rd"
    refine newL fun l5 H16 hl5 m16 h16 => ?_
    have hD16 := hD15.same m16
    walk_at "rd"
    refine take hD16 (by omega) (by omega) fun k11' H17 k110 k111 hD17 s17 => ?_
    walk_at "rd"
    obtain ⟨a3, e3, f3⟩ := pick3 (a := 0) (b := k9) (c := k10) k110 k111
    refine ix_l (SqL.of (s17.at h16 (nmd hD15 hl5))) e3 ?_
    walk_at "rd"
    have t17 := ((((((((((t8.trans m9.stp).trans m10.stp).trans s11).trans s12).trans s13).trans s14).trans s15).trans m16.stp).trans s17))
    refine pickL hD17 (by omega) (.inl (SqL.of (t17.at ht nm))) (fun z => nm (.inr z)) (by simpa using z0) (by simp; omega) fun i6 x6 H18 hx6 hD18 s18 => ?_
    obtain ⟨to, hto, rfl⟩ := strs_get hx6
    walk_at "rd"
    refine newL fun l6 H19 hl6 m19 h19 => ?_
    have hD19 := hD18.same m19
    walk_at "rd"
    refine pickL hD19 (by omega) (.inl (SqL.of h19)) (fun z => nmd hD18 hl6 (.inr z)) (by simp) (by simp) fun i7 x7 H20 hx7 hD20 s20 => ?_
    have e20 : [V.str "go", .str "a", .str "goes"] = (["go", "a", "goes"] : List Str).map V.str := rfl
    rw [e20] at hx7
    obtain ⟨kd, hkd, rfl⟩ := strs_get hx7
    have akd : Asc 30 kd := by
      simp at hkd
      rcases hkd with rfl | rfl | rfl <;> exact ⟨by decide, by decide⟩
    walk_at "rd"
    have t20 := ((t17.trans s18).trans m19.stp).trans s20
    refine newT fun p H21 hp m21 h21 => ?_
    refine k p ⟨a1, to, kd, a2, se, k7, k8, a3⟩ H21 ((hD20.same m21).mono (by omega)) (t20.trans m21.stp) h21 ⟨?_, za _ hto, akd, ?_, ase, ?_, ?_, ?_⟩
    · show 0 ≤ a1 ∧ a1 ≤ 2000000
      omega
    · show 0 ≤ a2 ∧ a2 ≤ 2000000
      omega
    · show 0 ≤ k7 ∧ k7 ≤ 2000000
      omega
    · show 0 ≤ k8 ∧ k8 ≤ 2000000
      omega
    · show 0 ≤ a3 ∧ a3 ≤ 2000000
      omega
end

/-! ### letters as data -/
theorem shows_d {K : PySem.W.Frag} {H : Hp} {v : V} {d : PyData} (h : Dp K H v d) (h1 : PyData.showable d = true) (h2 : PyData.hasDict d = false) (h3 : PyData.depth d ≤ 50) (h4 : (PyData.shown d).length ≤ 1000000) : Shows K H v (PyData.shown d) := fun Q q => .inl (reprD h h1 h2 h3 (sz2 h4) q)
theorem ks_dp {K : PySem.W.Frag} {H : Hp} {p : Addr} {x : Lt8} (h : H p = some (.tup x.ks)) : Dp K H (.ref p) x.key :=
  .tup (SqT.of h) (.cons (.int _) (.cons (.str _) (.cons (.str _) (.cons (.int _) (.cons (.int _) (.cons (.int _) (.cons (.str _) (.cons (.int _) .nil))))))))
theorem vs_dp {K : PySem.W.Frag} {H : Hp} {p : Addr} {x : Lt8} (h : H p = some (.tup x.vs)) : Dp K H (.ref p) x.dat :=
  .tup (SqT.of h) (.cons (.int _) (.cons (.str _) (.cons (.str _) (.cons (.int _) (.cons (.str _) (.cons (.int _) (.cons (.int _) (.cons (.int _) .nil))))))))
theorem ls_dp {K : PySem.W.Frag} {H : Hp} : ∀ {ls : List (Addr × Lt8)}, (∀ x ∈ ls, H x.1 = some (.tup x.2.vs)) → DpAll K H (ls.map fun x => V.ref x.1) ((ls.map (·.2)).map Lt8.dat)
  | [], _ => .nil
  | x :: r, h => .cons (vs_dp (h x List.mem_cons_self)) (ls_dp fun y hy => h y (List.mem_cons_of_mem _ hy))
theorem asc_ok {n : Nat} {z : Str} (h : Asc n z) : PyData.strOk z = true := by
  unfold PyData.strOk
  rw [Array.all_eq_true_iff_forall_mem]
  intro c hc
  exact decide_eq_true (Nat.lt_trans (h.asc c (by simpa using hc)) (by decide))
theorem log_ok {i : Int} (h : 0 ≤ i ∧ i ≤ 2000000) : decide (i.natAbs.log2 < 1920) = true := by
  refine decide_eq_true ?_
  by_cases z : i.natAbs = 0
  · rw [z]
    decide
  · have le : i.natAbs ≤ 2000000 := by omega
    exact Nat.lt_of_lt_of_le ((Nat.log2_lt z).mpr (show i.natAbs < 2 ^ 21 from Nat.lt_of_le_of_lt le (by decide))) (by decide)
theorem w_ok {i : Int} (h : 0 ≤ i ∧ i ≤ 2000000) : (if i = 0 then 0 else i.natAbs.log2 + 1) ≤ 22 := by
  by_cases z : i = 0
  · rw [if_pos z]
    decide
  · rw [if_neg z]
    have le : i.natAbs ≤ 2000000 := by omega
    have := (Nat.log2_lt (show i.natAbs ≠ 0 by omega)).mpr (show i.natAbs < 2 ^ 21 from Nat.lt_of_le_of_lt le (by decide))
    omega
theorem int_short {i : Int} (h : 0 ≤ i ∧ i ≤ 2000000) : PyData.leavesShort 1000 (.int i) = true := by
  simp only [PyData.leavesShort, decide_eq_true_eq]
  have := PyData.shown_int_le (i := i) (by omega)
  omega
theorem str_short {n : Nat} {z : Str} (h : Asc n z) : PyData.leavesShort 1000 (.str z) = true := by
  simp only [PyData.leavesShort, List.all_eq_true, decide_eq_true_eq]
  intro c hc
  exact Nat.lt_trans (h.asc c hc) (by decide)
theorem key_shaped {x : Lt8} (o : x.Ok) : SeqAt.shaped x.key = true := by
  simp [SeqAt.shaped, Lt8.key, PyData.canLay0, PyData.canLayAll0, PyData.depth, PyData.depthAll, asc_ok o.to, asc_ok o.sender, asc_ok o.kind]
theorem dat_shaped {x : Lt8} (o : x.Ok) : SeqAt.shaped x.dat = true := by
  simp [SeqAt.shaped, Lt8.dat, PyData.canLay0, PyData.canLayAll0, PyData.depth, PyData.depthAll, asc_ok o.to, asc_ok o.sender, asc_ok o.kind]
theorem dats_can : ∀ {ls : List Lt8}, (∀ x ∈ ls, x.Ok) → PyData.canLayAll0 (ls.map Lt8.dat) = true
  | [], _ => by rw [List.map_nil]; simp [PyData.canLayAll0]
  | x :: r, h => by
    have e := dats_can fun y hy => h y (List.mem_cons_of_mem _ hy)
    have o := h x List.mem_cons_self
    simp [PyData.canLayAll0, Lt8.dat, PyData.canLay0, asc_ok o.to, asc_ok o.sender, asc_ok o.kind]
    exact e
theorem dats_depth : ∀ {ls : List Lt8}, PyData.depthAll (ls.map Lt8.dat) ≤ 1
  | [] => by rw [List.map_nil]; simp [PyData.depthAll]
  | x :: r => by
    have e := dats_depth (ls := r)
    simp [PyData.depthAll, Lt8.dat, PyData.depth]
    omega
theorem dats_shaped {ls : List Lt8} (h : ∀ x ∈ ls, x.Ok) : SeqAt.shaped (.list (ls.map Lt8.dat)) = true := by
  have h1 : PyData.canLay0 (.list (ls.map Lt8.dat)) = true := by
    simp only [PyData.canLay0]
    exact dats_can h
  have h2 : PyData.depth (.list (ls.map Lt8.dat)) ≤ 2 := by
    simp only [PyData.depth]
    have := dats_depth (ls := ls)
    omega
  unfold SeqAt.shaped
  rw [h1, decide_eq_true (show PyData.depth (.list (ls.map Lt8.dat)) ≤ 64 by omega)]
  rfl
theorem dats_self : ∀ {ls : List Lt8}, PySem.W.alikeAll (ls.map Lt8.dat) (ls.map Lt8.dat) = true
  | [] => rfl
  | x :: r => by
    show (PySem.W.alike x.dat x.dat && PySem.W.alikeAll (r.map Lt8.dat) (r.map Lt8.dat)) = true
    rw [dats_self, dat_alike]
    rfl
theorem dats_eqv {ls : List Lt8} : PyData.eqv (.list (ls.map Lt8.dat)) (.list (ls.map Lt8.dat)) = true := PySem.W.eqv_refl_alike _ dats_self
theorem key_self (x : Lt8) : PyData.eqv x.key x.key = true := PySem.W.eqv_refl_alike _ (key_alike x x)
theorem eqv_key (x y : Lt8) : PyData.eqv x.key y.key = PyData.eqv x.dat y.dat := by
  rw [Bool.eq_iff_iff]
  simp [PyData.eqv, PyData.eqvAll, Lt8.key, Lt8.dat]
  intro a b
  constructor
  · rintro ⟨c, d, e, f, g, h⟩
    exact ⟨g, h, c, d, e, f⟩
  · rintro ⟨g, h, c, d, e, f⟩
    exact ⟨c, d, e, f, g, h⟩
theorem shows_key {K : PySem.W.Frag} {H : Hp} {p : Addr} {x : Lt8} (o : x.Ok) (h : H p = some (.tup x.ks)) : Shows K H (.ref p) (PyData.shown x.key) := by
  refine shows_d (ks_dp h) ?_ ?_ (by rw [key_depth]; decide) ?_
  · simp only [Lt8.key, PyData.showable, PyData.showableAll, log_ok o.time, log_ok o.sent, log_ok o.place, log_ok o.turn, log_ok o.number, Bool.and_true]
  · simp [Lt8.key, PyData.hasDict, PyData.hasDictAll]
  · have q := PyData.shown_le 1000 (by decide) x.key (by
      show (PyData.leavesShort 1000 (.int x.time) && (PyData.leavesShort 1000 (.str x.to) && (PyData.leavesShort 1000 (.str x.sender) && (PyData.leavesShort 1000 (.int x.sent) && (PyData.leavesShort 1000 (.int x.place) && (PyData.leavesShort 1000 (.int x.turn) && (PyData.leavesShort 1000 (.str x.kind) && (PyData.leavesShort 1000 (.int x.number) && true)))))))) = true
      rw [int_short o.time, str_short o.to, str_short o.sender, int_short o.sent, int_short o.place, int_short o.turn, str_short o.kind, int_short o.number]
      rfl)
    simp [Lt8.key, PyData.weight, PyData.weightAll] at q
    have h1 : x.to.cps.size ≤ 30 := o.to.len
    have h2 : x.sender.cps.size ≤ 30 := o.sender.len
    have h3 : x.kind.cps.size ≤ 30 := o.kind.len
    have w1 := w_ok o.time
    have w2 := w_ok o.sent
    have w3 := w_ok o.place
    have w4 := w_ok o.turn
    have w5 := w_ok o.number
    simp only [Lt8.key]
    omega

theorem r_CKw {r : List V → List V → Hp → VK → Prop} {t tk : TA} {σ : L2.St} {H : Hp} {Q : VK} (q : t σ H fun vs H1 => tk σ H1 fun zs H2 => r vs zs H2 Q) : tCKw r t tk σ H Q := q
def spLaw (K : PySem.W.Frag) : Sp := fun vs H Q _ => ∃ (a : Addr) (ns : List Int), vs = [.ref a] ∧ SqL K H a (ns.map V.int) ∧ ns.length ≤ 63 ∧ ∀ H', Q (.bl true) H'
section
variable {P : Program} {w : World} {K : PySem.W.Frag} {mg : Str → Option Value} {base : Heap}
theorem ok_law (T : Txt K mg) {FZ : Addr → Prop} : FnG P w K mg base CX0 4 T.a_law T.fd_law P_law (spLaw K) := by
  refine okG T.F_law sc_law (fun vs H Q E h => ?_) (fun cdv A outer s H vs Q E hr hg h => ?_)
  · obtain ⟨_, _, rfl, _⟩ := h
    rfl
  · obtain ⟨a, ns, rfl, hS, hl, k⟩ := h
    have hu := hu_of hr
    have hG : (A.deeper (envOfC "law" (defScope s_law) s.heap.objs.size T.a_law cdv)).guards = some [] := hg
    have hu65 : (A.deeper (envOfC "law" (defScope s_law) s.heap.objs.size T.a_law cdv)).units + 65 < cLine := by have := hr.un; omega
    refine ⟨_, (pss_cons (ps_set (i := 1) sc_law.nd rfl (Or.inr rfl) (pe_call (ok_Lbegun T (FZ := FZ)) (hr.mono (by first | decide | omega)) (by rfl) T.m_Lbegun T.F_Lbegun.kp T.b_Lbegun .nil pass0 (pa_cons (pv 0) pa_nil)))
  (pss_cons (ps_set (i := 2) sc_law.nd rfl (Or.inr rfl) (pe_call (ok_Lpick T (FZ := FZ)) (hr.mono (by first | decide | omega)) (by rfl) T.m_Lpick T.F_Lpick.kp T.b_Lpick .nil pass0 (pa_cons (pv 1) (pa_cons (pe_lst (pa_cons (pe_lst (pa_cons pe_str (pa_cons pe_str pa_nil))) (pa_cons (pe_lst (pa_cons pe_str (pa_cons pe_str (pa_cons pe_str pa_nil)))) (pa_cons (pe_lst (pa_cons pe_str pa_nil)) (pa_cons (pe_lst (pa_cons pe_str (pa_cons pe_str (pa_cons pe_str (pa_cons pe_str pa_nil))))) pa_nil))))) pa_nil))))
  (pss_cons (ps_setLc (i := 3) (own := [("_law_k", 4)]) rfl sc_law.nd rfl rfl (sw_true rfl rfl rfl (by decide +kernel)) (pi_range1 (by rfl) T.n_range (pa_cons (pe_op (kAdd (K := K)) pe_int (pe_call (ok_Ltake T (FZ := FZ)) (hr.mono (by first | decide | omega)) (by rfl) T.m_Ltake T.F_Ltake.kp T.b_Ltake .nil pass0 (pa_cons (pv 1) (pa_cons pe_int pa_nil)))) pa_nil)) (blkOk_by (own := [("_law_k", 4)]) (N := N_law) (sc := defScope s_law) (by decide +kernel)) (fun _ _ _ _ _ => (pg_name (i := 4) sc_law.nd rfl (Or.inl rfl))) (fun _ _ _ _ _ => pts_nil) (fun _ _ _ _ _ => (pe_call (ok_Lletter T (FZ := FZ)) (hr.mono (by first | decide | omega)) (by rfl) T.m_Lletter T.F_Lletter.kp T.b_Lletter .nil pass0 (pa_cons (pv 1) (pa_cons (pv 2) pa_nil)))))
  (pss_cons (ps_set (i := 5) sc_law.nd rfl (Or.inl rfl) (pe_lst pa_nil))
  (pss_cons (ps_for PassesOwn.never rfl (k_list (K := K) (pv 3)) (pg_name (i := 6) sc_law.nd rfl (Or.inr rfl))
  (pss_cons (ps_set (i := 7) sc_law.nd rfl (Or.inl rfl) (pe_callB (kLen (K := K)) (by rfl) T.n_len (by decide +kernel) (pa_cons (pe_lc (own := [("_law_other", 8)]) rfl sc_law.nd (k_list (K := K) (pv 5)) (blkOk_by (own := [("_law_other", 8)]) (N := N_law) (sc := defScope s_law) (by decide +kernel)) (fun _ _ _ _ _ => (pg_name (i := 8) sc_law.nd rfl (Or.inl rfl))) (fun _ _ _ _ _ => (pts_one (pt_not (pt_val (pe_call (ok_Lfirst T (FZ := FZ)) (hr.mono (by first | decide | omega)) (by rfl) T.m_Lfirst T.F_Lfirst.kp T.b_Lfirst .nil pass0 (pa_cons (pv 6) (pa_cons (pv 8) pa_nil))))))) (fun _ _ _ _ _ => (pv 8))) pa_nil)))
  (pss_one (ps_expr (k_bm (K := K) PySem.F.plainAttrs_list PySem.F.slot_list_insert PySem.F.type_list_insert kIns (pv 5) (pa_cons (pv 7) (pa_cons (pv 6) pa_nil)))))))
  (pss_cons (ps_for PassesOwn.never rfl (k_list (K := K) (pv 3)) (pg_name (i := 6) sc_law.nd rfl (Or.inr rfl))
  (pss_cons (ps_set (i := 9) sc_law.nd rfl (Or.inl rfl) (pe_call (ok_order T (FZ := FZ)) (hr.mono (by first | decide | omega)) (by rfl) T.m_order T.F_order.kp T.b_order .nil pass0 (pa_cons (pv 6) pa_nil)))
  (pss_cons (ps_set (i := 10) sc_law.nd rfl (Or.inl rfl) (pe_tup (pa_cons (pe_ix (kIx (K := K)) (pv 6) pe_int (fun _ _ => rfl)) (pa_cons (pe_ix (kIx (K := K)) (pv 6) pe_int (fun _ _ => rfl)) (pa_cons (pe_ix (kIx (K := K)) (pv 6) pe_int (fun _ _ => rfl)) (pa_cons (pe_ix (kIx (K := K)) (pv 6) pe_int (fun _ _ => rfl)) (pa_cons (pe_ix (kIx (K := K)) (pv 6) pe_int (fun _ _ => rfl)) (pa_cons (pe_ix (kIx (K := K)) (pv 6) pe_int (fun _ _ => rfl)) (pa_cons (pe_ix (kIx (K := K)) (pv 6) pe_int (fun _ _ => rfl)) (pa_cons (pe_ix (kIx (K := K)) (pv 6) pe_int (fun _ _ => rfl)) pa_nil))))))))))
  (pss_cons (ps_if (PW.pt (pw_or (pt_cmpR (kNe (K := K) hr.units) (pe_callB (kReprU (K := K) hG hr.units) (by rfl) T.n_repr (by decide +kernel) (pa_cons (pv 9) pa_nil)) (pe_callB (kReprU (K := K) hG hr.units) (by rfl) T.n_repr (by decide +kernel) (pa_cons (pv 10) pa_nil)) (nomark _)) (pw_or1 (pt_cmpR (kNe (K := K) hr.units) (kCallKw (ok_order T (FZ := FZ)) (hr.mono (by first | decide | omega)) (by rfl) T.m_order T.F_order.kp T.kb_order pass0 (pk_cons (pv 6) pk_nil)) (pv 9) (nomark _)))))
  (pss_one (ps_ret pe_bl))
  pss_nil)
  (pss_one (ps_for PassesOwn.never rfl (k_list (K := K) (pv 3)) (pg_name (i := 8) sc_law.nd rfl (Or.inl rfl))
  (pss_one (ps_if (PW.pt (pw_or (pt_cmpR (kNe (K := K) hr.units) (pe_cmpR (kLtD (K := K) hr.units) (pe_call (ok_order T (FZ := FZ)) (hr.mono (by first | decide | omega)) (by rfl) T.m_order T.F_order.kp T.b_order .nil pass0 (pa_cons (pv 8) pa_nil)) (pv 9) (nomark _)) (pe_call (ok_Lfirst T (FZ := FZ)) (hr.mono (by first | decide | omega)) (by rfl) T.m_Lfirst T.F_Lfirst.kp T.b_Lfirst .nil pass0 (pa_cons (pv 8) (pa_cons (pv 6) pa_nil))) (nomark _)) (pw_or1 (pt_cmpR (kNe (K := K) hr.units) (pe_cmpR (kEq (K := K) hr.units) (pe_call (ok_order T (FZ := FZ)) (hr.mono (by first | decide | omega)) (by rfl) T.m_order T.F_order.kp T.b_order .nil pass0 (pa_cons (pv 8) pa_nil)) (pv 9) (nomark _)) (pe_cmpR (kEq (K := K) hr.units) (pv 8) (pv 6) (nomark _)) (nomark _)))))
  (pss_one (ps_ret pe_bl))
  pss_nil))))))))
  (pss_one (ps_ret (pe_cmpR (kEq (K := K) hr.units) (pe_callBK (cr_sortO T.F_order T.b_order hr (K := K)) (by rfl) T.n_sorted (by decide +kernel) (pa_cons (pv 3) pa_nil) (pk_cons (pe_glob (v := .ref T.a_order) (by rfl) T.m_order rfl) pk_nil)) (pv 5) (nomark _)))))))))), ?_⟩
    walk_at "rd"
    refine ⟨a, ns, rfl, hS, hl, fun d g c H1 nd ng nc hD1 s1 => ?_⟩
    walk_at "rd"
    refine newL fun l1 H2 n1 m2 g1 => ?_
    walk_at "rd"
    refine newL fun l2 H3 n2 m3 g2 => ?_
    walk_at "rd"
    refine newL fun l3 H4 n3 m4 g3 => ?_
    walk_at "rd"
    refine newL fun l4 H5 n4 m5 g4 => ?_
    walk_at "rd"
    refine newL fun l5 H6 n5 m6 g5 => ?_
    walk_at "rd"
    have hD2 := hD1.same m2
    have hD3 := hD2.same m3
    have hD4 := hD3.same m4
    have hD5 := hD4.same m5
    have hD6 := hD5.same m6
    refine pickL hD6 (by omega) (.inl (SqL.of g5)) (fun z => nmd hD5 n5 (.inr z)) (by simp) (by simp) fun i5 x5 H7 hx5 hD7 s7 => ?_
    obtain ⟨ti, zs, rfl, ht, nm, z0, z1, za⟩ : ∃ (ti : Addr) (zs : List Str), x5 = .ref ti ∧ H7 ti = some (.lst (zs.map V.str)) ∧ ¬ Md d g ti ∧ zs ≠ [] ∧ zs.length ≤ 10 ∧ ∀ z ∈ zs, Asc 30 z := by
      match i5, hx5 with
      | 0, e => exact ⟨l1, ["a", "b"], (Option.some.inj e).symm, s7.at (m6 _ _ (m5 _ _ (m4 _ _ (m3 _ _ g1)))) (nmd hD1 n1), nmd hD1 n1, by simp, by simp, fun z hz => by simp at hz; rcases hz with rfl | rfl <;> exact ⟨by decide, by decide⟩⟩
      | 1, e => exact ⟨l2, ["b", "ab", "a"], (Option.some.inj e).symm, s7.at (m6 _ _ (m5 _ _ (m4 _ _ g2))) (nmd hD2 n2), nmd hD2 n2, by simp, by simp, fun z hz => by simp at hz; rcases hz with rfl | rfl | rfl <;> exact ⟨by decide, by decide⟩⟩
      | 2, e => exact ⟨l3, ["z"], (Option.some.inj e).symm, s7.at (m6 _ _ (m5 _ _ g3)) (nmd hD3 n3), nmd hD3 n3, by simp, by simp, fun z hz => by simp at hz; rcases hz with rfl; exact ⟨by decide, by decide⟩⟩
      | 3, e => exact ⟨l4, ["house", "end", "on", "aaaaaa"], (Option.some.inj e).symm, s7.at (m6 _ _ g4) (nmd hD4 n4), nmd hD4 n4, by simp, by simp, fun z hz => by simp at hz; rcases hz with rfl | rfl | rfl | rfl <;> exact ⟨by decide, by decide⟩⟩
      | _ + 4, e => simp at e
    walk_at "rd"
    refine take hD7 (by omega) (by omega) fun k1 H8 k10 k11 hD8 s8 => ?_
    walk_at "rd"
    refine itR1 ⟨by omega, by omega⟩ ?_
    have ht8 := s8.at ht nm
    refine lcR (fun Dl i acc H9 => ∃ ls : List (Addr × Lt8), acc = ls.map (fun x => V.ref x.1) ∧ ls.length = i ∧ (∀ x ∈ ls, H9 x.1 = some (.tup x.2.vs) ∧ x.2.Ok) ∧ Dr H9 d g c (2 + 30 * i) ∧ Stp FZ (Md d g) H8 H9 ∧ H9 Dl = some (.lst acc)) (fun Dl H9 hDl m9 h9 => ⟨[], rfl, rfl, by simp, (hD8.same m9).mono (by omega), m9.stp, h9⟩) ?_ ?_
    · rintro Dl i acc H9 hDl hi hl' ⟨ls, rfl, el, hx, hD9, s9, h9⟩
      have hi13 : i < 13 := by omega
      walk_at "rd"
      refine ⟨d, g, c, ti, _, zs, rfl, hD9, by omega, s9.at ht8 nm, nm, z0, z1, za, fun p x H10 hD10 s10 h10 o10 => ?_⟩
      obtain ⟨q1, q2, q3⟩ := hD8.nd hDl
      have h9' := s10.at h9 (nmd hD8 hDl)
      refine lcEnd hl' (by omega) h9' fun H11 b11 h11 => ⟨ls ++ [(p, x)], by rw [List.map_append]; rfl, by rw [List.length_append, el]; rfl, fun y hy => ?_, ?_, ⟨fun a o e z => (b11 a (ne_of_none e hDl)).trans ((s9.trans s10).keep a o e z)⟩, h11⟩
      · have ne : ∀ {q : Addr} {ys : List V}, H10 q = some (.tup ys) → q ≠ Dl := fun {q ys} e z => by
          rw [z, h9'] at e
          cases e
        rcases List.mem_append.mp hy with hy | hy
        · obtain ⟨e1, e2⟩ := hx y hy
          have e3 := s10.keep _ _ e1 (.inl trivial)
          exact ⟨b11.at e3 (ne e3), e2⟩
        · rw [List.mem_singleton.mp hy]
          exact ⟨b11.at h10 (ne h10), o10⟩
      · exact (hD10.but b11 q1 q2 q3).mono (by omega)
    · rintro Dl acc H9 hDl _ ⟨ls, rfl, el, hx, hD9, s9, h9⟩
      walk_at "rd"
      refine newL fun e H10 ne m10 h10 => ?_
      walk_at "rd"
      have lsn : ls.length ≤ 20 := by omega
      have hx10 : ∀ y ∈ ls, H10 y.1 = some (.tup y.2.vs) := fun y hy => m10 _ _ (hx y hy).1
      have xe : ∀ y ∈ ls, y.1 ≠ e := fun y hy z => by
        have q := (hx y hy).1
        rw [z, ne] at q
        cases q
      have hD10 := m10 _ _ h9
      have De : Dl ≠ e := fun z => by
        rw [z, ne] at h9
        cases h9
      refine itL (SqL.of hD10) ?_
      refine forL (xs := ls.map fun x => V.ref x.1) (fun i σ H => ∃ o1 o2, ∃ dl : List (Addr × Lt8), σ = [some (.ref a), some (.ref d), some (.ref ti), some (.ref Dl), none, some (.ref e), o1, o2, none, none, none] ∧ H e = some (.lst (dl.map fun x => V.ref x.1)) ∧
        dl.map (·.2) = due ((ls.take i).map (·.2)) ∧ (∀ y ∈ dl, y ∈ ls) ∧ ∀ b o, b ≠ e → H10 b = some o → H b = some o) ⟨none, none, [], rfl, h10, rfl, by simp, fun _ _ _ z => z⟩ ?_ ?_ ?_
      · rintro i σ H11 _ ⟨o1, o2, dl, rfl, he, hd, hm, kb⟩
        exact SqL.of (kb _ _ De hD10)
      · rintro i z σ H11 hz ⟨o1, o2, dl, rfl, he, hd, hm, kb⟩
        rw [List.getElem?_map] at hz
        obtain ⟨y, hy, rfl⟩ := Option.map_eq_some_iff.mp hz
        have yl := List.mem_of_getElem? hy
        walk_at "rd"
        refine itL (SqL.of he) ?_
        have dll : dl.length ≤ 20 := by
          have h1 := congrArg List.length hd
          rw [List.length_map, (due_of _ _ rfl).1.length_eq, List.length_map, List.length_take] at h1
          omega
        refine lcL (xs := dl.map fun x => V.ref x.1) (fun Dc j acc H12 => acc = (((dl.take j).filter fun z => leL z.2 y.2).map fun x => V.ref x.1) ∧ Same H11 H12 ∧ H12 Dc = some (.lst acc)) (fun Dc j acc H12 hDc ⟨_, s12, _⟩ => SqL.of (s12 _ _ he)) (fun Dc H12 hDc s12 h12 => ⟨rfl, s12, h12⟩) ?_ ?_
        · rintro Dc j acc v H12 hDc hv hj hl' ⟨rfl, s12, h12⟩
          rw [List.getElem?_map] at hv
          obtain ⟨z, hz', rfl⟩ := Option.map_eq_some_iff.mp hv
          have zl := hm z (List.mem_of_getElem? hz')
          have at12 : ∀ u ∈ ls, H12 u.1 = some (.tup u.2.vs) := fun u hu => s12 _ _ (kb _ _ (xe u hu) (hx10 u hu))
          have et : ∀ b : Bool, leL z.2 y.2 = b → ((dl.take (j + 1)).filter fun z => leL z.2 y.2) = ((dl.take j).filter fun z => leL z.2 y.2) ++ (if b = true then [z] else []) := fun b eb => by
            rw [List.take_add_one, hz', Option.toList_some, List.filter_append]
            congr 1
            rw [List.filter_cons, eb]
            cases b <;> rfl
          walk_at "rd"
          refine ⟨y.1, z.1, y.2, z.2, rfl, at12 y yl, at12 z zl, fun H13 s13 => ?_⟩
          walk_at "rd"
          refine r_itb (fun eb => ?_) (fun eb => ?_)
          · walk_at "rd"
            refine lcEnd hl' (by rw [List.length_map] at hj; omega) (s13 _ _ h12) fun H14 b14 h14 => ⟨?_, fun b o q => b14.at (s13 _ _ (s12 b o q)) (ne_of_none q hDc), h14⟩
            rw [et true eb, List.map_append]
            rfl
          · refine lcSkip hl' ⟨?_, s12.trans s13, s13 _ _ h12⟩
            rw [et false eb]
            simp
        · rintro Dc acc H12 hDc _ ⟨rfl, s12, h12⟩
          rw [List.length_map, List.take_length] at h12
          walk_at "rd"
          rw [List.length_map]
          have he12 := s12 _ _ he
          refine ⟨tyL he12, ?_⟩
          walk_at "rd"
          refine insL he12 (by omega) (by have := List.length_filter_le (fun z : Addr × Lt8 => leL z.2 y.2) dl; omega) (fun H13 b13 h13 => ?_) (by rw [List.length_map]; omega)
          refine ⟨_, _, dl.take (dl.filter fun z => leL z.2 y.2).length ++ [y] ++ dl.drop (dl.filter fun z => leL z.2 y.2).length, rfl, ?_, ?_, ?_, fun b o hb q => b13.at (s12 _ _ (kb b o hb q)) hb⟩
          · rw [h13]
            simp [List.map_take, List.map_drop]
          · have er : (ls.take (i + 1)).map (·.2) = (ls.take i).map (·.2) ++ [y.2] := by
              rw [List.take_add_one, hy, Option.toList_some, List.map_append]
              rfl
            rw [er, due_snoc, ← hd]
            unfold ins
            have el2 : (dl.filter fun z => leL z.2 y.2).length = ((dl.map (·.2)).filter fun z => leL z y.2).length := by
              rw [List.filter_map, List.length_map]
              rfl
            rw [← el2]
            simp [List.map_take, List.map_drop]
          · intro u hu
            rcases List.mem_append.mp hu with hu | hu
            · rcases List.mem_append.mp hu with hu | hu
              · exact hm u (List.mem_of_mem_take hu)
              · rw [List.mem_singleton.mp hu]
                exact yl
            · exact hm u (List.mem_of_mem_drop hu)
      · rintro σ H11 ⟨o1, o2, dl, rfl, he, hd, hm, kb⟩
        rw [List.length_map, List.take_length] at hd
        walk_at "rd"
        have D11 := kb _ _ De hD10
        have at11 : ∀ u ∈ ls, H11 u.1 = some (.tup u.2.vs) := fun u hu => kb _ _ (xe u hu) (hx10 u hu)
        have ok : ∀ u ∈ ls, u.2.Ok := fun u hu => (hx u hu).2
        refine itL (SqL.of D11) ?_
        refine forL (xs := ls.map fun x => V.ref x.1) (fun i σ H => ∃ o1 o2 o3 o4 o5, σ = [some (.ref a), some (.ref d), some (.ref ti), some (.ref Dl), none, some (.ref e), o1, o2, o3, o4, o5] ∧ Same H11 H) ⟨_, _, _, _, _, rfl, Same.refl _⟩ ?_ ?_ ?_
        · rintro i σ H12 _ ⟨_, _, _, _, _, rfl, s12⟩
          exact SqL.of (s12 _ _ D11)
        · rintro i v σ H12 hv ⟨o1', o2', o3', o4', o5', rfl, s12⟩
          rw [List.getElem?_map] at hv
          obtain ⟨y, hy, rfl⟩ := Option.map_eq_some_iff.mp hv
          have yl := List.mem_of_getElem? hy
          walk_at "rd"
          refine ⟨y.1, y.2, rfl, s12 _ _ (at11 y yl), fun q1 H13 nq1 s13 t13 => ?_⟩
          walk_at "rd"
          have a12 := s13 _ _ (s12 _ _ (at11 y yl))
          refine ix_t (SqT.of a12) rfl ?_
          walk_at "rd"
          refine ix_t (SqT.of a12) rfl ?_
          walk_at "rd"
          refine ix_t (SqT.of a12) rfl ?_
          walk_at "rd"
          refine ix_t (SqT.of a12) rfl ?_
          walk_at "rd"
          refine ix_t (SqT.of a12) rfl ?_
          walk_at "rd"
          refine ix_t (SqT.of a12) rfl ?_
          walk_at "rd"
          refine ix_t (SqT.of a12) rfl ?_
          walk_at "rd"
          refine ix_t (SqT.of a12) rfl ?_
          walk_at "rd"
          refine newT fun q2 H14 nq2 s14 t14 => ?_
          walk_at "rd"
          have oky := ok y yl
          have t13' := s14 _ _ t13
          obtain ⟨R, sh1, sh2⟩ : ∃ R, Shows K H14 (.ref q1) R ∧ Shows K H14 (.ref q2) R := ⟨_, shows_key oky t13', shows_key oky t14⟩
          refine reprS sh1 ?_
          walk_at "rd"
          refine reprS sh2 ?_
          walk_at "rd"
          refine r_ndec (fun z => absurd rfl z) (fun _ => ?_)
          walk_at "rd"
          refine ⟨y.1, y.2, rfl, s14 _ _ a12, fun q3 H15 nq3 s15 t15 => ?_⟩
          walk_at "rd"
          refine ne_d (ks_dp t15) (ks_dp (s15 _ _ t13')) (key_shaped oky) (key_shaped oky) ?_
          rw [key_self]
          walk_at "rd"
          have s1215 := ((s12.trans s13).trans s14).trans s15
          have t15' := s15 _ _ t13'
          refine itL (SqL.of (s1215 _ _ D11)) ?_
          refine forL (xs := ls.map fun x => V.ref x.1) (fun j σ H => ∃ o6, σ = [some (.ref a), some (.ref d), some (.ref ti), some (.ref Dl), none, some (.ref e), some (.ref y.1), o2', o6, some (.ref q1), some (.ref q2)] ∧ Same H15 H) ⟨_, rfl, Same.refl _⟩ ?_ ?_ ?_
          · rintro j σ H16 _ ⟨_, rfl, s16⟩
            exact SqL.of (s16 _ _ (s1215 _ _ D11))
          · rintro j v σ H16 hv ⟨o6, rfl, s16⟩
            rw [List.getElem?_map] at hv
            obtain ⟨z, hz, rfl⟩ := Option.map_eq_some_iff.mp hv
            have zl := List.mem_of_getElem? hz
            have okz := ok z zl
            have tz := s16 _ _ (s1215 _ _ (at11 z zl))
            have ty := s16 _ _ (s1215 _ _ (at11 y yl))
            have tq := s16 _ _ t15'
            obtain ⟨b, e1, e2⟩ : ∃ b, PyData.eqv z.2.key y.2.key = b ∧ PyData.eqv z.2.dat y.2.dat = b := ⟨_, rfl, (eqv_key _ _).symm⟩
            obtain ⟨c', e3, e4⟩ : ∃ c', PySem.W.dataLt z.2.key y.2.key = c' ∧ ltL z.2 y.2 = c' := ⟨_, rfl, rfl⟩
            walk_at "rd"
            refine ⟨z.1, z.2, rfl, tz, fun q4 H17 nq4 s17 t17 => ?_⟩
            walk_at "rd"
            refine ltD (ks_dp t17) (ks_dp (s17 _ _ tq)) (key_alike _ _) (fun w => by unfold Lt8.key at w; cases w) (by rw [key_depth]; decide) ?_
            rw [e3]
            walk_at "rd"
            refine ⟨z.1, y.1, z.2, y.2, rfl, s17 _ _ tz, s17 _ _ ty, fun H18 s18 => ?_⟩
            rw [e4]
            walk_at "rd"
            refine ne_selfB ?_
            walk_at "rd"
            refine ⟨z.1, z.2, rfl, s18 _ _ (s17 _ _ tz), fun q5 H19 nq5 s19 t19 => ?_⟩
            walk_at "rd"
            refine eq_d (ks_dp t19) (ks_dp (s19 _ _ (s18 _ _ (s17 _ _ tq)))) (key_shaped okz) (key_shaped oky) ?_
            rw [e1]
            walk_at "rd"
            refine eq_d (vs_dp (s19 _ _ (s18 _ _ (s17 _ _ tz)))) (vs_dp (s19 _ _ (s18 _ _ (s17 _ _ ty)))) (dat_shaped okz) (dat_shaped oky) ?_
            rw [e2]
            refine ne_selfB ?_
            walk_at "rd"
            exact ⟨_, rfl, ((s16.trans s17).trans s18).trans s19⟩
          · rintro σ H16 ⟨o6, rfl, s16⟩
            walk_at "rd"
            exact ⟨_, _, _, _, _, rfl, s1215.trans s16⟩
        · rintro σ H12 ⟨_, _, _, _, _, rfl, s12⟩
          walk_at "rd"
          refine r_CKw ?_
          walk_at "rd"
          refine ⟨Dl, ls, rfl, rfl, SqL.of (s12 _ _ D11), fun u hu => s12 _ _ (at11 u hu), by omega, fun p hp => ?_⟩
          have sp : Same H12 (upd H12 p (.lst ((ls.mergeSort (PySem.W.dataLe false fun x => x.2.key)).map fun x => V.ref x.1))) := upd_Same hp
          have gp : upd H12 p (.lst ((ls.mergeSort (PySem.W.dataLe false fun x => x.2.key)).map fun x => V.ref x.1)) p = some (.lst ((ls.mergeSort (PySem.W.dataLe false fun x => x.2.key)).map fun x => V.ref x.1)) := upd_same
          generalize upd H12 p (.lst ((ls.mergeSort (PySem.W.dataLe false fun x => x.2.key)).map fun x => V.ref x.1)) = H13 at sp gp ⊢
          walk_at "rd"
          have m1 : ∀ u ∈ ls.mergeSort (PySem.W.dataLe false fun x => x.2.key), u ∈ ls := fun u hu => (List.mergeSort_perm ls _).mem_iff.mp hu
          have dp1 := ls_dp (K := K) (H := H13) fun u hu => sp _ _ (s12 _ _ (at11 u (m1 u hu)))
          have dp2 := ls_dp (K := K) (H := H13) (ls := dl) fun u hu => sp _ _ (s12 _ _ (at11 u (hm u hu)))
          rw [due_sort] at dp1
          rw [hd] at dp2
          have okd : ∀ u ∈ due (ls.map (·.2)), u.Ok := fun u hu => by
            obtain ⟨v, hv, rfl⟩ := List.mem_map.mp ((due_of _ (ls.map (·.2)) rfl).1.mem_iff.mp hu)
            exact ok v hv
          refine eq_d (.lst (SqL.of gp) dp1) (.lst (SqL.of (sp _ _ (s12 _ _ he))) dp2) (dats_shaped okd) (dats_shaped okd) ?_
          rw [dats_eqv]
          exact k _
end

theorem all_mk {K : PySem.W.Frag} {h : Heap} {mg : Str → Option Value} {fa : Addr} (X : K.In h) (G : h.Ns mainGlobals mg) (hfa : mg "law" = some (.ref fa))
    {a_Lbegun : Addr} {od_Lbegun an_Lbegun : Option Addr} {sl_Lbegun : Array (Option Value)} {oc_Lbegun kV_Lbegun dc_Lbegun pm_Lbegun cd_Lbegun ct_Lbegun : Value}
    {a_Ltake : Addr} {od_Ltake an_Ltake : Option Addr} {sl_Ltake : Array (Option Value)} {oc_Ltake kV_Ltake dc_Ltake pm_Ltake cd_Ltake ct_Ltake : Value}
    {a_Lpick : Addr} {od_Lpick an_Lpick : Option Addr} {sl_Lpick : Array (Option Value)} {oc_Lpick kV_Lpick dc_Lpick pm_Lpick cd_Lpick ct_Lpick : Value}
    {a_order : Addr} {od_order an_order : Option Addr} {sl_order : Array (Option Value)} {oc_order kV_order dc_order pm_order cd_order ct_order : Value}
    {a_Lletter : Addr} {od_Lletter an_Lletter : Option Addr} {sl_Lletter : Array (Option Value)} {oc_Lletter kV_Lletter dc_Lletter pm_Lletter cd_Lletter ct_Lletter : Value}
    {a_Lfirst : Addr} {od_Lfirst an_Lfirst : Option Addr} {sl_Lfirst : Array (Option Value)} {oc_Lfirst kV_Lfirst dc_Lfirst pm_Lfirst cd_Lfirst ct_Lfirst : Value}
    {a_law : Addr} {od_law an_law : Option Addr} {sl_law : Array (Option Value)} {oc_law kV_law dc_law pm_law cd_law ct_law : Value}
    (x_Lbegun : PySem.W.nsIn K mainGlobals "_law_begun" = some (some (.ref a_Lbegun)))
    (l_Lbegun : K.lookup a_Lbegun = some ⟨oc_Lbegun, od_Lbegun, .func (PySem.W.fnOf "_law_begun" "_law_begun" (defArgs s_Lbegun) (defBody s_Lbegun) (defScope s_Lbegun) .none kV_Lbegun dc_Lbegun pm_Lbegun an_Lbegun cd_Lbegun ct_Lbegun), sl_Lbegun⟩)
    (c_Lbegun : PySem.W.codeIn K cd_Lbegun "_law_begun" = true)
    (k_Lbegun : PySem.W.keepIn K (.ref a_Lbegun) = true)
    (x_Ltake : PySem.W.nsIn K mainGlobals "_law_take" = some (some (.ref a_Ltake)))
    (l_Ltake : K.lookup a_Ltake = some ⟨oc_Ltake, od_Ltake, .func (PySem.W.fnOf "_law_take" "_law_take" (defArgs s_Ltake) (defBody s_Ltake) (defScope s_Ltake) .none kV_Ltake dc_Ltake pm_Ltake an_Ltake cd_Ltake ct_Ltake), sl_Ltake⟩)
    (c_Ltake : PySem.W.codeIn K cd_Ltake "_law_take" = true)
    (k_Ltake : PySem.W.keepIn K (.ref a_Ltake) = true)
    (x_Lpick : PySem.W.nsIn K mainGlobals "_law_pick" = some (some (.ref a_Lpick)))
    (l_Lpick : K.lookup a_Lpick = some ⟨oc_Lpick, od_Lpick, .func (PySem.W.fnOf "_law_pick" "_law_pick" (defArgs s_Lpick) (defBody s_Lpick) (defScope s_Lpick) .none kV_Lpick dc_Lpick pm_Lpick an_Lpick cd_Lpick ct_Lpick), sl_Lpick⟩)
    (c_Lpick : PySem.W.codeIn K cd_Lpick "_law_pick" = true)
    (k_Lpick : PySem.W.keepIn K (.ref a_Lpick) = true)
    (x_order : PySem.W.nsIn K mainGlobals "order" = some (some (.ref a_order)))
    (l_order : K.lookup a_order = some ⟨oc_order, od_order, .func (PySem.W.fnOf "order" "order" (defArgs s_order) (defBody s_order) (defScope s_order) .none kV_order dc_order pm_order an_order cd_order ct_order), sl_order⟩)
    (c_order : PySem.W.codeIn K cd_order "order" = true)
    (k_order : PySem.W.keepIn K (.ref a_order) = true)
    (x_Lletter : PySem.W.nsIn K mainGlobals "_law_letter" = some (some (.ref a_Lletter)))
    (l_Lletter : K.lookup a_Lletter = some ⟨oc_Lletter, od_Lletter, .func (PySem.W.fnOf "_law_letter" "_law_letter" (defArgs s_Lletter) (defBody s_Lletter) (defScope s_Lletter) .none kV_Lletter dc_Lletter pm_Lletter an_Lletter cd_Lletter ct_Lletter), sl_Lletter⟩)
    (c_Lletter : PySem.W.codeIn K cd_Lletter "_law_letter" = true)
    (k_Lletter : PySem.W.keepIn K (.ref a_Lletter) = true)
    (x_Lfirst : PySem.W.nsIn K mainGlobals "_law_first" = some (some (.ref a_Lfirst)))
    (l_Lfirst : K.lookup a_Lfirst = some ⟨oc_Lfirst, od_Lfirst, .func (PySem.W.fnOf "_law_first" "_law_first" (defArgs s_Lfirst) (defBody s_Lfirst) (defScope s_Lfirst) .none kV_Lfirst dc_Lfirst pm_Lfirst an_Lfirst cd_Lfirst ct_Lfirst), sl_Lfirst⟩)
    (c_Lfirst : PySem.W.codeIn K cd_Lfirst "_law_first" = true)
    (k_Lfirst : PySem.W.keepIn K (.ref a_Lfirst) = true)
    (x_law : PySem.W.nsIn K mainGlobals "law" = some (some (.ref a_law)))
    (l_law : K.lookup a_law = some ⟨oc_law, od_law, .func (PySem.W.fnOf "law" "law" (defArgs s_law) (defBody s_law) (defScope s_law) .none kV_law dc_law pm_law an_law cd_law ct_law), sl_law⟩)
    (c_law : PySem.W.codeIn K cd_law "law" = true)
    (k_law : PySem.W.keepIn K (.ref a_law) = true)
    (n_len : PySem.W.nsIn K mainGlobals "len" = some none)
    (n_range : PySem.W.nsIn K mainGlobals "range" = some none)
    (n_repr : PySem.W.nsIn K mainGlobals "repr" = some none)
    (n_sorted : PySem.W.nsIn K mainGlobals "sorted" = some none) :
    ∃ T : Txt K mg, T.a_law = fa ∧ ∀ (s : Shared) (v : Value), BindsTo s T.fd_law ⟨[v], []⟩ [("_law_script", v)] := by
  have e := hfa.symm.trans (PySem.W.mg_of X G x_law)
  cases e
  have F_Lbegun := fun_mk (st := s_Lbegun) l_Lbegun c_Lbegun k_Lbegun
  have b_Lbegun := F_Lbegun.binds (ps := P_Lbegun) fun _ _ _ _ _ _ us hl => match us, hl with | [_], _ => rfl
  have F_Ltake := fun_mk (st := s_Ltake) l_Ltake c_Ltake k_Ltake
  have b_Ltake := F_Ltake.binds (ps := P_Ltake) fun _ _ _ _ _ _ us hl => match us, hl with | [_, _], _ => rfl
  have F_Lpick := fun_mk (st := s_Lpick) l_Lpick c_Lpick k_Lpick
  have b_Lpick := F_Lpick.binds (ps := P_Lpick) fun _ _ _ _ _ _ us hl => match us, hl with | [_, _], _ => rfl
  have F_order := fun_mk (st := s_order) l_order c_order k_order
  have b_order := F_order.binds (ps := P_order) fun _ _ _ _ _ _ us hl => match us, hl with | [_], _ => rfl
  have F_Lletter := fun_mk (st := s_Lletter) l_Lletter c_Lletter k_Lletter
  have b_Lletter := F_Lletter.binds (ps := P_Lletter) fun _ _ _ _ _ _ us hl => match us, hl with | [_, _], _ => rfl
  have F_Lfirst := fun_mk (st := s_Lfirst) l_Lfirst c_Lfirst k_Lfirst
  have b_Lfirst := F_Lfirst.binds (ps := P_Lfirst) fun _ _ _ _ _ _ us hl => match us, hl with | [_, _], _ => rfl
  have F_law := fun_mk (st := s_law) l_law c_law k_law
  have b_law := F_law.binds (ps := P_law) fun _ _ _ _ _ _ us hl => match us, hl with | [_], _ => rfl
  exact ⟨{a_Lbegun := _, fd_Lbegun := _, F_Lbegun := F_Lbegun, b_Lbegun := b_Lbegun, m_Lbegun := PySem.W.mg_of X G x_Lbegun, a_Ltake := _, fd_Ltake := _, F_Ltake := F_Ltake, b_Ltake := b_Ltake, m_Ltake := PySem.W.mg_of X G x_Ltake, a_Lpick := _, fd_Lpick := _, F_Lpick := F_Lpick, b_Lpick := b_Lpick, m_Lpick := PySem.W.mg_of X G x_Lpick, a_order := _, fd_order := _, F_order := F_order, b_order := b_order, kb_order := kb_one (fun s v => .of_eq rfl) (fun s v => .of_eq rfl), m_order := PySem.W.mg_of X G x_order, a_Lletter := _, fd_Lletter := _, F_Lletter := F_Lletter, b_Lletter := b_Lletter, m_Lletter := PySem.W.mg_of X G x_Lletter, a_Lfirst := _, fd_Lfirst := _, F_Lfirst := F_Lfirst, b_Lfirst := b_Lfirst, m_Lfirst := PySem.W.mg_of X G x_Lfirst, a_law := _, fd_law := _, F_law := F_law, b_law := b_law, m_law := PySem.W.mg_of X G x_law, n_len := PySem.W.mg_none_of X G n_len, n_range := PySem.W.mg_none_of X G n_range, n_repr := PySem.W.mg_none_of X G n_repr, n_sorted := PySem.W.mg_none_of X G n_sorted}, rfl, fun s v => .of_eq rfl⟩
theorem law_end {l : PySem.W.OpenLaw} {w : World} {K : PySem.W.Frag} {mg : Str → Option Value} {fa : Addr} (h : ∃ T : Txt K mg, T.a_law = fa ∧ ∀ (s : Shared) (v : Value), BindsTo s T.fd_law ⟨[v], []⟩ [("_law_script", v)]) :
    ∃ fd : FuncData, (∀ (s : Shared) (v : Value), BindsTo s fd ⟨[v], []⟩ [("_law_script", v)]) ∧ ∀ base : Heap, K.In base → base.Ns mainGlobals mg → FnG l.prog w K mg base CX0 4 fa fd ["_law_script"] (spLaw K) := by
  obtain ⟨T, e, b⟩ := h
  subst e
  exact ⟨T.fd_law, b, fun _ _ _ => ok_law T (FZ := fun _ => True)⟩
end Cp
open PySem PySem.W PyProof.Rows
set_option maxRecDepth 100000 in
set_option maxHeartbeats 0 in
theorem PySem.Challenge.cw_counterpost_k05_letters_in_order_holds : PySem.Challenge.rw_counterpost_k05_letters_in_order.Holds := by
  w_on; o_law; k_head; (case hw => w_witness2)
  k_fill
  refine Cp.walk_ofG (l := PySem.Challenge.rw_counterpost_k05_letters_in_order) (n := 63) (k := 4) (x := "_law_script") (CX := fun _ => L2.CX0) (sp := fun w => Cp.spLaw _) rfl (by decide) rfl ⟨rfl, by decide, by decide⟩ (fun w h Y => PySem.W.kIn_of Y) ?F (fun _ _ a ns hl _ hS => ⟨a, ns, rfl, hS, hl, fun _ => rfl⟩) fun _ _ _ _ _ z => z
  case F =>
    intro w mg fa h KX G hmg
    refine Cp.law_end ?H
    refine' Cp.all_mk KX G hmg ?x_Lbegun ?l_Lbegun ?c_Lbegun ?k_Lbegun ?x_Ltake ?l_Ltake ?c_Ltake ?k_Ltake ?x_Lpick ?l_Lpick ?c_Lpick ?k_Lpick ?x_order ?l_order ?c_order ?k_order ?x_Lletter ?l_Lletter ?c_Lletter ?k_Lletter ?x_Lfirst ?l_Lfirst ?c_Lfirst ?k_Lfirst ?x_law ?l_law ?c_law ?k_law ?n_len ?n_range ?n_repr ?n_sorted
    (case x_Lbegun => k_is); (case l_Lbegun => k_is); (case c_Lbegun => k_is); (case k_Lbegun => k_is); (case x_Ltake => k_is); (case l_Ltake => k_is); (case c_Ltake => k_is); (case k_Ltake => k_is); (case x_Lpick => k_is); (case l_Lpick => k_is); (case c_Lpick => k_is); (case k_Lpick => k_is); (case x_order => k_is); (case l_order => k_is); (case c_order => k_is); (case k_order => k_is); (case x_Lletter => k_is); (case l_Lletter => k_is); (case c_Lletter => k_is); (case k_Lletter => k_is); (case x_Lfirst => k_is); (case l_Lfirst => k_is); (case c_Lfirst => k_is); (case k_Lfirst => k_is); (case x_law => k_is); (case l_law => k_is); (case c_law => k_is); (case k_law => k_is); (case n_len => k_is); (case n_range => k_is); (case n_repr => k_is); (case n_sorted => k_is)
#print axioms PySem.Challenge.cw_counterpost_k05_letters_in_order_holds
