import PyProof.Rows.All
import Wide.All
import OpenK.AllK
import Wide.FinOn
import HandS.ForMost
import HandS.ForExc
import HandS.AnyAll
import HandS.GenList
import HandS.TupAny
import HandS.TupMul
import HandS.RevRange
import HandS.Rev
import HandS.IsInst
import HandS.ExcSuper
import HandS.ExcField
import HandS.ExcIs
import HandS.Conv
import HandS.More
import HandS.Deep
import HandS.NoneIn
import HandS.HeadHook4
import HandS.HeadWalk
import HandS.Head2
import PySem.Challenge.RW_sameticks_k00_programs_refused
set_option Elab.async false
set_option linter.all false
set_option maxRecDepth 100000
set_option maxHeartbeats 1000000
/-! SG: all, any of a generator expression whose element is any expression of the layer. -/
namespace SKG
open PySem PySem.Spec PyProof.Rows L2 GxR GenW
/-- the context of the generator's frame -/
def gcx (X : Cx) (scope : Scope) (cl : List (Str × Addr)) (C : Addr) (code : Value) (A' : Around) (s0 : Shared) (H0 : Hp) (fp : List Addr) (pn : List (Addr × Obj)) : Cx where
  prog := X.prog
  w := X.w
  K := X.K
  mg := X.mg
  base := X.base
  A := A'
  N := X.N
  s_0 := s0
  H_0 := H0
  env := genEnv scope cl C code builtinsNs X.env
  outer := X.stack
  stack := genEnv scope cl C code builtinsNs X.env :: X.stack
  ex := fp
  fn := fun _ => false
  calm := true
  pn := pn
  xe := fun _ _ => False
/-- the generator's own loop code -/
abbrev gLoop (elt iter : Expr) (x : Str) (px pos : Pos) (scope : Scope) (I : Addr) (cenv : Env) : Code := .compLoop (.GeneratorExp elt [⟨.Name x px, iter, [], 0⟩] scope pos) 0 (.ref I) .none cenv
abbrev gStart (elt iter : Expr) (x : Str) (px pos : Pos) (scope : Scope) (I : Addr) (cenv : Env) : Code := .compStart (.GeneratorExp elt [⟨.Name x px, iter, [], 0⟩] scope pos) 0 (.ref I) .none cenv
theorem over_gLoop {A : Around} {elt iter : Expr} {x : Str} {px pos : Pos} {scope : Scope} {I : Addr} {cenv : Env} : A.over (gLoop elt iter x px pos scope I cenv) [] = A.deeper cenv := by
  first
    | rfl
    | (obtain ⟨hd, d, fr, gs, u⟩ := A; simp [Around.over, Around.deeper, marksOver, frameCount, unitsOf, envsOf, guardsOf, pushEnvs, pushGuards, Code.envs, Code.env?, Code.isFrame, Code.guards, Code.isGuard, Code.weight, Code.frames, Code.isCreation, Code.isCaller, Code.cUnits])
theorem over_gStart {A : Around} {elt iter : Expr} {x : Str} {px pos : Pos} {scope : Scope} {I : Addr} {cenv : Env} : A.over (gStart elt iter x px pos scope I cenv) [] = A.deeper cenv := by
  first
    | rfl
    | (obtain ⟨hd, d, fr, gs, u⟩ := A; simp [Around.over, Around.deeper, marksOver, frameCount, unitsOf, envsOf, guardsOf, pushEnvs, pushGuards, Code.envs, Code.env?, Code.isFrame, Code.guards, Code.isGuard, Code.weight, Code.frames, Code.isCreation, Code.isCaller, Code.cUnits])
/-- the generator expression's own scope -/
structure GS0 (N : List Str) (sc scope : Scope) (x : Str) (i : Nat) : Prop where
  kind : scope.kind = .function
  co : scope.isCoroutine = false
  cell : ∀ y ∈ scope.names, y.2 ≠ .cell
  dot : scope.names.lookup (".0" : Str) = some NameKind.local
  loc : scope.names.lookup x = some .local
  only : ∀ y ∈ scope.names, y.2 = .local → y.1 = x ∨ y.1 = (".0" : Str)
  kindF : ∀ y ∈ scope.names, y.2 = .free → sc.names.lookup y.1 = some .cell ∨ sc.names.lookup y.1 = some .free
  nd : N.Nodup
  at_ : N[i]? = some x
  nodot : (".0" : Str) ∉ N
structure GS (N : List Str) (env : Env) (scope : Scope) (x : Str) (i : Nat) : Prop where
  kind : scope.kind = .function
  co : scope.isCoroutine = false
  cell : ∀ y ∈ scope.names, y.2 ≠ .cell
  dot : scope.names.lookup (".0" : Str) = some NameKind.local
  loc : scope.names.lookup x = some .local
  only : ∀ y, scope.names.lookup y = some .local → y = x ∨ y = (".0" : Str)
  free : ∀ y ∈ scope.names, y.2 = .free → ∃ c, env.cells.lookup y.1 = some c
  kindF : ∀ y, scope.names.lookup y = some .free → env.scope.names.lookup y = some .cell ∨ env.scope.names.lookup y = some .free
  nd : N.Nodup
  at_ : N[i]? = some x
  nodot : (".0" : Str) ∉ N
theorem GS0.gs {X : Cx} {pins : List (Addr × Obj)} {σ : L2.St} {H : Hp} {s : Shared} {scope : Scope} {x : Str} {i : Nat} (S : GS0 X.N X.env.scope scope x i) (I : Inv X pins σ H s) : GS X.N X.env scope x i :=
  ⟨S.kind, S.co, S.cell, S.dot, S.loc, fun y h => S.only (y, .local) (PySem.mem_of_lookup h) rfl, fun y hy e => I.ok.has y.1 (S.kindF y hy e), fun y h => S.kindF (y, .free) (PySem.mem_of_lookup h) rfl, S.nd, S.at_, S.nodot⟩
section
variable {X : Cx} {pins : List (Addr × Obj)} {σ : L2.St} {H : Hp} {s s' : Shared} {scope : Scope} {x : Str} {i : Nat} {C : Addr} {code : Value} {A' : Around} {fp : List Addr} {pn : List (Addr × Obj)}
abbrev gcl (X : Cx) (scope : Scope) : List (Str × Addr) := cloFrom X.env.cells scope.names []
theorem gcl_cm (S : GS X.N X.env scope x i) {y : Str} {c : Addr} (e : (gcl X scope).lookup y = some c) : X.env.cells.lookup y = some c := by
  have hm := PySem.mem_of_lookup e
  rcases cloFrom_mem hm with z | ⟨z1, z2⟩
  · simp at z
  · obtain ⟨c', hc⟩ := S.free _ z1 rfl
    rw [hc] at z2
    rw [z2]
    exact hc
theorem gcl_has (S : GS X.N X.env scope x i) (hN : ∀ y, scope.names.lookup y = some .free → (y, NameKind.free) ∈ scope.names) {y : Str} (hy : scope.names.lookup y = some .free) : ∃ c, (gcl X scope).lookup y = some c := by
  have h := cloFrom_has (cells := X.env.cells) (acc := []) (hN y hy)
  cases e : (gcl X scope).lookup y with
  | some c => exact ⟨c, rfl⟩
  | none =>
    rw [List.lookup_eq_none_iff] at e
    have := e _ h
    simp at this
theorem gcx_inv (S : GS X.N X.env scope x i) (I : Inv X pins σ H s) (hfp : ∀ b ∈ fp, FpOk X pins H b) (hfo : ∀ b ∈ fp, ∃ o, s.heap.get? b = some o) (hC : s.heap.objs.size ≤ C) (hA : A'.handled = none) (hfr : A'.frames = some (genEnv scope (gcl X scope) C code builtinsNs X.env :: X.stack))
    (os : s'.os = s.os) (bare : AllBare s'.gens) (kp : ∀ b o, s.heap.get? b = some o → s'.heap.get? b = some o) {m : Str → Option Value} (ns : s'.heap.Ns C m)
    (hpn : ∀ p ∈ pn, s'.heap.get? p.1 = some p.2 ∧ s.heap.objs.size ≤ p.1 ∧ p.1 ≠ C ∧ ∀ v, p.2.data ≠ .cell v) : Inv (gcx X scope (gcl X scope) C code A' s H fp pn) [] (σ.set i none) H s' := by
  have e0 := I.env0
  have cb : ∀ y c, (gcl X scope).lookup y = some c → X.env.cells.lookup y = some c := fun y c e => gcl_cm S e
  have clt : ∀ y c, X.env.cells.lookup y = some c → c < s.heap.objs.size := fun y c e => by
    obtain ⟨v, o, ho, _⟩ := I.cell y c e
    exact Heap.lt_size ho
  have hN : ∀ y, scope.names.lookup y = some .free → (y, NameKind.free) ∈ scope.names := fun y h => PySem.mem_of_lookup h
  refine ⟨⟨I.ok.mod, S.kind, I.ok.glob, rfl, hC, fun y z c h1 h2 => I.ok.inj y z c (cb _ _ h1) (cb _ _ h2), fun y hy => ?_, fun y c h => (by cases h), fun _ => hA, hfr, .inr ⟨rfl, rfl⟩, fun b hb => ?_, e0.bs, e0.bsz, fun b o hb => ?_, fun b hb => ?_, e0.funs, e0.frf⟩,
    os, bare, Un.kept kp, ⟨m, ns, fun j y v h1 h2 h3 => ?_⟩, fun y c h => ?_, I.hok.fresh hC, fun y c h => ?_, fun p hp => ?_, I.hok.kept kp, ?_⟩
  · have hy : scope.names.lookup y = some .cell ∨ scope.names.lookup y = some .free := hy
    rcases hy with hy | hy
    · exact absurd rfl (S.cell _ (PySem.mem_of_lookup hy))
    · exact gcl_has S hN hy
  · obtain ⟨o, ho⟩ := hfo b hb
    have := Heap.lt_size ho
    exact ⟨Nat.ne_of_lt (Nat.lt_of_lt_of_le this hC), fun y c e => (hfp b hb).2.2.2.2.1 y c (cb y c e)⟩
  · intro hf
    obtain ⟨_, _, _, h4, _⟩ := hfp b hf
    rcases h4 with z | z
    · exact I.ok.noex b o hb z
    · have h1 := Heap.lt_size hb
      have h2 := I.ok.bsz
      have h3 : b < X.s_0.heap.objs.size := Nat.lt_of_lt_of_le h1 h2
      exact Nat.lt_irrefl _ (Nat.lt_of_lt_of_le h3 z)
  · intro hs
    obtain ⟨_, h2, h3, _⟩ := hfp b hb
    rcases List.mem_cons.mp (I.stkSub b hs) with z | z
    · exact h2 z
    · exact h3 z
  · have hji : j ≠ i := fun z => by
      subst z
      have hl : j < σ.length := by
        rcases Nat.lt_or_ge j σ.length with z | z
        · exact z
        · rw [List.getElem?_eq_none (by simpa using z)] at h2; cases h2
      rw [List.getElem?_set_self hl] at h2
      cases h2
    rw [List.getElem?_set_ne (fun z => hji z.symm)] at h2
    have hyN : y ∈ X.N := List.mem_of_getElem? h1
    rcases h3 with h3 | h3 | h3
    · rcases S.only y h3 with z | z
      · subst z
        exact absurd ((List.getElem?_inj (by have := (List.getElem?_eq_some_iff.mp h1).1; exact this) S.nd).mp (h1.trans S.at_.symm)) hji
      · subst z
        exact absurd hyN S.nodot
    · exact absurd rfl (S.cell _ (PySem.mem_of_lookup h3))
    · obtain ⟨m0, _, hl⟩ := I.loc
      have hk := S.kindF y h3
      obtain ⟨u, ru, look⟩ := hl j y v h1 h2 (hk.elim (fun z => .inr (.inl z)) fun z => .inr (.inr z))
      refine ⟨u, ru, .inr ⟨.inr h3, ?_⟩⟩
      obtain ⟨c0, hc0⟩ := gcl_has S hN h3
      rcases look with ⟨z, _⟩ | ⟨_, c, hc, hi⟩
      · have z : X.env.scope.names.lookup y = some .local := z
        rcases hk with k | k <;> (rw [k] at z; cases z)
      · have e := (cb y c0 hc0).symm.trans hc
        cases e
        obtain ⟨o, ho, hd⟩ := hi
        exact ⟨c0, hc0, o, kp _ _ ho, hd⟩
  · obtain ⟨v, o, ho, hd⟩ := I.cell y c (cb y c h)
    exact ⟨v, o, kp _ _ ho, hd⟩
  · exact I.freeC y c (cb y c h)
  · have hp' : p ∈ pn := by
      rcases List.mem_append.mp hp with z | z
      · exact z
      · simp at z
    obtain ⟨h1, h2, h3, h4⟩ := hpn p hp'
    refine ⟨h1, I.hok.fresh h2, h3, fun hs => ?_, h4⟩
    have : p.1 ∈ frs X.stack := hs
    rcases List.mem_cons.mp (I.stkSub p.1 this) with z | z
    · have := I.lt
      rw [← z] at this
      exact Nat.lt_irrefl _ (Nat.lt_of_lt_of_le this h2)
    · exact I.nofs h2 z
  · show (σ.set i none).length = X.N.length
    rw [List.length_set]
    exact I.len
/-! ### the turns -/
/-- m turns are left, the i-th comes: element by element until one is unlike allf -/
def GW (J : It) (te : TE) (allf : Bool) (sl : Nat) (σ : L2.St) (QE QF : Hp → Prop) : Nat → Nat → Hp → Prop
  | 0, i, H => J.stop i H ∧ QE H
  | m + 1, i, H => J.go i H ∧ ∀ x H1, J.yld i H x H1 → te (σ.set sl (some x)) H1 fun v H2 => ∃ b, v = .bl b ∧ if b = allf then GW J te allf sl σ QE QF m (i + 1) H2 else QF H2
/-- the state while the consumer has the word -/
structure Slp (s s' : Shared) : Prop where
  os : s'.os = s.os
  bare : AllBare s'.gens
  heap : s'.heap = s.heap
theorem Inv.slp {X : Cx} {pins : List (Addr × Obj)} {σ : L2.St} {H : Hp} {s s' : Shared} (I : Inv X pins σ H s) (z : Slp s s') : Inv X pins σ H s' := by
  obtain ⟨h1, h2, h3⟩ := z
  refine I.call' (ch := []) h1 (Un.kept fun b o e => by rw [h3]; exact e) (I.hok.kept fun b o e => by rw [h3]; exact e) h2 fun b hb => by simp at hb
def GYb (X' : Cx) (allf : Bool) (QF : Hp → Prop) : Protocol := fun n s₀ v s kap => ∃ (b : Bool) (σ : L2.St) (H : Hp), v = .bool b ∧ Inv X' [] σ H s ∧ if b = allf then ∀ s', Slp s s' → kap (.send .none) s' else QF H
def GRb (X' : Cx) (QE : Hp → Prop) : Nat → Shared → Shared → Prop := fun n s₀ s => ∃ (σ : L2.St) (H : Hp), Inv X' [] σ H s ∧ QE H
end
abbrev genv (X : Cx) (scope : Scope) (C : Addr) (code : Value) : Env := genEnv scope (gcl X scope) C code builtinsNs X.env
abbrev gX (X : Cx) (scope : Scope) (C : Addr) (code : Value) (AG : Around) (s0 : Shared) (H0 : Hp) (fp : List Addr) (pn : List (Addr × Obj)) : Cx := gcx X scope (gcl X scope) C code (AG.deeper (genv X scope C code)) s0 H0 fp pn
section
variable {X : Cx} {scope : Scope} {x : Str} {sl : Nat} {C : Addr} {code : Value} {AG : Around} {s0 : Shared} {H0 : Hp} {fp : List Addr} {pn : List (Addr × Obj)} {elt iter : Expr} {px gpos : Pos} {I : Addr} {tn : Nat → Heap → Prop} {J : It} {te : TE} {allf : Bool} {σ : L2.St} {QE QF : Hp → Prop}
theorem seg_gloop (S : GS X.N X.env scope x sl) (T : Turn X.prog X.w X.K (.Name x px) J fp I tn) (hel : PE (gX X scope C code AG s0 H0 fp pn) elt te)
    (hF : ∀ b ∈ fp, b ≠ C ∧ b ∉ frs X.stack ∧ (∀ y c, (gcl X scope).lookup y = some c → c ≠ b) ∧ ∀ p ∈ pn, p.1 ≠ b) :
    ∀ (m i : Nat) (s₀ s : Shared) (o : Option V) (H : Hp), Inv (gX X scope C code AG s0 H0 fp pn) [] (σ.set sl o) H s → tn i s.heap → (∀ b ∈ fp, H b = none) → GW J te allf sl σ QE QF m i H →
      Seg (model X.prog X.w) AG (fun n s₀ r s₁ => r = .ok .next ∧ GRb (gX X scope C code AG s0 H0 fp pn) QE n s₀ s₁) (GYb (gX X scope C code AG s0 H0 fp pn) allf QF) m s₀
        (gLoop elt iter x px gpos scope I (genv X scope C code)) ((model X.prog X.w).den (gLoop elt iter x px gpos scope I (genv X scope C code))) [] s := by
  have stat : ∀ {H : Hp}, (∀ b ∈ fp, H b = none) → ∀ b ∈ fp, FpOk (gX X scope C code AG s0 H0 fp pn) [] H b := fun hn b hb => by
    obtain ⟨h1, h2, h3, h4⟩ := hF b hb
    exact ⟨hn b hb, h1, h2, .inl hb, h3, fun p hp => h4 p (by
      rcases List.mem_append.mp hp with z | z
      · exact z
      · simp at z)⟩
  intro m
  induction m with
  | zero =>
    intro i s₀ s o H Iv st fr w
    obtain ⟨stop, qe⟩ := w
    show Seg _ AG _ _ _ s₀ _ ((compTurn (.GeneratorExp elt [⟨.Name x px, iter, [], 0⟩] scope gpos) 0 (.ref I) .none (genv X scope C code)).onRaise (leaving (genv X scope C code))) [] s
    rw [compTurn_gen, Sem.onRaise_eq_wrap]
    refine seg_bind_wrap (wpAny_standAt ?_)
    refine seg_bind_wrap ?_
    rw [over_gLoop]
    refine wpAny_mono (T.done (gX X scope C code AG s0 H0 fp pn) rfl rfl rfl rfl i [] s _ H (fun _ _ => False) Iv (stat fr) st stop) (fun r s1 ⟨hr, I1⟩ => ?_) fun _ _ z => z.elim
    subst hr
    exact seg_end (.ok .next) ⟨rfl, _, _, I1, qe⟩
  | succ m ih =>
    intro i s₀ s o H Iv st fr w
    obtain ⟨go, step⟩ := w
    show Seg _ AG _ _ _ s₀ _ ((compTurn (.GeneratorExp elt [⟨.Name x px, iter, [], 0⟩] scope gpos) 0 (.ref I) .none (genv X scope C code)).onRaise (leaving (genv X scope C code))) [] s
    rw [compTurn_gen, Sem.onRaise_eq_wrap]
    refine seg_bind_wrap (wpAny_standAt ?_)
    refine seg_bind_wrap ?_
    rw [over_gLoop]
    refine wpAny_mono (T.item (gX X scope C code AG s0 H0 fp pn) rfl rfl rfl rfl i [] s _ H (fun _ _ => False) Iv (stat fr) st go) (fun r s1 ⟨u, hr, h1⟩ => ?_) fun _ _ z => z.elim
    subst hr
    refine seg_bind_wrap ?_
    rw [over_gLoop]
    refine wpAny_mono h1 (fun _ s2 ⟨xv, H2, I2, rv, yl, st2, fr2⟩ => ?_) fun _ _ z => z.elim
    have I2' := I2.pinned (stat fr2) (T.obj _ _ st2)
    refine seg_bind_wrap ?_
    rw [over_gLoop]
    have hg := pg_name (X := gX X scope C code AG s0 H0 fp pn) (pos := px) (i := sl) S.nd S.at_ (.inl S.loc) (.inr S.loc)
    have q := step xv H2 yl
    refine wpAny_mono (hg.run _ s2 _ H2 xv u (fun σ' H' => σ' = σ.set sl (some xv) ∧ H' = H2) I2' rv ⟨by rw [List.set_set], rfl⟩) (fun _ s3 ⟨σ3, H3, I3, hσ, hH⟩ => ?_) fun _ _ (z : False) => z.elim
    subst hσ
    subst hH
    refine seg_bind_wrap ?_
    simp only [List.forIn_nil]
    refine wpAny_pure ?_
    simp only [if_true]
    have hy : ∀ v, yieldOut (genv X scope C code) v = yieldValue v := fun v => by
      have : (genv X scope C code).scope.isCoroutine = false := S.co
      simp only [yieldOut, this, Bool.false_eq_true, if_false]
    simp only [hy]
    rw [Sem.bind_eq_wrap', Sem.bind_eq_wrap', Sem.wrap_wrap, Sem.wrap_wrap]
    refine seg_wrap ?_
    rw [over_gLoop]
    refine wpAny_mono (hel.run _ s3 _ H3 (fun v H4 => ∃ b, v = .bl b ∧ if b = allf then GW J te allf sl σ QE QF m (i + 1) H4 else QF H4) I3 q) (fun uv s4 ⟨v, H4, I4, r4, b, hb, q4⟩ => ?_) fun _ _ (z : False) => z.elim
    subst hb
    obtain rfl : uv = Value.bool b := r4
    have st4 : tn (i + 1) s4.heap := T.keep _ _ _ st2 fun b hb o e => (I4.pin (b, o) (List.mem_append_right _ (List.mem_append_right _ (mem_pinsAt hb e)))).1
    have fr4 : ∀ b ∈ fp, H4 b = none := fun b hb => by
      obtain ⟨o, e, d⟩ := T.obj _ _ st2 b hb
      exact (I4.pin (b, o) (List.mem_append_right _ (List.mem_append_right _ (mem_pinsAt hb e)))).2.1
    have I4' := I4.unpinned
    refine seg_at (seg_yield rfl rfl rfl ⟨b, _, H4, rfl, I4', ?_⟩)
    by_cases hb : b = allf
    · rw [if_pos hb] at q4 ⊢
      intro s5 z
      exact seg_again rfl (ih (i + 1) s5 s5 _ H4 (Inv.slp I4' z) (by rw [z.heap]; exact st4) fr4 q4)
    · rw [if_neg hb] at q4 ⊢
      exact q4
theorem seg_gstart (S : GS X.N X.env scope x sl) (T : Turn X.prog X.w X.K (.Name x px) J fp I tn) (hel : PE (gX X scope C code AG s0 H0 fp pn) elt te)
    (hF : ∀ b ∈ fp, b ≠ C ∧ b ∉ frs X.stack ∧ (∀ y c, (gcl X scope).lookup y = some c → c ≠ b) ∧ ∀ p ∈ pn, p.1 ≠ b) (m : Nat) (s₀ s : Shared) (o : Option V) (H : Hp) (Iv : Inv (gX X scope C code AG s0 H0 fp pn) [] (σ.set sl o) H s) (st : tn 0 s.heap) (fr : ∀ b ∈ fp, H b = none) (w : GW J te allf sl σ QE QF m 0 H) :
      Seg (model X.prog X.w) AG (fun n s₀ r s₁ => r = .ok .next ∧ GRb (gX X scope C code AG s0 H0 fp pn) QE n s₀ s₁) (GYb (gX X scope C code AG s0 H0 fp pn) allf QF) m s₀
        (gStart elt iter x px gpos scope I (genv X scope C code)) ((model X.prog X.w).den (gStart elt iter x px gpos scope I (genv X scope C code))) [] s := by
  have loop := seg_gloop (iter := iter) (gpos := gpos) S T hel hF m 0 s₀ s o H Iv st fr w
  show Seg _ AG _ _ _ s₀ _ ((compStart (.GeneratorExp elt [⟨.Name x px, iter, [], 0⟩] scope gpos) 0 (.ref I) .none (genv X scope C code)).onRaise (leaving (genv X scope C code))) [] s
  unfold compStart
  rw [Sem.onRaise_eq_wrap]
  show Seg _ AG _ _ _ s₀ _ ((ask >>= _).wrap _ _ _ _) [] s
  refine seg_bind_wrap (wpAny_askSetting ?_)
  split
  · exact seg_again rfl loop
  · first
      | exact seg_bind_wrap (wpAny_rule (seg_bind_wrap (wpAny_standAt (seg_bind_wrap (T.self _ 0 s _ _ st (seg_again rfl loop))))))
      | (refine seg_bind_wrap (wpAny_rule ?_); show Seg _ AG _ _ _ s₀ _ ((standAt iter.pos >>= _).wrap _ _ _ _) [] s; exact seg_bind_wrap (wpAny_standAt (seg_bind_wrap (T.self _ 0 s _ _ st (seg_again rfl loop)))))
end
theorem all_gloop {X' : Cx} {A : Around} {a : Addr} {g : Nat} {QE QF : Hp → Prop} {Rz : Result → Shared → Prop} (hh : A.handled = none) (hd : A.depth < recursionLimit) (hgen : ∀ σ H s, Inv X' [] σ H s → s.heap.IsGen a g)
    (hend : ∀ σ H s, Inv X' [] σ H s → QE H → Rz (.ok (.ret (.bool true))) s) (hout : ∀ σ H s, Inv X' [] σ H s → QF H → Rz (.ok (.ret (.bool false))) s) :
    ∀ (m : Nat) (s : Shared), s.heap.IsGen a g → s.heap.NoLimit → (∃ gs, s.gens[g]? = some gs ∧ gs.Goes (model X'.prog X'.w) A.in1.in1 (fun n s₀ r s₁ => r = .ok .next ∧ GRb X' QE n s₀ s₁) (GYb X' true QF) m (.send .none) (s.setGen g .running)) →
      codeAny (model X'.prog X'.w) A (.builtin "all.loop" ⟨[.ref a], []⟩) Rz s := by
  intro m
  induction m with
  | zero =>
    intro s hg hl ⟨gs, hgs, hgo⟩
    refine codeAny_builtin F.entry_all_loop ?_
    rw [Around.under_plainId F.plain_all_loop _]
    show wpAny _ A.in1 (pyNext (.ref a) >>= _) _ _ s
    refine wpAny_bind (wpAny_pyNext_genexpQ (A := A.in1) (P := GRb X' QE) hh hl hd hg hgs hgo (fun v s₁ gs' hbare hv => ?_) (fun s₁ hp h' hk => ?_))
    · obtain ⟨b, σ, H, rfl, I1, q⟩ := hv
      by_cases hb : b = true
      · rw [if_pos hb] at q
        exact (q s₁ ⟨rfl, I1.bare, rfl⟩).elim
      · rw [if_neg hb] at q
        have hb : b = false := by simpa using hb
        subst hb
        refine wpAny_bind (wpAny_holding (wpAny_truthy_bool ?_))
        refine wpAny_bind (wpAny_letGo ?_)
        simp only [Bool.false_eq_true, if_false]
        refine wpAny_bind (wpAny_rule (wpAny_pure ?_))
        exact hout _ _ _ (Inv.slp I1 ⟨rfl, allBare_setGen I1.bare hbare, rfl⟩) q
    · obtain ⟨σ, H, I1, q⟩ := hp
      refine wpAny_bind (wpAny_rule (wpAny_pure ?_))
      exact hend σ H _ (I1.call' (ch := []) rfl (Un.kept hk) (I1.hok.kept hk) (allBare_setGen I1.bare rfl) fun b hb => by simp at hb) q
  | succ m ih =>
    intro s hg hl ⟨gs, hgs, hgo⟩
    have hgl : g < s.gens.size := (Array.getElem?_eq_some_iff.mp hgs).1
    refine codeAny_builtin F.entry_all_loop ?_
    rw [Around.under_plainId F.plain_all_loop _]
    show wpAny _ A.in1 (pyNext (.ref a) >>= _) _ _ s
    refine wpAny_bind (wpAny_gsz (n := g + 1) hgl (wpAny_pyNext_genexpQ (A := A.in1) (P := GRb X' QE) hh hl hd hg hgs hgo (fun v s₁ gs' hbare hv => ?_) (fun s₁ hp h' hk => ?_)))
    · intro hsz
      obtain ⟨b, σ, H, rfl, I1, q⟩ := hv
      have hsz1 : g < s₁.gens.size := by
        have q : (s₁.setGen g gs').gens.size = s₁.gens.size := setGen_size _ _ _
        have hsz' : g + 1 ≤ (s₁.setGen g gs').gens.size := hsz
        omega
      have I2 := Inv.slp I1 (s' := s₁.setGen g gs') ⟨rfl, allBare_setGen I1.bare hbare, rfl⟩
      refine wpAny_bind (wpAny_holding (wpAny_truthy_bool ?_))
      refine wpAny_bind (wpAny_letGo ?_)
      by_cases hb : b = true
      · rw [if_pos hb] at q
        subst hb
        simp only [if_true]
        refine wpAny_pure ⟨plainId_quiet F.plain_all_loop _, ih (s₁.setGen g gs') (hgen _ _ _ I2) I2.nolimit ⟨gs', setGen_at hsz1, ?_⟩⟩
        exact q _ ⟨rfl, allBare_setGen (s := s₁.setGen g gs') (allBare_setGen I1.bare hbare) rfl, rfl⟩
      · rw [if_neg hb] at q
        have hb : b = false := by simpa using hb
        subst hb
        simp only [Bool.false_eq_true, if_false]
        refine wpAny_bind (wpAny_rule (wpAny_pure ?_))
        exact hout _ _ _ I2 q
    · intro hsz
      obtain ⟨σ, H, I1, q⟩ := hp
      refine wpAny_bind (wpAny_rule (wpAny_pure ?_))
      exact hend σ H _ (I1.call' (ch := []) rfl (Un.kept hk) (I1.hok.kept hk) (allBare_setGen I1.bare rfl) fun b hb => by simp at hb) q
theorem any_gloop {X' : Cx} {A : Around} {a : Addr} {g : Nat} {QE QF : Hp → Prop} {Rz : Result → Shared → Prop} (hh : A.handled = none) (hd : A.depth < recursionLimit) (hgen : ∀ σ H s, Inv X' [] σ H s → s.heap.IsGen a g)
    (hend : ∀ σ H s, Inv X' [] σ H s → QE H → Rz (.ok (.ret (.bool false))) s) (hout : ∀ σ H s, Inv X' [] σ H s → QF H → Rz (.ok (.ret (.bool true))) s) :
    ∀ (m : Nat) (s : Shared), s.heap.IsGen a g → s.heap.NoLimit → (∃ gs, s.gens[g]? = some gs ∧ gs.Goes (model X'.prog X'.w) A.in1.in1 (fun n s₀ r s₁ => r = .ok .next ∧ GRb X' QE n s₀ s₁) (GYb X' false QF) m (.send .none) (s.setGen g .running)) →
      codeAny (model X'.prog X'.w) A (.builtin "any.loop" ⟨[.ref a], []⟩) Rz s := by
  intro m
  induction m with
  | zero =>
    intro s hg hl ⟨gs, hgs, hgo⟩
    refine codeAny_builtin F.entry_any_loop ?_
    rw [Around.under_plainId F.plain_any_loop _]
    show wpAny _ A.in1 (pyNext (.ref a) >>= _) _ _ s
    refine wpAny_bind (wpAny_pyNext_genexpQ (A := A.in1) (P := GRb X' QE) hh hl hd hg hgs hgo (fun v s₁ gs' hbare hv => ?_) (fun s₁ hp h' hk => ?_))
    · obtain ⟨b, σ, H, rfl, I1, q⟩ := hv
      by_cases hb : b = false
      · rw [if_pos hb] at q
        exact (q s₁ ⟨rfl, I1.bare, rfl⟩).elim
      · rw [if_neg hb] at q
        have hb : b = true := by simpa using hb
        subst hb
        refine wpAny_bind (wpAny_holding (wpAny_truthy_bool ?_))
        refine wpAny_bind (wpAny_letGo ?_)
        simp only [if_true]
        refine wpAny_bind (wpAny_rule (wpAny_pure ?_))
        exact hout _ _ _ (Inv.slp I1 ⟨rfl, allBare_setGen I1.bare hbare, rfl⟩) q
    · obtain ⟨σ, H, I1, q⟩ := hp
      refine wpAny_bind (wpAny_rule (wpAny_pure ?_))
      exact hend σ H _ (I1.call' (ch := []) rfl (Un.kept hk) (I1.hok.kept hk) (allBare_setGen I1.bare rfl) fun b hb => by simp at hb) q
  | succ m ih =>
    intro s hg hl ⟨gs, hgs, hgo⟩
    have hgl : g < s.gens.size := (Array.getElem?_eq_some_iff.mp hgs).1
    refine codeAny_builtin F.entry_any_loop ?_
    rw [Around.under_plainId F.plain_any_loop _]
    show wpAny _ A.in1 (pyNext (.ref a) >>= _) _ _ s
    refine wpAny_bind (wpAny_gsz (n := g + 1) hgl (wpAny_pyNext_genexpQ (A := A.in1) (P := GRb X' QE) hh hl hd hg hgs hgo (fun v s₁ gs' hbare hv => ?_) (fun s₁ hp h' hk => ?_)))
    · intro hsz
      obtain ⟨b, σ, H, rfl, I1, q⟩ := hv
      have hsz1 : g < s₁.gens.size := by
        have q : (s₁.setGen g gs').gens.size = s₁.gens.size := setGen_size _ _ _
        have hsz' : g + 1 ≤ (s₁.setGen g gs').gens.size := hsz
        omega
      have I2 := Inv.slp I1 (s' := s₁.setGen g gs') ⟨rfl, allBare_setGen I1.bare hbare, rfl⟩
      refine wpAny_bind (wpAny_holding (wpAny_truthy_bool ?_))
      refine wpAny_bind (wpAny_letGo ?_)
      by_cases hb : b = false
      · rw [if_pos hb] at q
        subst hb
        simp only [Bool.false_eq_true, if_false]
        refine wpAny_pure ⟨plainId_quiet F.plain_any_loop _, ih (s₁.setGen g gs') (hgen _ _ _ I2) I2.nolimit ⟨gs', setGen_at hsz1, ?_⟩⟩
        exact q _ ⟨rfl, allBare_setGen (s := s₁.setGen g gs') (allBare_setGen I1.bare hbare) rfl, rfl⟩
      · rw [if_neg hb] at q
        have hb : b = true := by simpa using hb
        subst hb
        simp only [if_true]
        refine wpAny_bind (wpAny_rule (wpAny_pure ?_))
        exact hout _ _ _ I2 q
    · intro hsz
      obtain ⟨σ, H, I1, q⟩ := hp
      refine wpAny_bind (wpAny_rule (wpAny_pure ?_))
      exact hend σ H _ (I1.call' (ch := []) rfl (Un.kept hk) (I1.hok.kept hk) (allBare_setGen I1.bare rfl) fun b hb => by simp at hb) q
section
variable {X : Cx} {pins : List (Addr × Obj)} {σ : L2.St} {H : Hp} {s : Shared} {scope : Scope} {x : Str} {sl : Nat} {elt iter : Expr} {px gpos : Pos} {te : TE} {wi : TI} {allf : Bool} {k : Nat} {c P : Addr}
/-- what stands behind the making -/
def Made (X : Cx) (pins : List (Addr × Obj)) (σ : L2.St) (allf : Bool) (Q : VK) (g : Addr) (s5 : Shared) : Prop :=
  ∃ (X' : Cx) (gn m : Nat) (QE QF : Hp → Prop), X'.prog = X.prog ∧ X'.w = X.w ∧ (∀ σ H s, Inv X' [] σ H s → s.heap.IsGen g gn) ∧ s5.heap.IsGen g gn ∧ s5.heap.NoLimit ∧
    (∃ gs, s5.gens[gn]? = some gs ∧ gs.Goes (model X.prog X.w) X.A.in1.in1 (fun n s₀ r s₁ => r = .ok .next ∧ GRb X' QE n s₀ s₁) (GYb X' allf QF) m (.send .none) (s5.setGen gn .running)) ∧
    (∀ σ' H' s', Inv X' [] σ' H' s' → QE H' → EP X pins σ Q (.bool allf) s') ∧ ∀ σ' H' s', Inv X' [] σ' H' s' → QF H' → EP X pins σ Q (.bool (!allf)) s'
def tGen (P : Addr) (allf : Bool) (sl : Nat) (wi : TI) (te : TE) : TE := fun σ H Q => wi σ H fun J H1 => TabG H1 P ∧ ∀ H2, Tabbed P H1 H2 → ∃ m, GW J te allf sl σ (fun H3 => Q (.bl allf) H3) (fun H3 => Q (.bl (!allf)) H3) m 0 H2
theorem gen_make (hc : X.calm = true) (hr : Room (k + 1) X.A) (TB : TabB X.base X.mg c P) (hcode : X.env.code = .ref c) (S0 : GS0 X.N X.env.scope scope x sl) (hi : PI X (.Name x px) iter wi)
    (hel : ∀ (A' : Around) (C : Addr) (code : Value) (s0 : Shared) (H0 : Hp) (fp : List Addr) (pn : List (Addr × Obj)), Room k (A'.deeper (genv X scope C code)) → PE (gX X scope C code A' s0 H0 fp pn) elt te)
    (hs : ∀ v, genFold iter X.env v = pure v) (I : Inv X pins σ H s) {Q : VK} (h : tGen P allf sl wi te σ H Q) {Q' : Value → Shared → Prop} (hQ : ∀ g s5, Made X pins σ allf Q g s5 → Q' (.ref g) s5) :
    wpAny (model X.prog X.w) X.A (eval (.GeneratorExp elt [⟨.Name x px, iter, [], 0⟩] scope gpos) X.env) Q' X.xe s := by
  have S := S0.gs I
  refine wpAny_GeneratorExp_make S.co (closure_ok S.free) S.cell S.dot S.kind (by have := hr.dp; omega) ?_ hs
  refine thn (hi.run pins s σ H _ I h) fun xv s1 h1 => thn h1 fun itv s2 h2 => ?_
  obtain ⟨it, fp, tn, J, H2, e, I2, T, st2, f2, ⟨ps, hP, ht⟩, w⟩ := h2
  subst e
  have hPs : s2.heap.get? P = some { cls := .none, data := .fields ps } := I2.hok P _ hP
  have cd : PySem.W.CodeHd s2.heap c P := TB.code.keeps fun b u e => I2.bk b u e
  have fo : ∀ b ∈ fp, ∃ o, s2.heap.get? b = some o := fun b hb => let ⟨o, e, _⟩ := T.obj _ _ st2 b hb; ⟨o, e⟩
  have fP : ∀ b ∈ fp, b ≠ P := fun b hb z => by
    have := (f2 b hb).1
    rw [z, hP] at this
    cases this
  have cont : ∀ (code : Value) (h3 : Heap) (tk : Nat) (ps' : Array Value), Heap.ExtBut P s2.heap h3 → s2.heap.objs.size ≤ h3.objs.size → h3.get? P = some { cls := .none, data := .fields ps' } → (∃ more, ps' = ps ++ more) → TriplesOk ps'.toList →
      wpAny (model X.prog X.w) X.A (builtinsFor X.env.globals X.env.builtins) (fun bi s₄ =>
        ∀ h', h'.Ns s₄.heap.objs.size (fun y => if y = ".0" then some (.ref it) else none) → Heap.SameBut s₄.heap.objs.size (s₄.heap.push { cls := .type "frame", data := .dict #[] }) h' →
          Q' (.ref h'.objs.size) { s₄ with
            gens := s₄.gens.push (.fresh (.compStart (.GeneratorExp elt [⟨.Name x px, iter, [], 0⟩] scope gpos) 0 (.ref it) .none (genEnv scope (gcl X scope) s₄.heap.objs.size code bi X.env))),
            toks := s₄.toks + 1 + 1 + 1,
            heap := h'.push { cls := .type "generator", data := .fields #[.int s₄.gens.size 0, .str "<genexpr>" (s₄.toks + 1), .str (X.env.qual ++ "<genexpr>") (s₄.toks + 1 + 1)] } }) X.xe { s2 with heap := h3, toks := tk } := by
    intro code h3 tk ps' hx hsz hP3 hmore ht3
    obtain ⟨bm, ob, e1, e2, e3, e4, e5, e6, e7, e8⟩ := TB.bm
    have keep3 : ∀ b u, b ≠ P → s2.heap.get? b = some u → h3.get? b = some u := fun b u hb e => hx b u hb e
    refine wpAny_builtinsFor (m := X.mg) (by rw [I2.ok.glob]; exact (I2.mod.glob.keeps I2.bk).extBut hx TB.gP) e1 e2 (keep3 _ _ e4 (I2.bk _ _ e5)) e6 e7 e8 ?_
    intro h' ns sb
    obtain ⟨more, em⟩ := hmore
    have I3 : Inv X pins σ (upd H2 P (.tbl (ps ++ more))) { s2 with heap := h3, toks := tk } := inv_tab (more := more) (h' := h3) (g' := s2.gens) (d' := s2.drawn) (t' := tk) I2 hP keep3 (by rw [← em]; exact hP3) I2.bare
    have T3 : Tabbed P H2 (upd H2 P (.tbl (ps ++ more))) := ⟨⟨ps ++ more, upd_same, by rw [← em]; exact ht3⟩, fun b hb => upd_ne hb⟩
    have st3 : tn 0 h3 := T.keep _ _ _ st2 fun b hb o e => keep3 b o (fP b hb) e
    have f3 : ∀ b ∈ fp, FpOk X pins (upd H2 P (.tbl (ps ++ more))) b := fun b hb => ⟨by rw [upd_ne (fP b hb)]; exact (f2 b hb).1, (f2 b hb).2⟩
    have fo3 : ∀ b ∈ fp, ∃ o, h3.get? b = some o := fun b hb => let ⟨o, e⟩ := fo b hb; ⟨o, keep3 b o (fP b hb) e⟩
    obtain ⟨m, wm⟩ := w _ T3
    have hszh : h'.objs.size = h3.objs.size + 1 := by rw [sb.1, Heap.size_push]
    have kp' : ∀ b o, h3.get? b = some o → h'.get? b = some o := fun b o e => sb.extBut b o (Nat.ne_of_lt (Heap.lt_size e)) (Heap.get?_push_of_some _ e)
    let go : Obj := { cls := .type "generator", data := .fields #[.int s2.gens.size 0, .str "<genexpr>" (tk + 1), .str (X.env.qual ++ "<genexpr>") (tk + 1 + 1)] }
    have hgo : ∀ h : Heap, h.get? h'.objs.size = some go → h.IsGen h'.objs.size s2.gens.size := fun h e => ⟨go, _, _, e, rfl, rfl, rfl⟩
    have hpush : (h'.push go).get? h'.objs.size = some go := Heap.get?_push_size _ rfl
    have kp5 : ∀ b o, h3.get? b = some o → (h'.push go).get? b = some o := fun b o e => Heap.get?_push_of_some _ (kp' b o e)
    have AGh : X.A.in1.in1.handled = none := I2.ok.hd hc
    have hfr : (X.A.in1.in1.deeper (genv X scope h3.objs.size code)).frames = some (genv X scope h3.objs.size code :: X.stack) := Around.frames_deeper (show X.A.in1.in1.frames = some X.stack from I2.ok.frames)
    have gI : ∀ (s6 : Shared), s6.heap = h'.push go → s6.os = s2.os → AllBare s6.gens → Inv (gX X scope h3.objs.size code X.A.in1.in1 { s2 with heap := h3, toks := tk } (upd H2 P (.tbl (ps ++ more))) fp [(h'.objs.size, go)]) [] (σ.set sl none) (upd H2 P (.tbl (ps ++ more))) s6 := fun s6 e6 eo eb => by
      refine gcx_inv (s' := s6) S I3 f3 fo3 (Nat.le_refl _) (show (X.A.in1.in1.deeper _).handled = none from AGh) hfr eo eb (fun b o e => by rw [e6]; exact kp5 b o e) (m := fun y => if y = ".0" then some (.ref it) else none) (by rw [e6]; exact ns.push _) fun p hp => ?_
      rw [List.mem_singleton.mp hp]
      refine ⟨by rw [e6]; exact hpush, ?_, ?_, fun v q => by cases q⟩
      · show h3.objs.size ≤ h'.objs.size
        omega
      · show h'.objs.size ≠ h3.objs.size
        omega
    have hroom : Room k (X.A.in1.in1.deeper (genv X scope h3.objs.size code)) := ⟨AGh, by have := hr.dp; show X.A.depth + 1 + 3 * k + 5 < _; omega, by have := hr.un; show X.A.units + 1 + 1 + 3 + 16 * k + 200 < _; omega⟩
    have pinned : ∀ σ' H' s', Inv (gX X scope h3.objs.size code X.A.in1.in1 { s2 with heap := h3, toks := tk } (upd H2 P (.tbl (ps ++ more))) fp [(h'.objs.size, go)]) [] σ' H' s' → s'.heap.IsGen h'.objs.size s2.gens.size := fun σ' H' s' J => hgo _ (J.pin (h'.objs.size, go) (List.mem_append_left _ (List.mem_singleton.mpr rfl))).1
    have hF : ∀ b ∈ fp, b ≠ h3.objs.size ∧ b ∉ frs X.stack ∧ (∀ y c, (gcl X scope).lookup y = some c → c ≠ b) ∧ ∀ p ∈ [(h'.objs.size, go)], p.1 ≠ b := fun b hb => by
      obtain ⟨o, ho⟩ := fo3 b hb
      have hlt : b < h3.objs.size := Heap.lt_size ho
      refine ⟨Nat.ne_of_lt hlt, fun z => ?_, fun y c e => (f3 b hb).2.2.2.2.1 y c (gcl_cm S e), fun p hp => ?_⟩
      · rcases List.mem_cons.mp (I3.stkSub b z) with z | z
        · exact (f3 b hb).2.1 z
        · exact (f3 b hb).2.2.1 z
      · rw [List.mem_singleton.mp hp]
        have h9 : b < h'.objs.size := by rw [hszh]; exact Nat.lt_succ_of_lt hlt
        exact Nat.ne_of_gt h9
    have back : ∀ (Qb : VK) (u : Bool) σ' H' s', Inv (gX X scope h3.objs.size code X.A.in1.in1 { s2 with heap := h3, toks := tk } (upd H2 P (.tbl (ps ++ more))) fp [(h'.objs.size, go)]) [] σ' H' s' → Qb (.bl u) H' → EP X pins σ Qb (.bool u) s' := fun Qb u σ' H' s' J q =>
      ⟨.bl u, H', I3.call' (ch := fp) J.os J.base J.hok J.bare (fun b hb => ⟨(f3 b hb).2.2.2.1, (f3 b hb).2.1, (f3 b hb).2.2.2.2.1, (f3 b hb).2.2.2.2.2⟩), rfl, q⟩
    refine hQ _ _ ⟨gX X scope h3.objs.size code X.A.in1.in1 { s2 with heap := h3, toks := tk } (upd H2 P (.tbl (ps ++ more))) fp [(h'.objs.size, go)], s2.gens.size, m, (fun H3 => Q (.bl allf) H3), (fun H3 => Q (.bl (!allf)) H3), rfl, rfl, pinned, hgo _ hpush, ?_, ⟨_, Array.getElem?_push_size .., rfl, ?_⟩, back Q allf, back Q (!allf)⟩
    · exact I3.nolimit.keeps kp5
    · refine seg_gstart (o := none) S T (hel _ _ _ _ _ _ _ hroom) hF m _ _ _ (gI _ rfl rfl (allBare_setGen (s := { s2 with gens := s2.gens.push _, toks := _, heap := _ }) (AllBare.push I2.bare rfl) rfl)) ?_ (fun b hb => (f3 b hb).1) ?_
      · exact T.keep _ _ _ st3 fun b hb o e => kp5 b o e
      · exact wm
  refine ⟨I2.nolimit, ?_⟩
  cases hf : codeAmong gpos ps.toList with
  | none =>
    refine wpAny_genexprCodeX hcode (cd.code hPs ht) (cd.tab hPs) hf fun c' h' tk hx hge hlt hco' _ htab' _ => ?_
    obtain ⟨o1, vs, f1, tf, fl, tg, inF, tx, tt, op, _, _, _, _, _, _, _, _, _, htr, _⟩ := hco'
    exact cont _ h' tk _ hx (Nat.le_trans hge (Nat.le_of_lt hlt)) htab'.2 ⟨_, rfl⟩ htr
  | some cv =>
    refine wpAny_genexprCode_hit hcode (cd.code hPs ht) hf ?_
    exact cont cv s2.heap s2.toks ps (Heap.ExtBut.refl _ _) (Nat.le_refl _) hPs ⟨#[], by simp⟩ ht
theorem pe_allG {p pos : Pos} (hc : X.calm = true) (hr : Room (k + 1) X.A) (hg : Gl X "all") (hm : X.mg "all" = none) (hb : bootBuiltins "all" = some (.builtin "all")) (TB : TabB X.base X.mg c P) (hcode : X.env.code = .ref c) (S0 : GS0 X.N X.env.scope scope x sl) (hi : PI X (.Name x px) iter wi)
    (hel : ∀ (A' : Around) (C : Addr) (code : Value) (s0 : Shared) (H0 : Hp) (fp : List Addr) (pn : List (Addr × Obj)), Room k (A'.deeper (genv X scope C code)) → PE (gX X scope C code A' s0 H0 fp pn) elt te)
    (hs : ∀ v, genFold iter X.env v = pure v)
    (he : starEach [.GeneratorExp elt [⟨.Name x px, iter, [], 0⟩] scope gpos] X.env = (false, eval (.GeneratorExp elt [⟨.Name x px, iter, [], 0⟩] scope gpos) X.env) :: starEach [] X.env := by rfl) :
    PE X (.Call (.Name "all" p) [.GeneratorExp elt [⟨.Name x px, iter, [], 0⟩] scope gpos] [] pos) (tGen P true sl wi te) := by
  refine ⟨fun pins s σ H Q I h => ?_⟩
  refine wpAny_Call_Name_kw (ld_blt I hg hm hb ?_)
  refine PyProof.Rows.callWith_builtin1 ?_ he (by rfl)
  rw [he]
  show wpAny _ _ (spliced ((false, eval (.GeneratorExp elt [⟨.Name x px, iter, [], 0⟩] scope gpos) X.env) :: backTo pos (starEach [] X.env))) _ _ s
  refine Calls.spliced_cons (gen_make hc hr TB hcode S0 hi hel hs I h fun a s5 hG => ?_)
  obtain ⟨X', gn, m, QE, QF, e1, e2, hgen, hg5, hl5, hgs, hend, hout⟩ := hG
  refine Calls.spliced_nil ?_
  rw [← e1, ← e2] at hgs ⊢
  refine call_function_tree F.kind_all F.plain_all F.entry_all (F.args_all1 _) ?_
  unfold Builtin.«all»
  refine wpAny_bind (m := oneArg "all" _) (wpAny_pure ?_)
  refine wpAny_bind (wpAny_pyIter_gen hg5 ?_)
  exact wpAny_pure ⟨plainId_quiet F.plain_all_loop _, all_gloop (A := X.A) hr.hd (by have := hr.dp; show X.A.depth < _; omega) hgen hend hout m s5 hg5 hl5 hgs⟩
theorem pe_anyG {p pos : Pos} (hc : X.calm = true) (hr : Room (k + 1) X.A) (hg : Gl X "any") (hm : X.mg "any" = none) (hb : bootBuiltins "any" = some (.builtin "any")) (TB : TabB X.base X.mg c P) (hcode : X.env.code = .ref c) (S0 : GS0 X.N X.env.scope scope x sl) (hi : PI X (.Name x px) iter wi)
    (hel : ∀ (A' : Around) (C : Addr) (code : Value) (s0 : Shared) (H0 : Hp) (fp : List Addr) (pn : List (Addr × Obj)), Room k (A'.deeper (genv X scope C code)) → PE (gX X scope C code A' s0 H0 fp pn) elt te)
    (hs : ∀ v, genFold iter X.env v = pure v)
    (he : starEach [.GeneratorExp elt [⟨.Name x px, iter, [], 0⟩] scope gpos] X.env = (false, eval (.GeneratorExp elt [⟨.Name x px, iter, [], 0⟩] scope gpos) X.env) :: starEach [] X.env := by rfl) :
    PE X (.Call (.Name "any" p) [.GeneratorExp elt [⟨.Name x px, iter, [], 0⟩] scope gpos] [] pos) (tGen P false sl wi te) := by
  refine ⟨fun pins s σ H Q I h => ?_⟩
  refine wpAny_Call_Name_kw (ld_blt I hg hm hb ?_)
  refine PyProof.Rows.callWith_builtin1 ?_ he (by rfl)
  rw [he]
  show wpAny _ _ (spliced ((false, eval (.GeneratorExp elt [⟨.Name x px, iter, [], 0⟩] scope gpos) X.env) :: backTo pos (starEach [] X.env))) _ _ s
  refine Calls.spliced_cons (gen_make hc hr TB hcode S0 hi hel hs I h fun a s5 hG => ?_)
  obtain ⟨X', gn, m, QE, QF, e1, e2, hgen, hg5, hl5, hgs, hend, hout⟩ := hG
  refine Calls.spliced_nil ?_
  rw [← e1, ← e2] at hgs ⊢
  refine call_function_tree F.kind_any F.plain_any F.entry_any (F.args_any1 _) ?_
  unfold Builtin.«any»
  refine wpAny_bind (m := oneArg "any" _) (wpAny_pure ?_)
  refine wpAny_bind (wpAny_pyIter_gen hg5 ?_)
  exact wpAny_pure ⟨plainId_quiet F.plain_any_loop _, any_gloop (A := X.A) hr.hd (by have := hr.dp; show X.A.depth < _; omega) hgen hend hout m s5 hg5 hl5 hgs⟩
end
end SKG

set_option Elab.async false
set_option linter.all false
set_option maxRecDepth 100000
/-! SK1: trees of values, the heap of lists, dicts and instances, and how they stand to the layer's V and Hp. -/
namespace SK
open PySem PySem.Spec PyProof.Rows L2

/-- a value; tuples and the locked script are trees -/
inductive T where
  | non | bl (b : Bool) | int (i : Int) | str (s : String) | tup (xs : List T) | frl (xs : List T) | ref (a : Addr)
  deriving Inhabited

abbrev DK := Sum Int String
def kOf : DK → Key
  | .inl i => .inl i
  | .inr s => .inr (Str.ofString s)
def kT : DK → T
  | .inl i => .int i
  | .inr s => .str s
/-- what stands at an address -/
inductive GO where
  | lst (xs : List T) | dct (kvs : List (DK × T)) | ins (C : String) (fs : List (String × T))
abbrev Gp := Addr → Option GO
def gu (G : Gp) (a : Addr) (o : GO) : Gp := fun b => if b = a then some o else G b
@[simp] theorem gu_same {G : Gp} {a : Addr} {o : GO} : gu G a o a = some o := by unfold gu; rw [if_pos rfl]
theorem gu_ne {G : Gp} {a b : Addr} {o : GO} (h : b ≠ a) : gu G a o b = G b := by unfold gu; rw [if_neg h]

/-- a locked list, or one of the module -/
def FL (K : PySem.W.Frag) (H : Hp) (a : Addr) (xs : List V) : Prop :=
  (∃ o, H a = some (.frz o (.lst xs))) ∨
    ∃ (o : Obj) (its : Array Value) (n : Nat), K.lookup a = some o ∧ o.cls = .type "list" ∧ o.dict = none ∧ o.data = .seq its n ∧ its.size ≤ sizeLine ∧ Vals xs its.toList
theorem FL.sql {K : PySem.W.Frag} {H : Hp} {a : Addr} {xs : List V} (h : FL K H a xs) : SqL K H a xs := by
  rcases h with h | h
  · exact .inl (.inr h)
  · exact .inr h

section
variable (K : PySem.W.Frag) (H : Hp)
mutual
def RT : T → V → Prop
  | .non, v => v = .non
  | .bl b, v => v = .bl b
  | .int i, v => v = .int i
  | .str s, v => v = .str (Str.ofString s)
  | .tup ts, v => ∃ a vs, v = .ref a ∧ SqT K H a vs ∧ RTs ts vs
  | .frl ts, v => ∃ a vs, v = .ref a ∧ FL K H a vs ∧ RTs ts vs
  | .ref a, v => v = .ref a
def RTs : List T → List V → Prop
  | [], vs => vs = []
  | t :: ts, vs => ∃ v r, vs = v :: r ∧ RT t v ∧ RTs ts r
end
def RK : List (DK × T) → List (Key × V) → Prop
  | [], l => l = []
  | p :: r, l => ∃ v l', l = (kOf p.1, v) :: l' ∧ RT K H p.2 v ∧ RK r l'
def RF : List (String × T) → List (Str × V) → Prop
  | [], l => l = []
  | p :: r, l => ∃ v l', l = (Str.ofString p.1, v) :: l' ∧ RT K H p.2 v ∧ RF r l'
end

/-- what may be written here -/
def Wr : HO → Prop
  | .lst _ => True
  | .dK _ => True
  | .ins _ _ _ => True
  | _ => False
/-- what is kept of the layer's heap: tuples, locked things, what an exception holds -/
structure HX (H H' : Hp) : Prop where
  tup : ∀ a xs, H a = some (.tup xs) → H' a = some (.tup xs)
  frz : ∀ a o u, H a = some (.frz o u) → H' a = some (.frz o u)
  xd : ∀ a fs, H a = some (.xd fs) → H' a = some (.xd fs)
theorem HX.refl (H : Hp) : HX H H := ⟨fun _ _ h => h, fun _ _ _ h => h, fun _ _ h => h⟩
theorem HX.trans {H H1 H2 : Hp} (a : HX H H1) (b : HX H1 H2) : HX H H2 := ⟨fun c xs h => b.tup _ _ (a.tup c xs h), fun c o u h => b.frz _ _ _ (a.frz c o u h), fun c xs h => b.xd _ _ (a.xd c xs h)⟩
theorem HX.new {H : Hp} {p : Addr} {o : HO} (h : H p = none) : HX H (upd H p o) :=
  ⟨fun a xs e => by rw [upd_ne (ne_of_none e h)]; exact e, fun a q u e => by rw [upd_ne (ne_of_none e h)]; exact e, fun a q e => by rw [upd_ne (ne_of_none e h)]; exact e⟩
theorem HX.put {H : Hp} {p : Addr} {o u : HO} (h : H p = some u) (w : Wr u) : HX H (upd H p o) :=
  ⟨fun a xs e => by rw [upd_ne (ne_of e h (fun z => by subst z; exact w))]; exact e, fun a q z e => by rw [upd_ne (ne_of e h (fun y => by subst y; exact w))]; exact e,
    fun a q e => by rw [upd_ne (ne_of e h (fun y => by subst y; exact w))]; exact e⟩

theorem SqT.mono {K : PySem.W.Frag} {H H' : Hp} {a : Addr} {xs : List V} (x : HX H H') (h : SqT K H a xs) : SqT K H' a xs := by
  rcases h with (h | ⟨o, h⟩) | h
  · exact .inl (.inl (x.tup _ _ h))
  · exact .inl (.inr ⟨o, x.frz _ _ _ h⟩)
  · exact .inr h
theorem FL.mono {K : PySem.W.Frag} {H H' : Hp} {a : Addr} {xs : List V} (x : HX H H') (h : FL K H a xs) : FL K H' a xs := by
  rcases h with ⟨o, h⟩ | h
  · exact .inl ⟨o, x.frz _ _ _ h⟩
  · exact .inr h
mutual
theorem RT.mono {K : PySem.W.Frag} {H H' : Hp} (x : HX H H') : ∀ (t : T) (v : V), RT K H t v → RT K H' t v
  | .non, _, h => h
  | .bl _, _, h => h
  | .int _, _, h => h
  | .str _, _, h => h
  | .tup ts, v, h => by
    unfold RT at h ⊢
    obtain ⟨a, vs, e, q, r⟩ := h
    exact ⟨a, vs, e, SqT.mono x q, RTs.mono x ts vs r⟩
  | .frl ts, v, h => by
    unfold RT at h ⊢
    obtain ⟨a, vs, e, q, r⟩ := h
    exact ⟨a, vs, e, FL.mono x q, RTs.mono x ts vs r⟩
  | .ref _, _, h => h
theorem RTs.mono {K : PySem.W.Frag} {H H' : Hp} (x : HX H H') : ∀ (ts : List T) (vs : List V), RTs K H ts vs → RTs K H' ts vs
  | [], _, h => h
  | t :: ts, vs, h => by
    unfold RTs at h ⊢
    obtain ⟨v, r, e, h1, h2⟩ := h
    exact ⟨v, r, e, RT.mono x t v h1, RTs.mono x ts r h2⟩
end
theorem RK.mono {K : PySem.W.Frag} {H H' : Hp} (x : HX H H') : ∀ (l : List (DK × T)) (m : List (Key × V)), RK K H l m → RK K H' l m
  | [], _, h => h
  | p :: r, m, h => by
    unfold RK at h ⊢
    obtain ⟨v, l', e, h1, h2⟩ := h
    exact ⟨v, l', e, RT.mono x _ v h1, RK.mono x r l' h2⟩
theorem RF.mono {K : PySem.W.Frag} {H H' : Hp} (x : HX H H') : ∀ (l : List (String × T)) (m : List (Str × V)), RF K H l m → RF K H' l m
  | [], _, h => h
  | p :: r, m, h => by
    unfold RF at h ⊢
    obtain ⟨v, l', e, h1, h2⟩ := h
    exact ⟨v, l', e, RT.mono x _ v h1, RF.mono x r l' h2⟩

section
variable {K : PySem.W.Frag} {H : Hp}
theorem RTs.length : ∀ {ts : List T} {vs : List V}, RTs K H ts vs → ts.length = vs.length
  | [], vs, h => by unfold RTs at h; subst h; rfl
  | t :: ts, vs, h => by
    unfold RTs at h
    obtain ⟨v, r, rfl, _, h2⟩ := h
    simp [RTs.length h2]
theorem RTs.get : ∀ {ts : List T} {vs : List V} {i : Nat} {t : T}, RTs K H ts vs → ts[i]? = some t → ∃ v, vs[i]? = some v ∧ RT K H t v
  | [], _, _, _, _, e => by simp at e
  | t :: ts, vs, 0, u, h, e => by
    unfold RTs at h
    obtain ⟨v, r, rfl, h1, _⟩ := h
    simp at e
    subst e
    exact ⟨v, rfl, h1⟩
  | t :: ts, vs, i + 1, u, h, e => by
    unfold RTs at h
    obtain ⟨v, r, rfl, _, h2⟩ := h
    obtain ⟨w, e1, e2⟩ := RTs.get (i := i) h2 (by simpa using e)
    exact ⟨w, by simpa using e1, e2⟩
theorem RTs.append : ∀ {ts us : List T} {vs ws : List V}, RTs K H ts vs → RTs K H us ws → RTs K H (ts ++ us) (vs ++ ws)
  | [], us, vs, ws, h, q => by unfold RTs at h; subst h; exact q
  | t :: ts, us, vs, ws, h, q => by
    unfold RTs at h
    obtain ⟨v, r, rfl, h1, h2⟩ := h
    show RTs K H (t :: (ts ++ us)) (v :: (r ++ ws))
    unfold RTs
    exact ⟨v, r ++ ws, rfl, h1, RTs.append h2 q⟩
theorem RTs.one {t : T} {v : V} (h : RT K H t v) : RTs K H [t] [v] := by
  unfold RTs
  exact ⟨v, [], rfl, h, by unfold RTs; rfl⟩
theorem RTs.nil : RTs K H [] [] := by unfold RTs; rfl
theorem RTs.cons {t : T} {v : V} {ts : List T} {vs : List V} (h : RT K H t v) (r : RTs K H ts vs) : RTs K H (t :: ts) (v :: vs) := by
  unfold RTs
  exact ⟨v, vs, rfl, h, r⟩
theorem RTs.take : ∀ {ts : List T} {vs : List V} (n : Nat), RTs K H ts vs → RTs K H (ts.take n) (vs.take n)
  | _, _, 0, _ => by simp [RTs.nil]
  | [], vs, n + 1, h => by unfold RTs at h; subst h; exact RTs.nil
  | t :: ts, vs, n + 1, h => by
    unfold RTs at h
    obtain ⟨v, r, rfl, h1, h2⟩ := h
    exact RTs.cons h1 (RTs.take n h2)
theorem RTs.drop : ∀ {ts : List T} {vs : List V} (n : Nat), RTs K H ts vs → RTs K H (ts.drop n) (vs.drop n)
  | _, _, 0, h => by simpa using h
  | [], vs, n + 1, h => by unfold RTs at h; subst h; exact RTs.nil
  | t :: ts, vs, n + 1, h => by
    unfold RTs at h
    obtain ⟨v, r, rfl, h1, h2⟩ := h
    exact RTs.drop n h2
theorem RTs.set : ∀ {ts : List T} {vs : List V} (n : Nat) {t : T} {v : V}, RTs K H ts vs → RT K H t v → RTs K H (ts.set n t) (vs.set n v)
  | [], vs, _, _, _, h, _ => by unfold RTs at h; subst h; exact RTs.nil
  | t :: ts, vs, 0, _, _, h, q => by
    unfold RTs at h
    obtain ⟨v, r, rfl, h1, h2⟩ := h
    exact RTs.cons q h2
  | t :: ts, vs, n + 1, _, _, h, q => by
    unfold RTs at h
    obtain ⟨v, r, rfl, h1, h2⟩ := h
    exact RTs.cons h1 (RTs.set n h2 q)
theorem RTs.dropLast {ts : List T} {vs : List V} (h : RTs K H ts vs) : RTs K H ts.dropLast vs.dropLast := by
  rw [List.dropLast_eq_take, List.dropLast_eq_take, ← h.length]
  exact h.take _
theorem RTs.reverse : ∀ {ts : List T} {vs : List V}, RTs K H ts vs → RTs K H ts.reverse vs.reverse
  | [], vs, h => by unfold RTs at h; subst h; exact RTs.nil
  | t :: ts, vs, h => by
    unfold RTs at h
    obtain ⟨v, r, rfl, h1, h2⟩ := h
    rw [List.reverse_cons, List.reverse_cons]
    exact (RTs.reverse h2).append (RTs.one h1)
theorem RTs.rep {ts : List T} {vs : List V} (h : RTs K H ts vs) : ∀ n : Nat, RTs K H (List.replicate n ts).flatten (List.replicate n vs).flatten
  | 0 => RTs.nil
  | n + 1 => by
    rw [List.replicate_succ, List.replicate_succ, List.flatten_cons, List.flatten_cons]
    exact h.append (RTs.rep h n)
theorem RTs.ints : ∀ ns : List Int, RTs K H (ns.map T.int) (ns.map V.int)
  | [] => RTs.nil
  | n :: ns => RTs.cons (by unfold RT; rfl) (RTs.ints ns)
theorem RTs.map {α : Type} {f : α → T} {g : α → V} (h : ∀ a, RT K H (f a) (g a)) : ∀ l : List α, RTs K H (l.map f) (l.map g)
  | [] => RTs.nil
  | a :: l => RTs.cons (h a) (RTs.map h l)
theorem RTs.to_ints : ∀ {ns : List Int} {vs : List V}, RTs K H (ns.map T.int) vs → vs = ns.map V.int
  | [], vs, h => by unfold RTs at h; exact h
  | n :: ns, vs, h => by
    rw [List.map_cons] at h
    unfold RTs at h
    obtain ⟨v, r, rfl, h1, h2⟩ := h
    unfold RT at h1
    rw [h1, RTs.to_ints h2]
    rfl
end

/-- the static part: own classes, the attributes they may hold, tables of code objects -/
structure Stc where
  cls : String → Option Addr
  xcl : String → Option Addr
  fld : String → String → Bool
  tabs : List Addr
/-- an object and its reading -/
def RO (S : Stc) (K : PySem.W.Frag) (H : Hp) : GO → HO → Prop
  | .lst ts, ho => ∃ vs, ho = .lst vs ∧ RTs K H ts vs
  | .dct kvs, ho => ∃ l, ho = .dK l ∧ RK K H kvs l
  | .ins C fs, ho => ∃ ca dx l, ho = .ins ca dx l ∧ S.cls C = some ca ∧ RF K H fs l ∧ ∀ p ∈ fs, S.fld C p.1 = true
theorem RO.mono {S : Stc} {K : PySem.W.Frag} {H H' : Hp} (x : HX H H') : ∀ {o : GO} {ho : HO}, RO S K H o ho → RO S K H' o ho
  | .lst ts, ho, h => let ⟨vs, e, r⟩ := h; ⟨vs, e, RTs.mono x _ _ r⟩
  | .dct kvs, ho, h => let ⟨l, e, r⟩ := h; ⟨l, e, RK.mono x _ _ r⟩
  | .ins C fs, ho, h => let ⟨ca, dx, l, e, c, r, k⟩ := h; ⟨ca, dx, l, e, c, RF.mono x _ _ r, k⟩
structure Sim (S : Stc) (K : PySem.W.Frag) (H : Hp) (G : Gp) : Prop where
  obj : ∀ a o, G a = some o → ∃ ho, H a = some ho ∧ RO S K H o ho
  tabs : ∀ p ∈ S.tabs, GxR.TabG H p
section
variable {S : Stc} {K : PySem.W.Frag} {H : Hp} {G : Gp}
theorem Sim.free (m : Sim S K H G) {p : Addr} (h : H p = none) : G p = none := by
  cases e : G p with
  | none => rfl
  | some o =>
    obtain ⟨ho, q, _⟩ := m.obj p o e
    rw [h] at q
    cases q
theorem Sim.new (m : Sim S K H G) {p : Addr} {o : GO} {ho : HO} (h : H p = none) (r : RO S K (upd H p ho) o ho) : Sim S K (upd H p ho) (gu G p o) := by
  refine ⟨fun a u e => ?_, fun q hq => ?_⟩
  · by_cases ha : a = p
    · subst ha
      rw [gu_same] at e
      cases e
      exact ⟨ho, upd_same, r⟩
    · rw [gu_ne ha] at e
      obtain ⟨v, h1, h2⟩ := m.obj a u e
      exact ⟨v, by rw [upd_ne ha]; exact h1, h2.mono (HX.new h)⟩
  · obtain ⟨ps, h1, h2⟩ := m.tabs q hq
    exact ⟨ps, by rw [upd_ne (ne_of_none h1 h)]; exact h1, h2⟩
/-- a thing that G doesn't track is laid -/
theorem Sim.aside (m : Sim S K H G) {p : Addr} {ho : HO} (h : H p = none) : Sim S K (upd H p ho) G := by
  refine ⟨fun a u e => ?_, fun q hq => ?_⟩
  · obtain ⟨v, h1, h2⟩ := m.obj a u e
    exact ⟨v, by rw [upd_ne (ne_of_none h1 h)]; exact h1, h2.mono (HX.new h)⟩
  · obtain ⟨ps, h1, h2⟩ := m.tabs q hq
    exact ⟨ps, by rw [upd_ne (ne_of_none h1 h)]; exact h1, h2⟩
theorem Sim.put (m : Sim S K H G) {p : Addr} {o : GO} {ho u : HO} (h : H p = some u) (w : Wr u) (r : RO S K (upd H p ho) o ho) : Sim S K (upd H p ho) (gu G p o) := by
  refine ⟨fun a v e => ?_, fun q hq => ?_⟩
  · by_cases ha : a = p
    · subst ha
      rw [gu_same] at e
      cases e
      exact ⟨ho, upd_same, r⟩
    · rw [gu_ne ha] at e
      obtain ⟨v, k1, k2⟩ := m.obj a v e
      exact ⟨v, by rw [upd_ne ha]; exact k1, k2.mono (HX.put h w)⟩
  · obtain ⟨ps, k1, k2⟩ := m.tabs q hq
    exact ⟨ps, by rw [upd_ne (ne_of k1 h (fun z => by subst z; exact w))]; exact k1, k2⟩
end

/-- slots -/
abbrev Sl := List (Option T)
def RS (K : PySem.W.Frag) (H : Hp) (ss : Sl) (σ : L2.St) : Prop := ss.length = σ.length ∧ ∀ (i : Nat) t, ss[i]? = some (some t) → ∃ v, σ[i]? = some (some v) ∧ RT K H t v
theorem RS.mono {K : PySem.W.Frag} {H H' : Hp} {ss : Sl} {σ : L2.St} (x : HX H H') (r : RS K H ss σ) : RS K H' ss σ :=
  ⟨r.1, fun i t e => let ⟨v, h1, h2⟩ := r.2 i t e; ⟨v, h1, RT.mono x _ _ h2⟩⟩
theorem RS.set {K : PySem.W.Frag} {H : Hp} {ss : Sl} {σ : L2.St} {t : T} {v : V} (r : RS K H ss σ) (h : RT K H t v) (i : Nat) : RS K H (ss.set i (some t)) (σ.set i (some v)) := by
  refine ⟨by simpa using r.1, fun j u e => ?_⟩
  by_cases hj : i = j
  · subst hj
    by_cases hl : i < ss.length
    · rw [List.getElem?_set_self hl] at e
      cases e
      exact ⟨v, List.getElem?_set_self (by rw [← r.1]; exact hl), h⟩
    · rw [List.getElem?_eq_none (by simpa using hl)] at e
      cases e
  · rw [List.getElem?_set_ne hj] at e
    rw [List.getElem?_set_ne hj]
    exact r.2 j u e
theorem RS.forget {K : PySem.W.Frag} {H : Hp} {ss : Sl} {σ : L2.St} (r : RS K H ss σ) (i : Nat) : RS K H (ss.set i none) (σ.set i none) := by
  refine ⟨by simpa using r.1, fun j u e => ?_⟩
  by_cases hj : i = j
  · subst hj
    by_cases hl : i < ss.length
    · rw [List.getElem?_set_self hl] at e
      cases e
    · rw [List.getElem?_eq_none (by simpa using hl)] at e
      cases e
  · rw [List.getElem?_set_ne hj] at e
    rw [List.getElem?_set_ne hj]
    exact r.2 j u e

/-- all of it -/
structure At (S : Stc) (K : PySem.W.Frag) (H0 : Hp) (ss : Sl) (G : Gp) (σ : L2.St) (H : Hp) : Prop where
  rs : RS K H ss σ
  sim : Sim S K H G
  hx : HX H0 H
theorem At.next {S : Stc} {K : PySem.W.Frag} {H0 : Hp} {ss : Sl} {G G' : Gp} {σ : L2.St} {H H' : Hp} (a : At S K H0 ss G σ H) (x : HX H H') (m : Sim S K H' G') : At S K H0 ss G' σ H' :=
  ⟨a.rs.mono x, m, a.hx.trans x⟩

/-! ### texts -/
theorem ofS_inj {a b : String} (h : Str.ofString a = Str.ofString b) : a = b := by
  rw [Str.ofString_eq_toList, Str.ofString_eq_toList] at h
  have h1 : (a.toList.map Char.toNat).toArray = (b.toList.map Char.toNat).toArray := by injection h
  have h2 : a.toList.map Char.toNat = b.toList.map Char.toNat := by simpa using congrArg Array.toList h1
  have h3 : a.toList = b.toList := List.map_inj_right (fun x y e => Char.toNat_inj.mp e) |>.mp h2
  exact String.toList_inj.mp h3
theorem ofS_iff {a b : String} : Str.ofString a = Str.ofString b ↔ a = b := ⟨ofS_inj, fun h => by rw [h]⟩
theorem ofS_len (a : String) : (Str.ofString a).length = a.length := by
  rw [Str.ofString_eq_toList]
  unfold Str.length
  simp only [List.size_toArray, List.length_map]
  first | rfl | exact String.length_toList | exact (String.length_toList).symm ▸ rfl
theorem ofS_append (a b : String) : Str.ofString (a ++ b) = Str.ofString a ++ Str.ofString b := by
  rw [Str.ofString_eq_toList, Str.ofString_eq_toList, Str.ofString_eq_toList]
  show _ = Str.append _ _
  unfold Str.append
  simp
theorem kOf_inj {a b : DK} (h : kOf a = kOf b) : a = b := by
  cases a with
  | inl i =>
    cases b with
    | inl j => cases h; rfl
    | inr t => cases h
  | inr s =>
    cases b with
    | inl j => cases h
    | inr t => exact congrArg Sum.inr (ofS_inj (Sum.inr.inj h))

/-! ### dicts -/
def dGet (kvs : List (DK × T)) (k : DK) : Option T := (kvs.find? fun kv => decide (kv.1 = k)).map (·.2)
def dPut (kvs : List (DK × T)) (k : DK) (v : T) : List (DK × T) :=
  if (kvs.any fun kv => decide (kv.1 = k)) = true then kvs.map (fun kv => if kv.1 = k then (kv.1, v) else kv) else kvs ++ [(k, v)]
section
variable {K : PySem.W.Frag} {H : Hp}
theorem RK.length : ∀ {l : List (DK × T)} {m : List (Key × V)}, RK K H l m → l.length = m.length
  | [], m, h => by unfold RK at h; subst h; rfl
  | p :: r, m, h => by
    unfold RK at h
    obtain ⟨v, l', rfl, _, h2⟩ := h
    simp [RK.length h2]
theorem RK.get : ∀ {l : List (DK × T)} {m : List (Key × V)}, RK K H l m → ∀ k : DK, (dGet l k = none ∧ valV m (kOf k) = none) ∨ ∃ t v, dGet l k = some t ∧ valV m (kOf k) = some v ∧ RT K H t v
  | [], m, h, k => by unfold RK at h; subst h; exact .inl ⟨rfl, rfl⟩
  | p :: r, m, h, k => by
    unfold RK at h
    obtain ⟨v, l', rfl, h1, h2⟩ := h
    by_cases e : p.1 = k
    · refine .inr ⟨p.2, v, ?_, ?_, h1⟩
      · unfold dGet
        rw [List.find?_cons_of_pos (by simp [e])]
        rfl
      · exact valV_pos (p := (kOf p.1, v)) (by rw [e])
    · have e2 : ¬ (kOf p.1, v).1 = kOf k := fun z => e (kOf_inj z)
      rw [valV_neg e2]
      have e3 : dGet (p :: r) k = dGet r k := by
        unfold dGet
        rw [List.find?_cons_of_neg (by simp [e])]
      rw [e3]
      exact RK.get h2 k
theorem RK.any : ∀ {l : List (DK × T)} {m : List (Key × V)}, RK K H l m → ∀ k : DK, (l.any fun kv => decide (kv.1 = k)) = (m.any fun kv => decide (kv.1 = kOf k))
  | [], m, h, k => by unfold RK at h; subst h; rfl
  | p :: r, m, h, k => by
    unfold RK at h
    obtain ⟨v, l', rfl, h1, h2⟩ := h
    rw [List.any_cons, List.any_cons, RK.any h2 k]
    congr 1
    by_cases e : p.1 = k
    · subst e; simp
    · have e2 : ¬ kOf p.1 = kOf k := fun z => e (kOf_inj z)
      simp [e, e2]
theorem RK.map : ∀ {l : List (DK × T)} {m : List (Key × V)} {k : DK} {t : T} {v : V}, RK K H l m → RT K H t v →
    RK K H (l.map fun kv => if kv.1 = k then (kv.1, t) else kv) (m.map fun kv => if kv.1 = kOf k then (kv.1, v) else kv)
  | [], m, k, t, v, h, _ => by unfold RK at h; subst h; unfold RK; rfl
  | p :: r, m, k, t, v, h, q => by
    unfold RK at h
    obtain ⟨w, l', rfl, h1, h2⟩ := h
    rw [List.map_cons, List.map_cons]
    by_cases e : p.1 = k
    · have e2 : kOf p.1 = kOf k := by rw [e]
      rw [if_pos e, if_pos e2]
      unfold RK
      exact ⟨v, _, rfl, q, RK.map h2 q⟩
    · have e2 : ¬ kOf p.1 = kOf k := fun z => e (kOf_inj z)
      rw [if_neg e, if_neg e2]
      unfold RK
      exact ⟨w, _, rfl, h1, RK.map h2 q⟩
theorem RK.snoc : ∀ {l : List (DK × T)} {m : List (Key × V)} {k : DK} {t : T} {v : V}, RK K H l m → RT K H t v → RK K H (l ++ [(k, t)]) (m ++ [(kOf k, v)])
  | [], m, k, t, v, h, q => by unfold RK at h; subst h; unfold RK; exact ⟨v, [], rfl, q, by unfold RK; rfl⟩
  | p :: r, m, k, t, v, h, q => by
    unfold RK at h
    obtain ⟨w, l', rfl, h1, h2⟩ := h
    show RK K H (p :: (r ++ [(k, t)])) ((kOf p.1, w) :: (l' ++ [(kOf k, v)]))
    unfold RK
    exact ⟨w, _, rfl, h1, RK.snoc h2 q⟩
theorem RK.put {l : List (DK × T)} {m : List (Key × V)} {k : DK} {t : T} {v : V} (h : RK K H l m) (q : RT K H t v) : RK K H (dPut l k t) (putK m (kOf k) v) := by
  unfold dPut putK
  rw [h.any k]
  split
  · exact RK.map h q
  · exact RK.snoc h q
theorem kT_rt {k : DK} : RT K H (kT k) (kV (kOf k)) := by
  cases k with
  | inl i => unfold kT RT; rfl
  | inr s => unfold kT RT; rfl
theorem kT_of {k : DK} {v : V} (h : RT K H (kT k) v) : v = kV (kOf k) := by
  cases k with
  | inl i => unfold kT RT at h; exact h
  | inr s => unfold kT RT at h; exact h
end
/-! ### fields -/
def fGet (fs : List (String × T)) (f : String) : Option T := (fs.find? fun kv => decide (kv.1 = f)).map (·.2)
def fPut (f : String) (v : T) : List (String × T) → List (String × T)
  | [] => [(f, v)]
  | (g, x) :: r => if g = f then (g, v) :: r else (g, x) :: fPut f v r
section
variable {K : PySem.W.Frag} {H : Hp}
theorem RF.length : ∀ {l : List (String × T)} {m : List (Str × V)}, RF K H l m → l.length = m.length
  | [], m, h => by unfold RF at h; subst h; rfl
  | p :: r, m, h => by
    unfold RF at h
    obtain ⟨v, l', rfl, _, h2⟩ := h
    simp [RF.length h2]
theorem RF.get : ∀ {l : List (String × T)} {m : List (Str × V)}, RF K H l m → ∀ f : String, (fGet l f = none ∧ m.lookup (Str.ofString f) = none) ∨ ∃ t v, fGet l f = some t ∧ m.lookup (Str.ofString f) = some v ∧ RT K H t v
  | [], m, h, k => by unfold RF at h; subst h; exact .inl ⟨rfl, rfl⟩
  | p :: r, m, h, k => by
    unfold RF at h
    obtain ⟨v, l', rfl, h1, h2⟩ := h
    by_cases e : p.1 = k
    · refine .inr ⟨p.2, v, ?_, ?_, h1⟩
      · unfold fGet
        rw [List.find?_cons_of_pos (by simp [e])]
        rfl
      · rw [e, List.lookup_cons_self]
    · have e2 : ¬ Str.ofString p.1 = Str.ofString k := fun z => e (ofS_inj z)
      have e3 : fGet (p :: r) k = fGet r k := by
        unfold fGet
        rw [List.find?_cons_of_neg (by simp [e])]
      rw [e3, List.lookup_cons, beq_eq_false_iff_ne.mpr (fun z => e2 z.symm)]
      exact RF.get h2 k
theorem RF.put : ∀ {l : List (String × T)} {m : List (Str × V)} {f : String} {t : T} {v : V}, RF K H l m → RT K H t v → RF K H (fPut f t l) (putF (Str.ofString f) v m)
  | [], m, f, t, v, h, q => by
    unfold RF at h
    subst h
    show RF K H [(f, t)] [(Str.ofString f, v)]
    unfold RF
    exact ⟨v, [], rfl, q, by unfold RF; rfl⟩
  | p :: r, m, f, t, v, h, q => by
    unfold RF at h
    obtain ⟨w, l', rfl, h1, h2⟩ := h
    obtain ⟨g, x⟩ := p
    show RF K H (if g = f then (g, t) :: r else (g, x) :: fPut f t r) (if Str.ofString g = Str.ofString f then (Str.ofString g, v) :: l' else (Str.ofString g, w) :: putF (Str.ofString f) v l')
    by_cases e : g = f
    · rw [if_pos e, if_pos (by rw [e])]
      unfold RF
      exact ⟨v, l', rfl, q, h2⟩
    · rw [if_neg e, if_neg (fun z => e (ofS_inj z))]
      unfold RF
      exact ⟨w, _, rfl, h1, RF.put h2 q⟩
theorem fPut_names : ∀ {l : List (String × T)} {f : String} {t : T} {P : String → Prop}, P f → (∀ p ∈ l, P p.1) → ∀ p ∈ fPut f t l, P p.1
  | [], f, t, P, hf, h, p, hp => by
    have e : p = (f, t) := by simpa [fPut] using hp
    rw [e]
    exact hf
  | (g, x) :: r, f, t, P, hf, h, p, hp => by
    unfold fPut at hp
    by_cases e : g = f
    · rw [if_pos e] at hp
      rcases List.mem_cons.mp hp with z | z
      · rw [z]; exact h (g, x) List.mem_cons_self
      · exact h p (List.mem_cons_of_mem _ z)
    · rw [if_neg e] at hp
      rcases List.mem_cons.mp hp with z | z
      · rw [z]; exact h (g, x) List.mem_cons_self
      · exact fPut_names hf (fun q hq => h q (List.mem_cons_of_mem _ hq)) p z
end
end SK

set_option Elab.async false
set_option linter.all false
set_option maxRecDepth 100000
/-! SK2: the codes of the Python subset, and what each wants (wp). -/
namespace SK
open PySem PySem.Spec PyProof.Rows L2

inductive Op | add | sub | mul | fdv | mod | pow
  deriving DecidableEq
inductive Cp | eq | ne | lt | le | gt | ge | inS | niS | inD | niD | isN | ntN
  deriving DecidableEq
inductive Bi | len | int | str | tuple | list | dict | max | min | sum | all | any
  deriving DecidableEq
inductive Bm | append | pop | get | index | join
  deriving DecidableEq
inductive Ty | tup | bl | int | str
  deriving DecidableEq
/-- a target: a name's slot, or a tuple of them -/
inductive Tg | nm (i : Nat) | tp (is : List Nat)
mutual
inductive E where
  | no
  | var (i : Nat)
  | kc (t : T)
  | gl (x : String)
  | tup (es : Es) | lst (es : Es)
  | dct (ks : List String) (es : Es)
  | bin (o : Op) (a b : E)
  | neg (a : E)
  | cmp (o : Cp) (a b : E)
  | land (es : Es) | lor (es : Es)
  | lnot (a : E)
  | ife (c a b : E)
  | ix (a i : E) | dx (a i : E)
  | sl (a lo hi : E)
  | fld (a : E) (f : String)
  | call (f : String) (es : Es)
  | callv (i : Nat) (es : Es)
  | meth (a : E) (m : String) (es : Es)
  | make (C : String) (es : Es)
  | bi (f : Bi) (es : Es)
  | bm (a : E) (m : Bm) (es : Es)
  | isi (a : E) (ty : Ty)
  | isx (a : E) (C : String)
  | xf (a : E) (f : String)
  | lc (elt : E) (own : List Nat) (g : Tg) (it : It) (cond : E)
  | gen (all : Bool) (elt : E) (x : Nat) (it : It)
inductive Es where
  | nil | cons (e : E) (es : Es)
inductive It where
  | tup (e : E) | lst (e : E) | str (e : E) | rng (es : Es) | revl (e : E) | revt (e : E) | revr (e : E)
end
mutual
inductive S where
  | asg (i : Nat) (e : E)
  | ast (is : List Nat) (e : E)
  | astl (is : List Nat) (e : E)
  | asf (o : E) (f : String) (e : E)
  | asi (o i e : E) | asd (o i e : E)
  | ex (e : E)
  | ret (e : E) | retn
  | ite (c : E) (a b : Ss)
  | for_ (g : Tg) (it : It) (body : Ss)
  | whl (c : E) (body : Ss)
  | pass
  | raise (C : String) (es : Es)
  | try_ (body : Ss) (C : String) (i : Nat) (suite : Ss)
inductive Ss where
  | nil | cons (s : S) (r : Ss)
end
def Es.len : Es → Nat
  | .nil => 0
  | .cons _ r => r.len + 1

abbrev QT := T → Gp → Prop
abbrev XT := String → List (String × T) → Gp → Prop
/-- a promise: arguments, heap, what is wanted of the value, of an exception -/
abbrev Pr := List T → Gp → QT → XT → Prop
/-- what a body may lean on: promises by class and name ("" : the module's defs), constants, exceptions' classes and fields -/
structure Gm where
  fn : String → String → Option Pr
  cst : String → Option T
  sub : String → String → Bool
  xfs : String → Option (List String)
  fld : String → String → Bool
  xnm : String → Bool := fun _ => false
  fv : Addr → Option Pr := fun _ => none
  xc : Option (String × List (String × T) × Addr) := none
structure En where
  nx : Sl → Gp → Prop
  rt : QT
  bk : Sl → Gp → Prop := fun _ _ => False
  ct : Sl → Gp → Prop := fun _ _ => False
  ex : Sl → XT

/-! ### by values -/
abbrev line : Nat := 16777216
def addW : T → T → Gp → QT → Prop
  | .int i, .int j, G, Q => Q (.int (i + j)) G
  | .str s, .str t, G, Q => s.length + t.length ≤ line ∧ Q (.str (s ++ t)) G
  | .tup xs, .tup ys, G, Q => xs.length + ys.length ≤ line ∧ Q (.tup (xs ++ ys)) G
  | .ref a, .ref b, G, Q => ∃ xs ys, G a = some (.lst xs) ∧ G b = some (.lst ys) ∧ xs.length + ys.length ≤ line ∧ ∀ p, G p = none → Q (.ref p) (gu G p (.lst (xs ++ ys)))
  | _, _, _, _ => False
def subW : T → T → Gp → QT → Prop
  | .int i, .int j, G, Q => Q (.int (i - j)) G
  | _, _, _, _ => False
def mulW : T → T → Gp → QT → Prop
  | .int i, .int j, G, Q => CMul i j ∧ Q (.int (i * j)) G
  | .tup xs, .int k, G, Q => xs ≠ [] ∧ xs.length ≤ 1000 ∧ 2 ≤ k ∧ k ≤ 1000 ∧ Q (.tup (List.replicate k.toNat xs).flatten) G
  | .ref a, .int k, G, Q => ∃ xs, G a = some (.lst xs) ∧ -(2 ^ 63) ≤ k ∧ k < 2 ^ 63 ∧ xs.length * k.toNat ≤ line ∧ ∀ p, G p = none → Q (.ref p) (gu G p (.lst (List.replicate k.toNat xs).flatten))
  | _, _, _, _ => False
def fdvW : T → T → Gp → QT → Prop
  | .int i, .int j, G, Q => (0 < j ∧ j < 1073741824) ∧ Q (.int (i / j)) G
  | _, _, _, _ => False
def modW : T → T → Gp → QT → Prop
  | .int i, .int j, G, Q => 0 < j ∧ Q (.int (i % j)) G
  | _, _, _, _ => False
def powW : T → T → Gp → QT → Prop
  | .int i, .int j, G, Q => (0 ≤ j ∧ j ≤ 1000000 ∧ i.natAbs < 2 ^ 64) ∧ Q (.int (i ^ j.toNat)) G
  | _, _, _, _ => False
def binW : Op → T → T → Gp → QT → Prop
  | .add => addW | .sub => subW | .mul => mulW | .fdv => fdvW | .mod => modW | .pow => powW
mutual
/-- == of data -/
def teq : T → T → Bool
  | .non, .non => true
  | .bl a, .bl b => a == b
  | .bl a, .int j => (if a then 1 else 0) == j
  | .int i, .bl b => i == (if b then 1 else 0)
  | .int i, .int j => i == j
  | .str a, .str b => a == b
  | .tup xs, .tup ys => teqs xs ys
  | _, _ => false
def teqs : List T → List T → Bool
  | [], [] => true
  | x :: xs, y :: ys => teq x y && teqs xs ys
  | _, _ => false
end
mutual
/-- data without addresses, at most so deep -/
def isD : Nat → T → Bool
  | _, .non => true
  | _, .bl _ => true
  | _, .int _ => true
  | _, .str _ => true
  | 0, .tup _ => false
  | n + 1, .tup xs => isDs n xs
  | _, _ => false
def isDs : Nat → List T → Bool
  | _, [] => true
  | n, x :: xs => isD n x && isDs n xs
end
def flT : T → Bool
  | .non => true | .bl _ => true | .int _ => true | .str _ => true | _ => false
def isNT : T → Bool
  | .non => true
  | _ => false
def keyT : T → Option DK
  | .int i => some (.inl i)
  | .str s => some (.inr s)
  | _ => none
def cmpI (f : Int → Int → Bool) : T → T → Gp → QT → Prop
  | .int i, .int j, G, Q => Q (.bl (f i j)) G
  | _, _, _, _ => False
def inW (neg : Bool) : T → T → Gp → QT → Prop
  | x, .tup ys, G, Q => flT x = true ∧ ys.all flT = true ∧ Q (.bl (xor neg (ys.any fun y => teq y x))) G
  | x, .ref a, G, Q => ∃ ys, G a = some (.lst ys) ∧ flT x = true ∧ ys.all flT = true ∧ Q (.bl (xor neg (ys.any fun y => teq y x))) G
  | .str x, .str y, G, Q => ∃ c, x = String.singleton c ∧ Q (.bl (xor neg (decide (c ∈ y.toList)))) G
  | _, _, _, _ => False
def inDW (neg : Bool) : T → T → Gp → QT → Prop
  | x, .ref a, G, Q => ∃ kvs k, G a = some (.dct kvs) ∧ keyT x = some k ∧ Q (.bl (xor neg (dGet kvs k).isSome)) G
  | _, _, _, _ => False
def cmpW : Cp → T → T → Gp → QT → Prop
  | .eq => fun x y G Q => isD 60 x = true ∧ isD 60 y = true ∧ Q (.bl (teq x y)) G
  | .ne => fun x y G Q => isD 60 x = true ∧ isD 60 y = true ∧ Q (.bl (!teq x y)) G
  | .lt => cmpI fun i j => decide (i < j)
  | .le => cmpI fun i j => decide (i ≤ j)
  | .gt => cmpI fun i j => decide (j < i)
  | .ge => cmpI fun i j => decide (j ≤ i)
  | .inS => inW false
  | .niS => inW true
  | .inD => inDW false
  | .niD => inDW true
  | .isN => fun x y G Q => y = .non ∧ Q (.bl (isNT x)) G
  | .ntN => fun x y G Q => y = .non ∧ Q (.bl (!isNT x)) G
/-- the item at i, from the end where i is negative -/
def tAt {α : Type} (xs : List α) (i : Int) : Option α := if 0 ≤ i then xs[i.toNat]? else if -(xs.length : Int) ≤ i then xs[(i + xs.length).toNat]? else none
def ixW : T → T → Gp → QT → Prop
  | .tup xs, .int i, G, Q => ∃ v, tAt xs i = some v ∧ Q v G
  | .frl xs, .int i, G, Q => ∃ v, tAt xs i = some v ∧ Q v G
  | .ref a, .int i, G, Q => ∃ xs v, G a = some (.lst xs) ∧ tAt xs i = some v ∧ Q v G
  | .str s, .int i, G, Q => ∃ c, s.length ≤ line ∧ tAt s.toList i = some c ∧ Q (.str (String.singleton c)) G
  | _, _, _, _ => False
def dxW : T → T → Gp → QT → Prop
  | .ref a, y, G, Q => ∃ kvs k v, G a = some (.dct kvs) ∧ keyT y = some k ∧ dGet kvs k = some v ∧ Q v G
  | _, _, _, _ => False
def cutT {α : Type} (xs : List α) (lo hi : Option Int) : List α := (xs.drop (HT.sIx xs.length 0 lo)).take (HT.sIx xs.length xs.length hi - HT.sIx xs.length 0 lo)
def slW : T → Option Int → Option Int → Gp → QT → Prop
  | .tup xs, lo, hi, G, Q => Q (.tup (cutT xs lo hi)) G
  | .ref a, lo, hi, G, Q => ∃ xs, G a = some (.lst xs) ∧ ∀ p, G p = none → Q (.ref p) (gu G p (.lst (cutT xs lo hi)))
  | _, _, _, _, _ => False
def fldW (f : String) : T → Gp → QT → Prop
  | .ref a, G, Q => ∃ C fs v, G a = some (.ins C fs) ∧ fGet fs f = some v ∧ Q v G
  | _, _, _ => False
def lenW : List T → Gp → QT → Prop
  | [.str s], G, Q => s.length ≤ line ∧ Q (.int s.length) G
  | [.tup xs], G, Q => Q (.int xs.length) G
  | [.frl xs], G, Q => Q (.int xs.length) G
  | [.ref a], G, Q => ∃ xs, G a = some (.lst xs) ∧ Q (.int xs.length) G
  | _, _, _ => False
def intW : List T → Gp → QT → Prop
  | [.int i], G, Q => Q (.int i) G
  | _, _, _ => False
def strW : List T → Gp → QT → Prop
  | [.int i], G, Q => i.natAbs.log2 < 1920 ∧ Q (.str (toString i)) G
  | _, _, _ => False
def tupleW : List T → Gp → QT → Prop
  | [.tup xs], G, Q => Q (.tup xs) G
  | [.ref a], G, Q => ∃ xs, G a = some (.lst xs) ∧ Q (.tup xs) G
  | _, _, _ => False
def listW : List T → Gp → QT → Prop
  | [.tup xs], G, Q => ∀ p, G p = none → Q (.ref p) (gu G p (.lst xs))
  | [.ref a], G, Q => ∃ xs, G a = some (.lst xs) ∧ ∀ p, G p = none → Q (.ref p) (gu G p (.lst xs))
  | _, _, _ => False
def dictW : List T → Gp → QT → Prop
  | [.ref a], G, Q => ∃ kvs, G a = some (.dct kvs) ∧ ∀ p, G p = none → Q (.ref p) (gu G p (.dct kvs))
  | _, _, _ => False
def maxW : List T → Gp → QT → Prop
  | [.int i, .int j], G, Q => Q (.int (if j > i then j else i)) G
  | [.ref a], G, Q => ∃ ns : List Int, G a = some (.lst (ns.map T.int)) ∧ 0 < ns.length ∧ ∀ m, m ∈ ns → (∀ y, y ∈ ns → y ≤ m) → Q (.int m) G
  | [.tup ts], G, Q => ∃ ns : List Int, ts = ns.map T.int ∧ 0 < ns.length ∧ ∀ m, m ∈ ns → (∀ y, y ∈ ns → y ≤ m) → Q (.int m) G
  | _, _, _ => False
def minW : List T → Gp → QT → Prop
  | [.int i, .int j], G, Q => Q (.int (if j < i then j else i)) G
  | _, _, _ => False
def sumW : List T → Gp → QT → Prop
  | [.ref a], G, Q => ∃ ns : List Int, G a = some (.lst (ns.map T.int)) ∧ Q (.int ns.sum) G
  | _, _, _ => False
def allW : List T → Gp → QT → Prop
  | [.ref a], G, Q => ∃ bs : List Bool, G a = some (.lst (bs.map T.bl)) ∧ Q (.bl (bs.all id)) G
  | _, _, _ => False
def anyW : List T → Gp → QT → Prop
  | [.ref a], G, Q => ∃ bs : List Bool, G a = some (.lst (bs.map T.bl)) ∧ Q (.bl (bs.any id)) G
  | _, _, _ => False
def biW : Bi → List T → Gp → QT → Prop
  | .len => lenW | .int => intW | .str => strW | .tuple => tupleW | .list => listW | .dict => dictW | .max => maxW | .min => minW | .sum => sumW | .all => allW | .any => anyW
def appW : T → List T → Gp → QT → Prop
  | .ref a, [y], G, Q => ∃ xs, G a = some (.lst xs) ∧ xs.length < line ∧ Q .non (gu G a (.lst (xs ++ [y])))
  | _, _, _, _ => False
def popW : T → List T → Gp → QT → Prop
  | .ref a, [], G, Q => ∃ xs y, G a = some (.lst xs) ∧ xs[xs.length - 1]? = some y ∧ Q y (gu G a (.lst xs.dropLast))
  | _, _, _, _ => False
def getW : T → List T → Gp → QT → Prop
  | .ref a, [x, y], G, Q => ∃ kvs k, G a = some (.dct kvs) ∧ keyT x = some k ∧ Q ((dGet kvs k).getD y) G
  | _, _, _, _ => False
def joinS : String → List String → String
  | _, [] => ""
  | _, [a] => a
  | s, a :: b :: r => a ++ s ++ joinS s (b :: r)
def joinW : T → List T → Gp → QT → Prop
  | .str s, [.ref a], G, Q => ∃ ws : List String, G a = some (.lst (ws.map T.str)) ∧ (ws.map String.length).sum + ws.length * s.length ≤ 16777216 ∧ Q (.str (joinS s ws)) G
  | _, _, _, _ => False
def indexW : T → List T → Gp → QT → Prop
  | .ref a, [y], G, Q => ∃ xs j z, G a = some (.lst xs) ∧ flT y = true ∧ xs.all flT = true ∧ xs[j]? = some z ∧ teq z y = true ∧ (∀ m z', m < j → xs[m]? = some z' → teq z' y = false) ∧ Q (.int (j : Nat)) G
  | _, _, _, _ => False
def bmW : Bm → T → List T → Gp → QT → Prop
  | .append => appW | .pop => popW | .get => getW | .index => indexW | .join => joinW
def bmT : Bm → T → Gp → Prop
  | .append, .ref a, G => ∃ xs, G a = some (.lst xs)
  | .pop, .ref a, G => ∃ xs, G a = some (.lst xs)
  | .get, .ref a, G => ∃ kvs, G a = some (.dct kvs)
  | .index, .ref a, G => ∃ xs, G a = some (.lst xs)
  | .join, .str _, _ => True
  | _, _, _ => False
def isiW (ty : Ty) : T → Gp → QT → Prop
  | .non, G, Q => Q (.bl false) G
  | .bl _, G, Q => Q (.bl (match ty with | .bl => true | .int => true | _ => false)) G
  | .int _, G, Q => Q (.bl (match ty with | .int => true | _ => false)) G
  | .str _, G, Q => Q (.bl (match ty with | .str => true | _ => false)) G
  | .tup _, G, Q => Q (.bl (match ty with | .tup => true | _ => false)) G
  | .ref a, G, Q => ((∃ xs, G a = some (.lst xs)) ∨ ∃ xs, G a = some (.dct xs)) ∧ Q (.bl false) G
  | _, _, _ => False
/-- what a loop goes over: fixed items, or a list that must stay -/
inductive Sq where
  | fix (xs : List T) | at_ (a : Addr) (xs : List T)
def Sq.items : Sq → List T
  | .fix xs => xs
  | .at_ _ xs => xs
def Sq.stay : Sq → Gp → Prop
  | .fix _, _ => True
  | .at_ a xs, G => G a = some (.lst xs)
def upto (lo step : Int) (n : Nat) : List T := (List.range n).map fun (i : Nat) => T.int (lo + (i : Int) * step)
def rngW : List T → Gp → (Sq → Gp → Prop) → Prop
  | [.int n], G, R => (-(2 ^ 62) ≤ n ∧ n < 2 ^ 62) ∧ R (.fix (upto 0 1 n.toNat)) G
  | [.int a, .int b], G, R => ((-(2 ^ 62) ≤ a ∧ a < 2 ^ 62) ∧ -(2 ^ 62) ≤ b ∧ b < 2 ^ 62) ∧ R (.fix (upto a 1 (b - a).toNat)) G
  | [.int a, .int b, .int (-1)], G, R => ((-(2 ^ 62) ≤ a ∧ a < 2 ^ 62) ∧ -(2 ^ 62) ≤ b ∧ b < 2 ^ 62) ∧ R (.fix (upto a (-1) (a - b).toNat)) G
  | _, _, _ => False
def setTp : List Nat → List T → Sl → Option Sl
  | [], [], ss => some ss
  | i :: is, x :: xs, ss => setTp is xs (ss.set i (some x))
  | _, _, _ => none
def tgW : Tg → T → Sl → (Sl → Prop) → Prop
  | .nm i, x, ss, k => k (ss.set i (some x))
  | .tp is, .tup xs, ss, k => ∃ s1, setTp is xs ss = some s1 ∧ k s1
  | _, _, _, _ => False
def wipeT (ss : Sl) : List Nat → Sl
  | [] => ss
  | v :: vs => (wipeT ss vs).set v none

/-- the turns of a for -/
def forW (stay : Gp → Prop) (g : Tg) (body : Sl → Gp → En → Prop) (D : En) : List T → Sl → Gp → Prop
  | [], ss, G => stay G ∧ D.nx ss G
  | x :: r, ss, G => stay G ∧ tgW g x ss fun s1 => body s1 G { nx := forW stay g body D r, rt := D.rt, bk := D.nx, ct := forW stay g body D r, ex := D.ex }
/-- a while: an invariant with its measure -/
def whlW (c : Sl → Gp → XT → QT → Prop) (body : Sl → Gp → En → Prop) (D : En) (ss : Sl) (G : Gp) : Prop :=
  ∃ W : Nat → Sl → Gp → Prop, (∃ m, W m ss G) ∧ ∀ m ss G, W m ss G → c ss G (D.ex ss) fun t G1 => ∃ b, t = .bl b ∧
    if b = true then body ss G1 { nx := fun s2 G2 => ∃ m', m' < m ∧ W m' s2 G2, rt := D.rt, bk := D.nx, ct := fun s2 G2 => ∃ m', m' < m ∧ W m' s2 G2, ex := D.ex } else D.nx ss G1
/-- a comprehension's turns; D the new list -/
def lcW (stay : Gp → Prop) (g : Tg) (own : List Nat) (cond elt : Sl → Gp → QT → Prop) (D : Addr) (ss : Sl) (Q : QT) : List T → Gp → Prop
  | [], G => stay G ∧ Q (.ref D) G
  | x :: r, G => stay G ∧ tgW g x (wipeT ss own) fun s1 => cond s1 G fun c G1 => ∃ b, c = .bl b ∧
      if b = true then elt s1 G1 fun y G2 => ∃ acc, G2 D = some (.lst acc) ∧ acc.length < line ∧ lcW stay g own cond elt D ss Q r (gu G2 D (.lst (acc ++ [y]))) else lcW stay g own cond elt D ss Q r G1

/-- the turns of all, any over a generator expression -/
def genW (stay : Gp → Prop) (all : Bool) (x : Nat) (elt : Sl → Gp → QT → Prop) (ss : Sl) (Q : QT) : List T → Gp → Prop
  | [], G => stay G ∧ Q (.bl all) G
  | y :: r, G => stay G ∧ elt (ss.set x (some y)) G fun v G2 => ∃ b, v = .bl b ∧ if b = all then genW stay all x elt ss Q r G2 else Q (.bl (!all)) G2
section
variable (M : Gm)
mutual
def wpE : E → Sl → Gp → XT → QT → Prop
  | .no, _, _, _, _ => False
  | .var i, ss, G, _, Q => ∃ t, ss[i]? = some (some t) ∧ Q t G
  | .kc t, _, G, _, Q => Q t G
  | .gl x, _, G, _, Q => ∃ t, M.cst x = some t ∧ Q t G
  | .tup es, ss, G, X, Q => wpEs es ss G X fun ts G1 => Q (.tup ts) G1
  | .lst es, ss, G, X, Q => wpEs es ss G X fun ts G1 => ∀ p, G1 p = none → Q (.ref p) (gu G1 p (.lst ts))
  | .dct ks es, ss, G, X, Q => ∀ p, G p = none → wpEs es ss (gu G p (.dct [])) X fun ts G1 => G1 p = some (.dct []) ∧ ts.length = ks.length ∧ Q (.ref p) (gu G1 p (.dct ((ks.map Sum.inr).zip ts)))
  | .bin o a b, ss, G, X, Q => wpE a ss G X fun x G1 => wpE b ss G1 X fun y G2 => binW o x y G2 Q
  | .neg a, ss, G, X, Q => wpE a ss G X fun x G1 => ∃ i, x = .int i ∧ Q (.int (-i)) G1
  | .cmp o a b, ss, G, X, Q => wpE a ss G X fun x G1 => wpE b ss G1 X fun y G2 => cmpW o x y G2 Q
  | .land es, ss, G, X, Q => wpAnd es ss G X Q
  | .lor es, ss, G, X, Q => wpOr es ss G X Q
  | .lnot a, ss, G, X, Q => wpE a ss G X fun x G1 => ∃ b, x = .bl b ∧ Q (.bl (!b)) G1
  | .ife c a b, ss, G, X, Q => wpE c ss G X fun x G1 => ∃ k, x = .bl k ∧ if k = true then wpE a ss G1 X Q else wpE b ss G1 X Q
  | .ix a i, ss, G, X, Q => wpE a ss G X fun x G1 => wpE i ss G1 X fun y G2 => ixW x y G2 Q
  | .dx a i, ss, G, X, Q => wpE a ss G X fun x G1 => wpE i ss G1 X fun y G2 => dxW x y G2 Q
  | .sl a lo hi, ss, G, X, Q => wpE a ss G X fun x G1 => wpO lo ss G1 X fun l G2 => wpO hi ss G2 X fun h G3 => slW x l h G3 Q
  | .fld a f, ss, G, X, Q => wpE a ss G X fun x G1 => fldW f x G1 Q
  | .call f es, ss, G, X, Q => ∃ sp, M.fn "" f = some sp ∧ wpEs es ss G X fun ts G1 => sp ts G1 Q X
  | .callv i es, ss, G, X, Q => ∃ p sp, ss[i]? = some (some (.ref p)) ∧ M.fv p = some sp ∧ wpEs es ss G X fun ts G1 => sp ts G1 Q X
  | .meth a m es, ss, G, X, Q => wpE a ss G X fun x G1 => ∃ p C fs sp, x = .ref p ∧ G1 p = some (.ins C fs) ∧ fGet fs m = none ∧ M.fn C m = some sp ∧ wpEs es ss G1 X fun ts G2 => sp (.ref p :: ts) G2 Q X
  | .make C es, ss, G, X, Q => ∃ sp, M.fn C "__init__" = some sp ∧ wpEs es ss G X fun ts G1 => ∀ p, G1 p = none → sp (.ref p :: ts) (gu G1 p (.ins C [])) (fun v G2 => v = .non ∧ Q (.ref p) G2) X
  | .bi f es, ss, G, X, Q => wpEs es ss G X fun ts G1 => biW f ts G1 Q
  | .bm a m es, ss, G, X, Q => wpE a ss G X fun x G1 => bmT m x G1 ∧ wpEs es ss G1 X fun ts G2 => bmW m x ts G2 Q
  | .isi a ty, ss, G, X, Q => wpE a ss G X fun x G1 => isiW ty x G1 Q
  | .isx a C, ss, G, X, Q => ∃ c p, M.xc = some (c, [], p) ∧ M.xnm C = true ∧ wpE a ss G X fun x G1 => x = .ref p ∧ Q (.bl (M.sub c C)) G1
  | .xf a f, ss, G, X, Q => wpE a ss G X fun x G1 => ∃ c fs p v, M.xc = some (c, fs, p) ∧ x = .ref p ∧ fGet fs f = some v ∧ Q v G1
  | .lc elt own g it cond, ss, G, X, Q => wpI it ss G X fun J G1 => ∀ D, G1 D = none →
      lcW J.stay g own (fun s1 G2 Q2 => wpC cond s1 G2 (fun _ _ _ => False) Q2) (fun s1 G2 Q2 => wpE elt s1 G2 (fun _ _ _ => False) Q2) D ss Q J.items (gu G1 D (.lst []))
  | .gen all elt x it, ss, G, X, Q => wpI it ss G X fun J G1 => genW J.stay all x (fun s1 G2 Q2 => wpE elt s1 G2 (fun _ _ _ => False) Q2) ss Q J.items G1
termination_by structural x => x
def wpC : E → Sl → Gp → XT → QT → Prop
  | .no, _, G, _, Q => Q (.bl true) G
  | .var i, ss, G, _, Q => ∃ t, ss[i]? = some (some t) ∧ Q t G
  | .cmp o a b, ss, G, X, Q => wpE a ss G X fun x G1 => wpE b ss G1 X fun y G2 => cmpW o x y G2 Q
  | .isi a ty, ss, G, X, Q => wpE a ss G X fun x G1 => isiW ty x G1 Q
  | _, _, _, _, _ => False
termination_by structural x => x
def wpO : E → Sl → Gp → XT → (Option Int → Gp → Prop) → Prop
  | .no, _, G, _, Q => Q none G
  | .var i, ss, G, _, Q => ∃ j, ss[i]? = some (some (.int j)) ∧ Q (some j) G
  | .kc t, _, G, _, Q => ∃ j, t = .int j ∧ Q (some j) G
  | .neg a, ss, G, X, Q => wpE a ss G X fun x G1 => ∃ i, x = .int i ∧ ∃ j, T.int (-i) = .int j ∧ Q (some j) G1
  | .bin o a b, ss, G, X, Q => wpE a ss G X fun x G1 => wpE b ss G1 X fun y G2 => binW o x y G2 fun z G3 => ∃ j, z = .int j ∧ Q (some j) G3
  | .ix a b, ss, G, X, Q => wpE a ss G X fun x G1 => wpE b ss G1 X fun y G2 => ixW x y G2 fun z G3 => ∃ j, z = .int j ∧ Q (some j) G3
  | .call f es, ss, G, X, Q => ∃ sp, M.fn "" f = some sp ∧ wpEs es ss G X fun ts G1 => sp ts G1 (fun z G3 => ∃ j, z = .int j ∧ Q (some j) G3) X
  | _, _, _, _, _ => False
termination_by structural x => x
def wpEs : Es → Sl → Gp → XT → (List T → Gp → Prop) → Prop
  | .nil, _, G, _, Q => Q [] G
  | .cons e r, ss, G, X, Q => wpE e ss G X fun x G1 => wpEs r ss G1 X fun xs G2 => Q (x :: xs) G2
termination_by structural x => x
def wpAnd : Es → Sl → Gp → XT → QT → Prop
  | .nil, _, _, _, _ => False
  | .cons e .nil, ss, G, X, Q => wpE e ss G X Q
  | .cons e (.cons f r), ss, G, X, Q => wpE e ss G X fun x G1 => ∃ b, x = .bl b ∧ if b = true then wpAnd (.cons f r) ss G1 X Q else Q (.bl false) G1
termination_by structural x => x
def wpOr : Es → Sl → Gp → XT → QT → Prop
  | .nil, _, _, _, _ => False
  | .cons e .nil, ss, G, X, Q => wpE e ss G X Q
  | .cons e (.cons f r), ss, G, X, Q => wpE e ss G X fun x G1 => ∃ b, x = .bl b ∧ if b = true then Q (.bl true) G1 else wpOr (.cons f r) ss G1 X Q
termination_by structural x => x
def wpI : It → Sl → Gp → XT → (Sq → Gp → Prop) → Prop
  | .tup e, ss, G, X, R => wpE e ss G X fun x G1 => ∃ xs, x = .tup xs ∧ R (.fix xs) G1
  | .lst e, ss, G, X, R => wpE e ss G X fun x G1 => ∃ a xs, x = .ref a ∧ G1 a = some (.lst xs) ∧ R (.at_ a xs) G1
  | .str e, ss, G, X, R => wpE e ss G X fun x G1 => ∃ s, x = .str s ∧ R (.fix (s.toList.map fun c => .str (String.singleton c))) G1
  | .rng es, ss, G, X, R => wpEs es ss G X fun ts G1 => rngW ts G1 R
  | .revl e, ss, G, X, R => wpE e ss G X fun x G1 => ∃ a xs, x = .ref a ∧ G1 a = some (.lst xs) ∧ R (.at_ a xs) G1
  | .revt e, ss, G, X, R => wpE e ss G X fun x G1 => ∃ xs, x = .tup xs ∧ R (.fix xs.reverse) G1
  | .revr e, ss, G, X, R => wpE e ss G X fun x G1 => ∃ n : Int, x = .int n ∧ (0 ≤ n ∧ n < 2 ^ 40) ∧ R (.fix (upto (n - 1) (-1) n.toNat)) G1
termination_by structural x => x
end
end
mutual
def wpS : S → Gm → Sl → Gp → En → Prop
  | .asg i e, M, ss, G, D => wpE M e ss G (D.ex ss) fun x G1 => D.nx (ss.set i (some x)) G1
  | .ast is e, M, ss, G, D => wpE M e ss G (D.ex ss) fun x G1 => tgW (.tp is) x ss fun s1 => D.nx s1 G1
  | .astl is e, M, ss, G, D => wpE M e ss G (D.ex ss) fun x G1 => ∃ a xs, x = .ref a ∧ G1 a = some (.lst xs) ∧ tgW (.tp is) (.tup xs) ss fun s1 => D.nx s1 G1
  | .asf o f e, M, ss, G, D => wpE M e ss G (D.ex ss) fun x G1 => wpE M o ss G1 (D.ex ss) fun y G2 => ∃ a C fs, y = .ref a ∧ G2 a = some (.ins C fs) ∧ fs.length < 1000 ∧ M.fld C f = true ∧ D.nx ss (gu G2 a (.ins C (fPut f x fs)))
  | .asi o i e, M, ss, G, D => wpE M e ss G (D.ex ss) fun x G1 => wpE M o ss G1 (D.ex ss) fun y G2 => wpE M i ss G2 (D.ex ss) fun z G3 => ∃ a xs k j, y = .ref a ∧ z = .int k ∧ G3 a = some (.lst xs) ∧ ixN xs.length k = some j ∧ D.nx ss (gu G3 a (.lst (xs.set j x)))
  | .asd o i e, M, ss, G, D => wpE M e ss G (D.ex ss) fun x G1 => wpE M o ss G1 (D.ex ss) fun y G2 => wpE M i ss G2 (D.ex ss) fun z G3 => ∃ a kvs k, y = .ref a ∧ keyT z = some k ∧ G3 a = some (.dct kvs) ∧ kvs.length < line ∧ D.nx ss (gu G3 a (.dct (dPut kvs k x)))
  | .ex e, M, ss, G, D => wpE M e ss G (D.ex ss) fun _ G1 => D.nx ss G1
  | .ret e, M, ss, G, D => wpE M e ss G (D.ex ss) D.rt
  | .retn, M, _, G, D => D.rt .non G
  | .ite c a b, M, ss, G, D => wpE M c ss G (D.ex ss) fun x G1 => ∃ k, x = .bl k ∧ if k = true then wpSs a M ss G1 D else wpSs b M ss G1 D
  | .for_ g it body, M, ss, G, D => wpI M it ss G (D.ex ss) fun J G1 => forW J.stay g (fun s2 G2 D2 => wpSs body M s2 G2 D2) D J.items ss G1
  | .whl c body, M, ss, G, D => whlW (fun s2 G2 X Q => wpE M c s2 G2 X Q) (fun s2 G2 D2 => wpSs body M s2 G2 D2) D ss G
  | .pass, M, ss, G, D => D.nx ss G
  | .raise C es, M, ss, G, D => wpEs M es ss G (D.ex ss) fun ts G1 => ∃ fs, M.xfs C = some fs ∧ fs.length = ts.length ∧ D.ex ss C (fs.zip ts) G1
  | .try_ body C i suite, M, ss, G, D => M.xnm C = true ∧ wpSs body M ss G { nx := D.nx, rt := D.rt, bk := D.bk, ct := D.ct, ex := fun s1 c fs G1 => (M.sub c C = true → ∀ p, G1 p = none → wpSs suite { M with xc := some (c, fs, p) } (s1.set i (some (.ref p))) G1 { nx := fun s2 G2 => D.nx (s2.set i none) G2, rt := D.rt, bk := fun s2 G2 => D.bk (s2.set i none) G2, ct := fun s2 G2 => D.ct (s2.set i none) G2, ex := fun _ _ _ _ => False }) ∧ (M.sub c C = false → D.ex s1 c fs G1) }
termination_by structural x => x
def wpSs : Ss → Gm → Sl → Gp → En → Prop
  | .nil, M, ss, G, D => D.nx ss G
  | .cons s r, M, ss, G, D => wpS s M ss G { D with nx := fun s1 G1 => wpSs r M s1 G1 D }
termination_by structural x => x
end
end SK

set_option Elab.async false
set_option linter.all false
set_option maxRecDepth 100000
/-! SK3: operators, subscripts, builtins by values: the layer's rules give what the wp asks. -/
namespace SK
open PySem PySem.Spec PyProof.Rows L2

section
variable {S : Stc} {K : PySem.W.Frag} {H : Hp}
theorem rt_non : RT K H .non .non := by unfold RT; rfl
theorem rt_bl {b : Bool} : RT K H (.bl b) (.bl b) := by unfold RT; rfl
theorem rt_int {i : Int} : RT K H (.int i) (.int i) := by unfold RT; rfl
theorem rt_str {s : String} : RT K H (.str s) (.str (Str.ofString s)) := by unfold RT; rfl
theorem rt_ref {a : Addr} : RT K H (.ref a) (.ref a) := by unfold RT; rfl
theorem rt_tup {a : Addr} {ts : List T} {vs : List V} (h : SqT K H a vs) (r : RTs K H ts vs) : RT K H (.tup ts) (.ref a) := by unfold RT; exact ⟨a, vs, rfl, h, r⟩
theorem of_non {v : V} (h : RT K H .non v) : v = .non := by unfold RT at h; exact h
theorem of_bl {b : Bool} {v : V} (h : RT K H (.bl b) v) : v = .bl b := by unfold RT at h; exact h
theorem of_int {i : Int} {v : V} (h : RT K H (.int i) v) : v = .int i := by unfold RT at h; exact h
theorem of_str {s : String} {v : V} (h : RT K H (.str s) v) : v = .str (Str.ofString s) := by unfold RT at h; exact h
theorem of_ref {a : Addr} {v : V} (h : RT K H (.ref a) v) : v = .ref a := by unfold RT at h; exact h
theorem of_tup {ts : List T} {v : V} (h : RT K H (.tup ts) v) : ∃ a vs, v = .ref a ∧ SqT K H a vs ∧ RTs K H ts vs := by unfold RT at h; exact h
theorem of_frl {ts : List T} {v : V} (h : RT K H (.frl ts) v) : ∃ a vs, v = .ref a ∧ FL K H a vs ∧ RTs K H ts vs := by unfold RT at h; exact h
end

/-- what follows, from the wp's wish to the layer's -/
def Cont (S : Stc) (K : PySem.W.Frag) (H : Hp) (Q' : QT) (Q : VK) : Prop := ∀ t G' v H', HX H H' → RT K H' t v → Sim S K H' G' → Q' t G' → Q v H'
theorem Cont.step {S : Stc} {K : PySem.W.Frag} {H H1 : Hp} {Q' : QT} {Q : VK} (c : Cont S K H Q' Q) (x : HX H H1) : Cont S K H1 Q' Q := fun t G' v H' x' r m q => c t G' v H' (x.trans x') r m q
def up1 (S : Stc) (K : PySem.W.Frag) (f : T → Gp → QT → Prop) : V → Hp → VK → Prop := fun v H Q => ∃ x G Q', RT K H x v ∧ Sim S K H G ∧ f x G Q' ∧ Cont S K H Q' Q
def up2 (S : Stc) (K : PySem.W.Frag) (f : T → T → Gp → QT → Prop) : R2 := fun v u H Q => ∃ x y G Q', RT K H x v ∧ RT K H y u ∧ Sim S K H G ∧ f x y G Q' ∧ Cont S K H Q' Q
def upL (S : Stc) (K : PySem.W.Frag) (f : List T → Gp → QT → Prop) : List V → Hp → VK → Prop := fun vs H Q => ∃ xs G Q', RTs K H xs vs ∧ Sim S K H G ∧ f xs G Q' ∧ Cont S K H Q' Q
def upM (S : Stc) (K : PySem.W.Frag) (f : T → List T → Gp → QT → Prop) : V → List V → Hp → VK → Prop := fun v vs H Q => ∃ x xs G Q', RT K H x v ∧ RTs K H xs vs ∧ Sim S K H G ∧ f x xs G Q' ∧ Cont S K H Q' Q

section
variable {S : Stc} {K : PySem.W.Frag} {H : Hp} {G : Gp} {Q' : QT} {Q : VK}
/-- nothing has changed -/
theorem Cont.here (c : Cont S K H Q' Q) (m : Sim S K H G) {t : T} {v : V} (r : RT K H t v) (q : Q' t G) : Q v H := c t G v H (HX.refl H) r m q
theorem line_eq : line = sizeLine := by rw [sizeLine_eq]
theorem le_line {n : Nat} (h : n ≤ line) : n ≤ sizeLine := line_eq ▸ h
theorem lt_line {n : Nat} (h : n < line) : n < sizeLine := line_eq ▸ h
/-- a list of G -/
theorem Sim.lst (m : Sim S K H G) {a : Addr} {xs : List T} (e : G a = some (.lst xs)) : ∃ vs, H a = some (.lst vs) ∧ RTs K H xs vs := by
  obtain ⟨ho, h1, vs, rfl, h2⟩ := m.obj a _ e
  exact ⟨vs, h1, h2⟩
theorem Sim.dct (m : Sim S K H G) {a : Addr} {xs : List (DK × T)} (e : G a = some (.dct xs)) : ∃ l, H a = some (.dK l) ∧ RK K H xs l := by
  obtain ⟨ho, h1, vs, rfl, h2⟩ := m.obj a _ e
  exact ⟨vs, h1, h2⟩
theorem Sim.ins (m : Sim S K H G) {a : Addr} {C : String} {fs : List (String × T)} (e : G a = some (.ins C fs)) : ∃ ca dx l, H a = some (.ins ca dx l) ∧ S.cls C = some ca ∧ RF K H fs l ∧ ∀ p ∈ fs, S.fld C p.1 = true := by
  obtain ⟨ho, h1, ca, dx, l, rfl, h2⟩ := m.obj a _ e
  exact ⟨ca, dx, l, h1, h2⟩
/-- a new list, a new dict, a new tuple -/
theorem Cont.newL (c : Cont S K H Q' Q) (m : Sim S K H G) {p : Addr} {ts : List T} {vs : List V} (hp : H p = none) (r : RTs K H ts vs) (q : ∀ p, G p = none → Q' (.ref p) (gu G p (.lst ts))) : Q (.ref p) (upd H p (.lst vs)) :=
  c _ _ _ _ (HX.new hp) rt_ref (m.new hp (show RO S K _ (.lst ts) (.lst vs) from ⟨vs, rfl, RTs.mono (HX.new hp) _ _ r⟩)) (q p (m.free hp))
theorem Cont.newD (c : Cont S K H Q' Q) (m : Sim S K H G) {p : Addr} {ts : List (DK × T)} {vs : List (Key × V)} (hp : H p = none) (r : RK K H ts vs) (q : ∀ p, G p = none → Q' (.ref p) (gu G p (.dct ts))) : Q (.ref p) (upd H p (.dK vs)) :=
  c _ _ _ _ (HX.new hp) rt_ref (m.new hp (show RO S K _ (.dct ts) (.dK vs) from ⟨vs, rfl, RK.mono (HX.new hp) _ _ r⟩)) (q p (m.free hp))
theorem Cont.newT (c : Cont S K H Q' Q) (m : Sim S K H G) {p : Addr} {ts : List T} {vs : List V} (hp : H p = none) (r : RTs K H ts vs) (q : Q' (.tup ts) G) : Q (.ref p) (upd H p (.tup vs)) :=
  c _ _ _ _ (HX.new hp) (rt_tup (.of upd_same) (RTs.mono (HX.new hp) _ _ r)) (m.aside hp) q
theorem RTs.empty {ts : List T} {vs : List V} (r : RTs K H ts vs) : vs = [] ↔ ts = [] := by
  have := r.length
  constructor
  · intro e; subst e; exact List.eq_nil_of_length_eq_zero (by simpa using this)
  · intro e; subst e; exact List.eq_nil_of_length_eq_zero (by simpa using this.symm)
end

section
variable {X : Cx} {S : Stc}
theorem op_addW : OpR X (binaryOp .Add) (up2 S X.K addW) := by
  intro pins s σ H v u v' u' Q I r1 r2 ⟨x, y, G, Q', hx, hy, sm, w, c⟩
  cases x <;> cases y <;> (try exact False.elim w)
  case int.int i j =>
    cases of_int hx; cases of_int hy
    exact op_add pins s σ H _ _ _ _ Q I r1 r2 ⟨_, _, rfl, rfl, c.here sm rt_int w⟩
  case str.str a b =>
    cases of_str hx; cases of_str hy
    obtain ⟨hl, w⟩ := w
    refine op_add_str pins s σ H _ _ _ _ Q I r1 r2 ⟨_, _, rfl, rfl, by rw [ofS_len, ofS_len]; exact le_line hl, ?_⟩
    rw [← ofS_append]
    exact c.here sm rt_str w
  case tup.tup xs ys =>
    obtain ⟨a, vs, rfl, ha, ra⟩ := of_tup hx
    obtain ⟨b, us, rfl, hb, rb⟩ := of_tup hy
    obtain ⟨hl, w⟩ := w
    refine op_catA pins s σ H _ _ _ _ Q I r1 r2 ⟨_, _, _, _, rfl, rfl, ha, hb, by rw [← ra.length, ← rb.length]; exact le_line hl, fun e => ?_, fun _ e => ?_, fun _ _ p hp => ?_⟩
    · have e2 := ra.empty.mp e
      subst e2
      exact c.here sm (rt_tup hb rb) w
    · have e2 := rb.empty.mp e
      subst e2
      rw [List.append_nil] at w
      exact c.here sm (rt_tup ha ra) w
    · exact c.newT sm hp (ra.append rb) w
  case ref.ref a b =>
    cases of_ref hx; cases of_ref hy
    obtain ⟨xs, ys, ea, eb, hl, w⟩ := w
    obtain ⟨vs, ha, ra⟩ := sm.lst ea
    obtain ⟨us, hb, rb⟩ := sm.lst eb
    exact op_cat pins s σ H _ _ _ _ Q I r1 r2 ⟨_, _, _, _, rfl, rfl, ha, hb, by rw [← ra.length, ← rb.length]; exact le_line hl, fun p hp => c.newL sm hp (ra.append rb) w⟩
theorem op_subW : OpR X (binaryOp .Sub) (up2 S X.K subW) := by
  intro pins s σ H v u v' u' Q I r1 r2 ⟨x, y, G, Q', hx, hy, sm, w, c⟩
  cases x <;> cases y <;> (try exact False.elim w)
  case int.int i j =>
    cases of_int hx; cases of_int hy
    exact op_sub pins s σ H _ _ _ _ Q I r1 r2 ⟨_, _, rfl, rfl, c.here sm rt_int w⟩
theorem op_fdvW : OpR X (binaryOp .FloorDiv) (up2 S X.K fdvW) := by
  intro pins s σ H v u v' u' Q I r1 r2 ⟨x, y, G, Q', hx, hy, sm, w, c⟩
  cases x <;> cases y <;> (try exact False.elim w)
  case int.int i j =>
    cases of_int hx; cases of_int hy
    exact op_fdiv pins s σ H _ _ _ _ Q I r1 r2 ⟨_, _, rfl, rfl, w.1, c.here sm rt_int w.2⟩
theorem op_modW : OpR X (binaryOp .Mod) (up2 S X.K modW) := by
  intro pins s σ H v u v' u' Q I r1 r2 ⟨x, y, G, Q', hx, hy, sm, w, c⟩
  cases x <;> cases y <;> (try exact False.elim w)
  case int.int i j =>
    cases of_int hx; cases of_int hy
    exact op_mod pins s σ H _ _ _ _ Q I r1 r2 ⟨_, _, rfl, rfl, w.1, c.here sm rt_int w.2⟩
theorem op_powW : OpR X (binaryOp .Pow) (up2 S X.K powW) := by
  intro pins s σ H v u v' u' Q I r1 r2 ⟨x, y, G, Q', hx, hy, sm, w, c⟩
  cases x <;> cases y <;> (try exact False.elim w)
  case int.int i j =>
    cases of_int hx; cases of_int hy
    exact op_pow pins s σ H _ _ _ _ Q I r1 r2 ⟨_, _, rfl, rfl, w.1, c.here sm rt_int w.2⟩
theorem op_mulW : OpR X (binaryOp .Mult) (up2 S X.K mulW) := by
  intro pins s σ H v u v' u' Q I r1 r2 ⟨x, y, G, Q', hx, hy, sm, w, c⟩
  cases x <;> cases y <;> (try exact False.elim w)
  case int.int i j =>
    cases of_int hx; cases of_int hy
    exact op_mul pins s σ H _ _ _ _ Q I r1 r2 ⟨_, _, rfl, rfl, w.1, c.here sm rt_int w.2⟩
  case tup.int xs k =>
    obtain ⟨a, vs, rfl, ha, ra⟩ := of_tup hx
    cases of_int hy
    obtain ⟨hne, hl, h2, h3, w⟩ := w
    exact op_repT pins s σ H _ _ _ _ Q I r1 r2 ⟨_, _, _, rfl, rfl, ha, fun e => hne (ra.empty.mp e), h2, h3, by rw [← ra.length]; exact hl, fun p hp => c.newT sm hp (ra.rep _) w⟩
  case ref.int a k =>
    cases of_ref hx; cases of_int hy
    obtain ⟨xs, ea, h1, h2, hl, w⟩ := w
    obtain ⟨vs, ha, ra⟩ := sm.lst ea
    exact op_rep pins s σ H _ _ _ _ Q I r1 r2 ⟨_, _, _, rfl, rfl, ha, h1, h2, by rw [← ra.length]; exact le_line hl, fun p hp => c.newL sm hp (ra.rep _) w⟩
end

/-! ### comparisons -/
mutual
def toD : T → PyData
  | .non => .none
  | .bl b => .bool b
  | .int i => .int i
  | .str s => .str (Str.ofString s)
  | .tup xs => .tuple (toDs xs)
  | _ => .none
def toDs : List T → List PyData
  | [] => []
  | x :: xs => toD x :: toDs xs
end
theorem strOk_ofS (a : String) : PyData.strOk (Str.ofString a) = true := by
  unfold PyData.strOk
  rw [Str.ofString_eq_toList]
  simp only [List.all_toArray, List.all_map, List.all_eq_true]
  intro c _
  have h := c.valid
  simp only [UInt32.isValidChar, Nat.isValidChar] at h
  simp only [Function.comp, decide_eq_true_eq]
  show c.val.toNat < 1114112
  omega
section
variable {K : PySem.W.Frag} {H : Hp}
mutual
theorem dp_of : ∀ (x : T) (n : Nat) (v : V), isD n x = true → RT K H x v → Dp K H v (toD x)
  | .non, n, v, _, r => by rw [of_non r]; exact .non
  | .bl b, n, v, _, r => by rw [of_bl r]; exact .bl b
  | .int i, n, v, _, r => by rw [of_int r]; exact .int i
  | .str s, n, v, _, r => by rw [of_str r]; exact .str _
  | .tup xs, 0, v, h, _ => by simp [isD] at h
  | .tup xs, n + 1, v, h, r => by
    obtain ⟨a, vs, rfl, q, rr⟩ := of_tup r
    unfold toD
    exact .tup q (dps_of xs n vs (by simpa [isD] using h) rr)
  | .frl xs, n, v, h, _ => by simp [isD] at h
  | .ref a, n, v, h, _ => by simp [isD] at h
theorem dps_of : ∀ (xs : List T) (n : Nat) (vs : List V), isDs n xs = true → RTs K H xs vs → DpAll K H vs (toDs xs)
  | [], n, vs, _, r => by unfold RTs at r; subst r; exact .nil
  | x :: xs, n, vs, h, r => by
    unfold RTs at r
    obtain ⟨v, r', rfl, h1, h2⟩ := r
    unfold isDs at h
    rw [Bool.and_eq_true] at h
    exact .cons (dp_of x n v h.1 h1) (dps_of xs n r' h.2 h2)
end
end
mutual
theorem lay_of : ∀ (x : T) (n : Nat), isD n x = true → (toD x).canLay0 = true ∧ (toD x).depth ≤ n
  | .non, n, _ => ⟨by simp [toD, PyData.canLay0], by simp [toD, PyData.depth]⟩
  | .bl b, n, _ => ⟨by simp [toD, PyData.canLay0], by simp [toD, PyData.depth]⟩
  | .int i, n, _ => ⟨by simp [toD, PyData.canLay0], by simp [toD, PyData.depth]⟩
  | .str s, n, _ => ⟨by simp only [toD, PyData.canLay0]; exact strOk_ofS s, by simp [toD, PyData.depth]⟩
  | .tup xs, 0, h => by simp [isD] at h
  | .tup xs, n + 1, h => by
    have z := lays_of xs n (by simpa [isD] using h)
    exact ⟨by simp only [toD, PyData.canLay0]; exact z.1, by simp only [toD, PyData.depth]; exact Nat.succ_le_succ z.2⟩
  | .frl xs, n, h => by simp [isD] at h
  | .ref a, n, h => by simp [isD] at h
theorem lays_of : ∀ (xs : List T) (n : Nat), isDs n xs = true → PyData.canLayAll0 (toDs xs) = true ∧ PyData.depthAll (toDs xs) ≤ n
  | [], n, _ => ⟨by simp [toDs, PyData.canLayAll0], by simp [toDs, PyData.depthAll]⟩
  | x :: xs, n, h => by
    unfold isDs at h
    rw [Bool.and_eq_true] at h
    have z1 := lay_of x n h.1
    have z2 := lays_of xs n h.2
    exact ⟨by simp only [toDs, PyData.canLayAll0, z1.1, z2.1, Bool.and_self], by simp only [toDs, PyData.depthAll]; exact Nat.max_le.mpr ⟨z1.2, z2.2⟩⟩
end
theorem shaped_of {x : T} (h : isD 60 x = true) : SeqAt.shaped (toD x) = true := by
  have z := lay_of x 60 h
  unfold SeqAt.shaped
  rw [z.1, Bool.true_and]
  exact decide_eq_true (by omega)
theorem ofS_beq (a b : String) : (Str.ofString a == Str.ofString b) = (a == b) := by
  rw [Bool.eq_iff_iff, beq_iff_eq, beq_iff_eq]
  exact ofS_iff
mutual
theorem teq_eqv : ∀ (x y : T) (n m : Nat), isD n x = true → isD m y = true → PyData.eqv (toD x) (toD y) = teq x y
  | .tup xs, .tup ys, n, m, h1, h2 => by
    cases n with
    | zero => simp [isD] at h1
    | succ n =>
      cases m with
      | zero => simp [isD] at h2
      | succ m =>
        simp only [toD, PyData.eqv, teq]
        exact teqs_eqv xs ys n m (by simpa [isD] using h1) (by simpa [isD] using h2)
  | .frl xs, _, n, m, h1, h2 => by simp [isD] at h1
  | .ref xs, _, n, m, h1, h2 => by simp [isD] at h1
  | _, .frl xs, n, m, h1, h2 => by simp [isD] at h2
  | _, .ref xs, n, m, h1, h2 => by simp [isD] at h2
  | .str a, .str b, n, m, h1, h2 => by simp only [toD, PyData.eqv, teq]; exact ofS_beq a b
  | .non, .non, _, _, _, _ | .non, .bl _, _, _, _, _ | .non, .int _, _, _, _, _ | .non, .str _, _, _, _, _ | .non, .tup _, _, _, _, _
  | .bl _, .non, _, _, _, _ | .bl _, .bl _, _, _, _, _ | .bl _, .int _, _, _, _, _ | .bl _, .str _, _, _, _, _ | .bl _, .tup _, _, _, _, _
  | .int _, .non, _, _, _, _ | .int _, .bl _, _, _, _, _ | .int _, .int _, _, _, _, _ | .int _, .str _, _, _, _, _ | .int _, .tup _, _, _, _, _
  | .str _, .non, _, _, _, _ | .str _, .bl _, _, _, _, _ | .str _, .int _, _, _, _, _ | .str _, .tup _, _, _, _, _
  | .tup _, .non, _, _, _, _ | .tup _, .bl _, _, _, _, _ | .tup _, .int _, _, _, _, _ | .tup _, .str _, _, _, _, _ => by simp only [toD, PyData.eqv, teq]
theorem teqs_eqv : ∀ (xs ys : List T) (n m : Nat), isDs n xs = true → isDs m ys = true → PyData.eqvAll (toDs xs) (toDs ys) = teqs xs ys
  | [], [], _, _, _, _ => by simp only [toDs, PyData.eqvAll, teqs]
  | [], _ :: _, _, _, _, _ => by simp only [toDs, PyData.eqvAll, teqs]
  | _ :: _, [], _, _, _, _ => by simp only [toDs, PyData.eqvAll, teqs]
  | x :: xs, y :: ys, n, m, h1, h2 => by
    unfold isDs at h1 h2
    rw [Bool.and_eq_true] at h1 h2
    simp only [toDs, PyData.eqvAll, teqs]
    rw [teq_eqv x y n m h1.1 h2.1, teqs_eqv xs ys n m h1.2 h2.2]
end
section
variable {X : Cx} {S : Stc}
theorem op_eqW (hu : X.A.units + 64 < cLine) : OpR X (compareOp .Eq) (up2 S X.K (cmpW .eq)) := by
  intro pins s σ H v u v' u' Q I r1 r2 ⟨x, y, G, Q', hx, hy, sm, w, c⟩
  obtain ⟨d1, d2, w⟩ := w
  refine op_eqD hu pins s σ H _ _ _ _ Q I r1 r2 ⟨_, _, dp_of x 60 _ d1 hx, dp_of y 60 _ d2 hy, shaped_of d1, shaped_of d2, ?_⟩
  rw [teq_eqv x y 60 60 d1 d2]
  exact c.here sm rt_bl w
theorem op_neW (hu : X.A.units + 64 < cLine) : OpR X (compareOp .NotEq) (up2 S X.K (cmpW .ne)) := by
  intro pins s σ H v u v' u' Q I r1 r2 ⟨x, y, G, Q', hx, hy, sm, w, c⟩
  obtain ⟨d1, d2, w⟩ := w
  refine op_neD hu pins s σ H _ _ _ _ Q I r1 r2 ⟨_, _, dp_of x 60 _ d1 hx, dp_of y 60 _ d2 hy, shaped_of d1, shaped_of d2, ?_⟩
  rw [teq_eqv x y 60 60 d1 d2]
  exact c.here sm rt_bl w
theorem op_ltW : OpR X (compareOp .Lt) (up2 S X.K (cmpW .lt)) := by
  intro pins s σ H v u v' u' Q I r1 r2 ⟨x, y, G, Q', hx, hy, sm, w, c⟩
  cases x <;> cases y <;> (try exact False.elim w)
  cases of_int hx; cases of_int hy
  exact op_lt pins s σ H _ _ _ _ Q I r1 r2 ⟨_, _, rfl, rfl, c.here sm rt_bl w⟩
theorem op_leW : OpR X (compareOp .LtE) (up2 S X.K (cmpW .le)) := by
  intro pins s σ H v u v' u' Q I r1 r2 ⟨x, y, G, Q', hx, hy, sm, w, c⟩
  cases x <;> cases y <;> (try exact False.elim w)
  cases of_int hx; cases of_int hy
  exact op_le pins s σ H _ _ _ _ Q I r1 r2 ⟨_, _, rfl, rfl, c.here sm rt_bl w⟩
theorem op_gtW : OpR X (compareOp .Gt) (up2 S X.K (cmpW .gt)) := by
  intro pins s σ H v u v' u' Q I r1 r2 ⟨x, y, G, Q', hx, hy, sm, w, c⟩
  cases x <;> cases y <;> (try exact False.elim w)
  cases of_int hx; cases of_int hy
  exact op_gt pins s σ H _ _ _ _ Q I r1 r2 ⟨_, _, rfl, rfl, c.here sm rt_bl w⟩
theorem op_geW : OpR X (compareOp .GtE) (up2 S X.K (cmpW .ge)) := by
  intro pins s σ H v u v' u' Q I r1 r2 ⟨x, y, G, Q', hx, hy, sm, w, c⟩
  cases x <;> cases y <;> (try exact False.elim w)
  cases of_int hx; cases of_int hy
  exact op_ge pins s σ H _ _ _ _ Q I r1 r2 ⟨_, _, rfl, rfl, c.here sm rt_bl w⟩
theorem isN_eq {x : T} {v : V} {K : PySem.W.Frag} {H : Hp} (r : RT K H x v) : decide (v = .non) = isNT x := by
  cases x with
  | non => rw [of_non r]; rfl
  | bl b => rw [of_bl r]; rfl
  | int b => rw [of_int r]; rfl
  | str b => rw [of_str r]; rfl
  | ref b => rw [of_ref r]; rfl
  | tup xs => obtain ⟨a, vs, rfl, _⟩ := of_tup r; rfl
  | frl xs => obtain ⟨a, vs, rfl, _⟩ := of_frl r; rfl
theorem op_isNW : OpR X (compareOp .Is) (up2 S X.K (cmpW .isN)) := by
  intro pins s σ H v u v' u' Q I r1 r2 ⟨x, y, G, Q', hx, hy, sm, w, c⟩
  obtain ⟨rfl, w⟩ := w
  refine op_isN pins s σ H _ _ _ _ Q I r1 r2 ⟨of_non hy, ?_⟩
  rw [isN_eq hx]
  exact c.here sm rt_bl w
theorem op_ntNW : OpR X (compareOp .IsNot) (up2 S X.K (cmpW .ntN)) := by
  intro pins s σ H v u v' u' Q I r1 r2 ⟨x, y, G, Q', hx, hy, sm, w, c⟩
  obtain ⟨rfl, w⟩ := w
  refine op_notN pins s σ H _ _ _ _ Q I r1 r2 ⟨of_non hy, ?_⟩
  rw [isN_eq hx]
  exact c.here sm rt_bl w
/-! flat members -/
theorem flat_of {K : PySem.W.Frag} {H : Hp} {x : T} {v : V} (f : flT x = true) (r : RT K H x v) : flatV v = true := by
  cases x <;> first | (cases f; done) | skip
  · rw [of_non r]; rfl
  · rw [of_bl r]; rfl
  · rw [of_int r]; rfl
  · rw [of_str r]; rfl
theorem flats_of {K : PySem.W.Frag} {H : Hp} : ∀ {xs : List T} {vs : List V}, xs.all flT = true → RTs K H xs vs → vs.all flatV = true
  | [], vs, _, r => by unfold RTs at r; subst r; rfl
  | x :: xs, vs, f, r => by
    unfold RTs at r
    obtain ⟨v, r', rfl, h1, h2⟩ := r
    rw [List.all_cons, Bool.and_eq_true] at f
    rw [List.all_cons, flat_of f.1 h1, flats_of f.2 h2]
    rfl
theorem eqV_teq {K : PySem.W.Frag} {H : Hp} {x y : T} {v u : V} (f : flT x = true) (g : flT y = true) (r : RT K H x v) (q : RT K H y u) : eqV v u = teq x y := by
  cases x <;> first | (cases f; done) | skip
  all_goals (cases y <;> first | (cases g; done) | skip)
  all_goals (first | (rw [of_non r]) | (rw [of_bl r]) | (rw [of_int r]) | (rw [of_str r]))
  all_goals (first | (rw [of_non q]) | (rw [of_bl q]) | (rw [of_int q]) | (rw [of_str q]))
  all_goals (simp only [eqV, teq])
  exact ofS_beq _ _
theorem inV_any {K : PySem.W.Frag} {H : Hp} {x : T} {v : V} (f : flT x = true) (r : RT K H x v) : ∀ {xs : List T} {vs : List V}, xs.all flT = true → RTs K H xs vs → inV v vs = xs.any fun y => teq y x
  | [], vs, _, q => by unfold RTs at q; subst q; rfl
  | y :: ys, vs, g, q => by
    unfold RTs at q
    obtain ⟨u, r', rfl, h1, h2⟩ := q
    rw [List.all_cons, Bool.and_eq_true] at g
    have ih := inV_any f r g.2 h2
    unfold inV at ih ⊢
    rw [List.any_cons, List.any_cons, ih, eqV_teq g.1 f h1 r]
theorem ofS_single (c : Char) : Str.ofString (String.singleton c) = ⟨#[c.toNat]⟩ := by
  rw [Str.ofString_eq_toList]
  have : (String.singleton c).toList = [c] := by simp
  rw [this]
  rfl
theorem ofS_cps (a : String) : (Str.ofString a).cps.toList = a.toList.map Char.toNat := by
  rw [Str.ofString_eq_toList]
theorem mem_chars {c : Char} {l : List Char} : c.toNat ∈ l.map Char.toNat ↔ c ∈ l := by
  rw [List.mem_map]
  constructor
  · rintro ⟨d, hd, e⟩
    rw [← Char.toNat_inj.mp e]
    exact hd
  · intro h
    exact ⟨c, h, rfl⟩
theorem op_inW : OpR X (compareOp .In) (up2 S X.K (cmpW .inS)) := by
  intro pins s σ H v u v' u' Q I r1 r2 ⟨x, y, G, Q', hx, hy, sm, w, c⟩
  cases y with
  | tup ys =>
    obtain ⟨a, vs, rfl, ha, ra⟩ := of_tup hy
    have w : flT x = true ∧ ys.all flT = true ∧ Q' (.bl (xor false (ys.any fun y => teq y x))) G := by cases x <;> exact w
    obtain ⟨f1, f2, w⟩ := w
    refine op_in_seq pins s σ H _ _ _ _ Q I r1 r2 ⟨a, vs, rfl, .inr ha, flat_of f1 hx, flats_of f2 ra, ?_⟩
    rw [inV_any f1 hx f2 ra]
    rw [Bool.false_xor] at w
    exact c.here sm rt_bl w
  | ref a =>
    cases of_ref hy
    have w : ∃ ys, G a = some (.lst ys) ∧ flT x = true ∧ ys.all flT = true ∧ Q' (.bl (xor false (ys.any fun y => teq y x))) G := by cases x <;> exact w
    obtain ⟨ys, ea, f1, f2, w⟩ := w
    obtain ⟨vs, ha, ra⟩ := sm.lst ea
    refine op_in_seq pins s σ H _ _ _ _ Q I r1 r2 ⟨a, vs, rfl, .inl (.of ha), flat_of f1 hx, flats_of f2 ra, ?_⟩
    rw [inV_any f1 hx f2 ra]
    rw [Bool.false_xor] at w
    exact c.here sm rt_bl w
  | str b =>
    cases x <;> (try exact False.elim w)
    obtain ⟨d, rfl, w⟩ := w
    cases of_str hx; cases of_str hy
    refine op_in_sign pins s σ H _ _ _ _ Q I r1 r2 ⟨d.toNat, Str.ofString b, by rw [ofS_single], rfl, ?_⟩
    rw [Bool.false_xor] at w
    rw [ofS_cps, decide_eq_decide.mpr mem_chars]
    exact c.here sm rt_bl w
  | _ => cases x <;> exact False.elim w
theorem op_niW : OpR X (compareOp .NotIn) (up2 S X.K (cmpW .niS)) := by
  intro pins s σ H v u v' u' Q I r1 r2 ⟨x, y, G, Q', hx, hy, sm, w, c⟩
  cases y with
  | tup ys =>
    obtain ⟨a, vs, rfl, ha, ra⟩ := of_tup hy
    have w : flT x = true ∧ ys.all flT = true ∧ Q' (.bl (xor true (ys.any fun y => teq y x))) G := by cases x <;> exact w
    obtain ⟨f1, f2, w⟩ := w
    refine op_notIn_seq pins s σ H _ _ _ _ Q I r1 r2 ⟨a, vs, rfl, .inr ha, flat_of f1 hx, flats_of f2 ra, ?_⟩
    rw [inV_any f1 hx f2 ra]
    rw [Bool.true_xor] at w
    exact c.here sm rt_bl w
  | ref a =>
    cases of_ref hy
    have w : ∃ ys, G a = some (.lst ys) ∧ flT x = true ∧ ys.all flT = true ∧ Q' (.bl (xor true (ys.any fun y => teq y x))) G := by cases x <;> exact w
    obtain ⟨ys, ea, f1, f2, w⟩ := w
    obtain ⟨vs, ha, ra⟩ := sm.lst ea
    refine op_notIn_seq pins s σ H _ _ _ _ Q I r1 r2 ⟨a, vs, rfl, .inl (.of ha), flat_of f1 hx, flats_of f2 ra, ?_⟩
    rw [inV_any f1 hx f2 ra]
    rw [Bool.true_xor] at w
    exact c.here sm rt_bl w
  | str b =>
    cases x <;> (try exact False.elim w)
    obtain ⟨d, rfl, w⟩ := w
    cases of_str hx; cases of_str hy
    refine op_notIn_sign pins s σ H _ _ _ _ Q I r1 r2 ⟨d.toNat, Str.ofString b, by rw [ofS_single], rfl, ?_⟩
    rw [Bool.true_xor] at w
    rw [ofS_cps, decide_eq_decide.mpr mem_chars]
    exact c.here sm rt_bl w
  | _ => cases x <;> exact False.elim w

/-! ### subscripts -/
theorem tAt_atI {α : Type} (xs : List α) (i : Int) : tAt xs i = atI xs i := by
  unfold tAt atI ixN
  split
  · split
    · rfl
    · rename_i h1 h2
      rw [List.getElem?_eq_none (by omega)]
      rfl
  · split
    · rfl
    · rfl
theorem RTs.at_ {K : PySem.W.Frag} {H : Hp} {xs : List T} {vs : List V} {i : Int} {t : T} (r : RTs K H xs vs) (h : tAt xs i = some t) : ∃ v, atI vs i = some v ∧ RT K H t v := by
  rw [← tAt_atI]
  unfold tAt at h ⊢
  rw [← r.length]
  split at h
  · rename_i h0
    rw [if_pos h0]
    exact r.get h
  · rename_i h0
    rw [if_neg h0]
    split at h
    · rename_i h1
      rw [if_pos h1]
      exact r.get h
    · cases h
theorem ix_W : IxR X (up2 S X.K ixW) := by
  intro value slice pins s σ H v u v' u' Q I r1 r2 ⟨x, y, G, Q', hx, hy, sm, w, c⟩ hs
  cases y <;> (try (cases x <;> exact False.elim w))
  rename_i i
  cases of_int hy
  cases x <;> (try exact False.elim w)
  case tup xs =>
    obtain ⟨a, vs, rfl, ha, ra⟩ := of_tup hx
    obtain ⟨t, e, w⟩ := w
    obtain ⟨z, e2, rz⟩ := ra.at_ e
    exact ix_tup value slice pins s σ H _ _ _ _ Q I r1 r2 ⟨_, _, _, _, rfl, rfl, ha, e2, c.here sm rz w⟩ hs
  case frl xs =>
    obtain ⟨a, vs, rfl, ha, ra⟩ := of_frl hx
    obtain ⟨t, e, w⟩ := w
    obtain ⟨z, e2, rz⟩ := ra.at_ e
    exact ix_list value slice pins s σ H _ _ _ _ Q I r1 r2 ⟨_, _, _, _, rfl, rfl, ha.sql, e2, c.here sm rz w⟩ hs
  case ref a =>
    cases of_ref hx
    obtain ⟨xs, t, ea, e, w⟩ := w
    obtain ⟨vs, ha, ra⟩ := sm.lst ea
    obtain ⟨z, e2, rz⟩ := ra.at_ e
    exact ix_list value slice pins s σ H _ _ _ _ Q I r1 r2 ⟨_, _, _, _, rfl, rfl, .of ha, e2, c.here sm rz w⟩ hs
  case str b =>
    cases of_str hx
    obtain ⟨d, hl, e, w⟩ := w
    refine ix_str value slice pins s σ H _ _ _ _ Q I r1 r2 ⟨_, _, d.toNat, rfl, rfl, by rw [ofS_len]; exact le_line hl, ?_, ?_⟩ hs
    · rw [ofS_cps, ← tAt_atI]
      unfold tAt at e ⊢
      simp only [List.length_map, List.getElem?_map]
      split at e
      · rename_i h0
        rw [if_pos h0, e]
        rfl
      · rename_i h0
        rw [if_neg h0]
        split at e
        · rename_i h1
          rw [if_pos h1, e]
          rfl
        · cases e
    · rw [← ofS_single]
      exact c.here sm rt_str w
theorem RTs.cut {K : PySem.W.Frag} {H : Hp} {xs : List T} {vs : List V} (r : RTs K H xs vs) (lo hi : Option Int) : RTs K H (cutT xs lo hi) (cutV vs lo hi) := by
  unfold cutT cutV
  rw [← r.length]
  exact (r.drop _).take _
theorem cutT_whole {α : Type} {xs : List α} {lo hi : Option Int} (h : HT.sIx xs.length 0 lo = 0 ∧ HT.sIx xs.length xs.length hi = xs.length) : cutT xs lo hi = xs := by
  unfold cutT
  rw [h.1, h.2]
  simp
theorem sl_W : SlR X (fun v lo hi H Q => ∃ x G Q', RT X.K H x v ∧ Sim S X.K H G ∧ slW x lo hi G Q' ∧ Cont S X.K H Q' Q) := by
  intro pins s σ H v v' vl vu lo hi sl Q I r1 hs p1 p2 ⟨x, G, Q', hx, sm, w, c⟩
  cases x <;> (try exact False.elim w)
  case tup xs =>
    obtain ⟨a, vs, rfl, ha, ra⟩ := of_tup hx
    have w : Q' (.tup (cutT xs lo hi)) G := w
    refine sl_tupA pins s σ H _ _ _ _ _ _ _ Q I r1 hs p1 p2 ⟨a, vs, rfl, ha, fun e => ?_, fun e p hp => ?_⟩
    · rw [← ra.length] at e
      rw [cutT_whole e] at w
      exact c.here sm (rt_tup ha ra) w
    · exact c.newT sm hp (ra.cut lo hi) w
  case ref a =>
    cases of_ref hx
    obtain ⟨xs, ea, w⟩ := w
    obtain ⟨vs, ha, ra⟩ := sm.lst ea
    exact sl_list pins s σ H _ _ _ _ _ _ _ Q I r1 hs p1 p2 ⟨a, vs, rfl, .of ha, fun p hp => c.newL sm hp (ra.cut lo hi) w⟩
end
end SK

set_option Elab.async false
set_option linter.all false
set_option maxRecDepth 100000
/-! SK4: builtins and methods by values. -/
namespace SK
open PySem PySem.Spec PyProof.Rows L2
section
variable {K : PySem.W.Frag} {H : Hp}
theorem RTs.one_of {x : T} {vs : List V} (r : RTs K H [x] vs) : ∃ v, vs = [v] ∧ RT K H x v := by
  unfold RTs at r
  obtain ⟨v, l, rfl, h1, h2⟩ := r
  unfold RTs at h2
  subst h2
  exact ⟨v, rfl, h1⟩
theorem RTs.two_of {x y : T} {vs : List V} (r : RTs K H [x, y] vs) : ∃ v u, vs = [v, u] ∧ RT K H x v ∧ RT K H y u := by
  unfold RTs at r
  obtain ⟨v, l, rfl, h1, h2⟩ := r
  obtain ⟨u, rfl, h3⟩ := h2.one_of
  exact ⟨v, u, rfl, h1, h3⟩
theorem RTs.nil_of {vs : List V} (r : RTs K H [] vs) : vs = [] := by unfold RTs at r; exact r
theorem RTs.to_bls : ∀ {bs : List Bool} {vs : List V}, RTs K H (bs.map T.bl) vs → vs = bs.map V.bl
  | [], vs, h => by unfold RTs at h; exact h
  | n :: ns, vs, h => by
    rw [List.map_cons] at h
    unfold RTs at h
    obtain ⟨v, r, rfl, h1, h2⟩ := h
    rw [of_bl h1, RTs.to_bls h2]
    rfl
end
section
variable {X : Cx} {S : Stc}
theorem call_lenW : CallR X (.builtin "len") (upL S X.K lenW) := by
  intro pins s σ H vs us Q I r ⟨xs, G, Q', rx, sm, w, c⟩
  rcases xs with _ | ⟨x, _ | ⟨y, _ | ⟨z, r4⟩⟩⟩
  · exact False.elim w
  · cases x <;> (try exact False.elim w)
    case str a =>
      obtain ⟨v, rfl, h⟩ := rx.one_of
      cases of_str h
      refine call_len_str pins s σ H _ us Q I r ⟨_, rfl, by rw [ofS_len]; exact le_line w.1, ?_⟩
      rw [ofS_len]
      exact c.here sm rt_int w.2
    case tup ts =>
      obtain ⟨v, rfl, h⟩ := rx.one_of
      obtain ⟨a, ws, rfl, ha, ra⟩ := of_tup h
      refine call_len_seq pins s σ H _ us Q I r ⟨_, _, rfl, .inr ha, ?_⟩
      rw [← ra.length]
      exact c.here sm rt_int w
    case frl ts =>
      obtain ⟨v, rfl, h⟩ := rx.one_of
      obtain ⟨a, ws, rfl, ha, ra⟩ := of_frl h
      refine call_len_seq pins s σ H _ us Q I r ⟨_, _, rfl, .inl ha.sql, ?_⟩
      rw [← ra.length]
      exact c.here sm rt_int w
    case ref a =>
      obtain ⟨v, rfl, h⟩ := rx.one_of
      cases of_ref h
      obtain ⟨ts, ea, w⟩ := w
      obtain ⟨ws, ha, ra⟩ := sm.lst ea
      refine call_len_seq pins s σ H _ us Q I r ⟨_, _, rfl, .inl (.of ha), ?_⟩
      rw [← ra.length]
      exact c.here sm rt_int w
  · cases x <;> exact False.elim w
  · cases x <;> (try exact False.elim w)
theorem call_intW : CallR X (.type "int") (upL S X.K intW) := by
  intro pins s σ H vs us Q I r ⟨xs, G, Q', rx, sm, w, c⟩
  rcases xs with _ | ⟨x, _ | ⟨y, _ | ⟨z, r4⟩⟩⟩
  · exact False.elim w
  · cases x <;> (try exact False.elim w)
    case int a =>
      obtain ⟨v, rfl, h⟩ := rx.one_of
      cases of_int h
      exact call_int1 pins s σ H _ us Q I r (.inl ⟨_, rfl, c.here sm rt_int w⟩)
  · cases x <;> exact False.elim w
  · cases x <;> (try exact False.elim w)
theorem call_strW : CallR X (.type "str") (upL S X.K strW) := by
  intro pins s σ H vs us Q I r ⟨xs, G, Q', rx, sm, w, c⟩
  rcases xs with _ | ⟨x, _ | ⟨y, _ | ⟨z, r4⟩⟩⟩
  · exact False.elim w
  · cases x <;> (try exact False.elim w)
    case int a =>
      obtain ⟨v, rfl, h⟩ := rx.one_of
      cases of_int h
      exact call_str_int pins s σ H _ us Q I r ⟨_, rfl, w.1, c.here sm rt_str w.2⟩
  · cases x <;> exact False.elim w
  · cases x <;> (try exact False.elim w)
theorem call_tupleW : CallR X (.type "tuple") (upL S X.K tupleW) := by
  intro pins s σ H vs us Q I r ⟨xs, G, Q', rx, sm, w, c⟩
  rcases xs with _ | ⟨x, _ | ⟨y, _ | ⟨z, r4⟩⟩⟩
  · exact False.elim w
  · cases x <;> (try exact False.elim w)
    case tup ts =>
      obtain ⟨v, rfl, h⟩ := rx.one_of
      obtain ⟨a, ws, rfl, ha, ra⟩ := of_tup h
      exact call_tuple_of pins s σ H _ us Q I r ⟨_, _, rfl, .inr ⟨ha, c.here sm (rt_tup ha ra) w⟩⟩
    case ref a =>
      obtain ⟨v, rfl, h⟩ := rx.one_of
      cases of_ref h
      obtain ⟨ts, ea, w⟩ := w
      obtain ⟨ws, ha, ra⟩ := sm.lst ea
      exact call_tuple_of pins s σ H _ us Q I r ⟨_, _, rfl, .inl ⟨.of ha, fun p hp => c.newT sm hp ra w⟩⟩
  · cases x <;> exact False.elim w
  · cases x <;> (try exact False.elim w)
theorem call_listW : CallR X (.type "list") (upL S X.K listW) := by
  intro pins s σ H vs us Q I r ⟨xs, G, Q', rx, sm, w, c⟩
  rcases xs with _ | ⟨x, _ | ⟨y, _ | ⟨z, r4⟩⟩⟩
  · exact False.elim w
  · cases x <;> (try exact False.elim w)
    case tup ts =>
      obtain ⟨v, rfl, h⟩ := rx.one_of
      obtain ⟨a, ws, rfl, ha, ra⟩ := of_tup h
      exact call_list_of pins s σ H _ us Q I r ⟨_, _, rfl, .inr ha, fun p hp => c.newL sm hp ra w⟩
    case ref a =>
      obtain ⟨v, rfl, h⟩ := rx.one_of
      cases of_ref h
      obtain ⟨ts, ea, w⟩ := w
      obtain ⟨ws, ha, ra⟩ := sm.lst ea
      exact call_list_of pins s σ H _ us Q I r ⟨_, _, rfl, .inl (.of ha), fun p hp => c.newL sm hp ra w⟩
  · cases x <;> exact False.elim w
  · cases x <;> (try exact False.elim w)
theorem call_dictW : CallR X (.type "dict") (upL S X.K dictW) := by
  intro pins s σ H vs us Q I r ⟨xs, G, Q', rx, sm, w, c⟩
  rcases xs with _ | ⟨x, _ | ⟨y, _ | ⟨z, r4⟩⟩⟩
  · exact False.elim w
  · cases x <;> (try exact False.elim w)
    case ref a =>
      obtain ⟨v, rfl, h⟩ := rx.one_of
      cases of_ref h
      obtain ⟨ts, ea, w⟩ := w
      obtain ⟨ws, ha, ra⟩ := sm.dct ea
      exact call_dictD pins s σ H _ us Q I r ⟨_, _, rfl, .of ha, fun p hp => c.newD sm hp ra w⟩
  · cases x <;> exact False.elim w
  · cases x <;> (try exact False.elim w)
theorem max_tupRaw {prog : Program} {w : World} {A : Around} {E : Value → Shared → Prop} {s : Shared} {l : Addr} {its : List Value} {ns : List Int} {Q : Value → Shared → Prop} (hh : A.handled = none) (hl : s.heap.IsTuple l its.toArray) (hi : IntsAre its ns) (hne : 0 < ns.length)
    (h : ∀ h' tk M t', (∀ b o, s.heap.get? b = some o → h'.get? b = some o) → M ∈ ns → (∀ a, a ∈ ns → a ≤ M) → Q (.int M t') { s with heap := h', toks := tk }) : wpAny (model prog w) A (call (.builtin "max") [.ref l]) Q E s := by
  obtain ⟨xs, e⟩ := hi.allInts.items
  have hn : numsOf (intItems xs).toList = ns := by rw [← e]; exact hi.numsOf
  rw [nums_intItems] at hn
  subst hn
  rw [e] at hl
  have hsz : 0 < xs.size := by simpa using hne
  have hlt : l < s.heap.objs.size := by obtain ⟨_, e, _⟩ := hl; exact Heap.lt_size e
  refine call_max_walk (wpAny_pyIter_tuple hl ⟨_, _, _, _, _, _, _, rfl, Walks.tuple (A := A.in1) hh _ l (Nat.ne_of_lt hlt) (intItems xs), ⟨⟨_, Heap.get?_push_size _ rfl, rfl, rfl⟩, hl.push _⟩, fun b hb => ?_, by simpa [intItems] using hsz, CmpOf.ints_gt (numAt xs) (fun _ _ => intItems_at), fun v h' tk hP hk => ?_⟩)
  · show b < (s.heap.push _).objs.size
    rw [Heap.size_push]
    rcases List.mem_cons.mp hb with rfl | hb
    · exact Nat.lt_succ_self _
    · rcases List.mem_cons.mp hb with rfl | hb
      · exact Nat.lt_succ_of_lt hlt
      · cases hb
  · have hv : (intItems xs)[argBest (fun i j => decide (numAt xs i > numAt xs j)) (xs.size - 1)]? = some v := by simpa [intItems] using hP
    have hkk : ∀ b o, s.heap.get? b = some o → h'.get? b = some o := fun b o e => by
      refine hk b o (fun hm => ?_) (Heap.get?_push_of_some _ e)
      rcases List.mem_cons.mp hm with e1 | hm
      · exact absurd (e1 ▸ Heap.lt_size e) (Nat.lt_irrefl _)
      · cases hm
    obtain ⟨t, rfl⟩ := intItems_at hv
    obtain ⟨h1, h2⟩ := argBest_gt (numAt xs) (xs.size - 1)
    refine h h' tk _ t hkk ?_ fun a ha => ?_
    · rw [numAt_eq]; exact PySem.getD_mem (by rw [List.length_map, Array.length_toList]; omega)
    · obtain ⟨j, hj, rfl⟩ := mem_getD ha
      rw [List.length_map, Array.length_toList] at hj
      rw [← numAt_eq]; exact h2 j (by omega)
theorem call_maxW (hc : X.calm = true) : CallR X (.builtin "max") (upL S X.K maxW) := by
  intro pins s σ H vs us Q I r ⟨xs, G, Q', rx, sm, w, c⟩
  rcases xs with _ | ⟨x, _ | ⟨y, _ | ⟨z, r4⟩⟩⟩
  · exact False.elim w
  · cases x <;> (try exact False.elim w)
    case ref a =>
      obtain ⟨v, rfl, h⟩ := rx.one_of
      cases of_ref h
      obtain ⟨ns, ea, hl, w⟩ := w
      obtain ⟨ws, ha, ra⟩ := sm.lst ea
      rw [ra.to_ints] at ha
      exact cr_max hc pins s σ H _ us Q I r ⟨_, ns, rfl, .of ha, hl, fun m hm hle => c.here sm rt_int (w m hm hle)⟩
    case tup ts =>
      obtain ⟨v, rfl, h⟩ := rx.one_of
      obtain ⟨a, ws, rfl, ha, ra⟩ := of_tup h
      obtain ⟨ns, e, hl, w⟩ := w
      subst e
      rw [ra.to_ints] at ha
      obtain ⟨its, rv, hlt, _⟩ := I.tuple ha
      rw [Vals.ref1 r]
      exact max_tupRaw (I.ok.hd hc) hlt rv.ints hl fun h' tk m t' hk h1 h2 => ⟨.int _, H, I.kept hk, ⟨_, rfl⟩, c.here sm rt_int (w m h1 h2)⟩
  · cases x <;> (try exact False.elim w)
    cases y <;> (try exact False.elim w)
    rename_i i j
    obtain ⟨v, u, rfl, h, h'⟩ := rx.two_of
    cases of_int h; cases of_int h'
    exact call_max2 hc pins s σ H _ us Q I r ⟨_, _, rfl, c.here sm rt_int w⟩
  · cases x <;> (try exact False.elim w) <;> cases y <;> exact False.elim w
theorem call_minW (hc : X.calm = true) : CallR X (.builtin "min") (upL S X.K minW) := by
  intro pins s σ H vs us Q I r ⟨xs, G, Q', rx, sm, w, c⟩
  rcases xs with _ | ⟨x, _ | ⟨y, _ | ⟨z, r4⟩⟩⟩
  · exact False.elim w
  · cases x <;> exact False.elim w
  · cases x <;> (try exact False.elim w)
    cases y <;> (try exact False.elim w)
    rename_i i j
    obtain ⟨v, u, rfl, h, h'⟩ := rx.two_of
    cases of_int h; cases of_int h'
    exact call_min2 hc pins s σ H _ us Q I r ⟨_, _, rfl, c.here sm rt_int w⟩
  · cases x <;> (try exact False.elim w) <;> cases y <;> exact False.elim w
theorem call_sumW (hc : X.calm = true) : CallR X (.builtin "sum") (upL S X.K sumW) := by
  intro pins s σ H vs us Q I r ⟨xs, G, Q', rx, sm, w, c⟩
  rcases xs with _ | ⟨x, _ | ⟨y, _ | ⟨z, r4⟩⟩⟩
  · exact False.elim w
  · cases x <;> (try exact False.elim w)
    case ref a =>
      obtain ⟨v, rfl, h⟩ := rx.one_of
      cases of_ref h
      obtain ⟨ns, ea, w⟩ := w
      obtain ⟨ws, ha, ra⟩ := sm.lst ea
      rw [ra.to_ints] at ha
      exact cr_sum hc pins s σ H _ us Q I r ⟨_, ns, rfl, .of ha, c.here sm rt_int w⟩
  · cases x <;> exact False.elim w
  · cases x <;> (try exact False.elim w)
theorem call_allW (hc : X.calm = true) : CallR X (.builtin "all") (upL S X.K allW) := by
  intro pins s σ H vs us Q I r ⟨xs, G, Q', rx, sm, w, c⟩
  rcases xs with _ | ⟨x, _ | ⟨y, _ | ⟨z, r4⟩⟩⟩
  · exact False.elim w
  · cases x <;> (try exact False.elim w)
    case ref a =>
      obtain ⟨v, rfl, h⟩ := rx.one_of
      cases of_ref h
      obtain ⟨ns, ea, w⟩ := w
      obtain ⟨ws, ha, ra⟩ := sm.lst ea
      rw [ra.to_bls] at ha
      exact cr_all hc pins s σ H _ us Q I r ⟨_, ns, rfl, .of ha, c.here sm rt_bl w⟩
  · cases x <;> exact False.elim w
  · cases x <;> (try exact False.elim w)
theorem call_anyW (hc : X.calm = true) : CallR X (.builtin "any") (upL S X.K anyW) := by
  intro pins s σ H vs us Q I r ⟨xs, G, Q', rx, sm, w, c⟩
  rcases xs with _ | ⟨x, _ | ⟨y, _ | ⟨z, r4⟩⟩⟩
  · exact False.elim w
  · cases x <;> (try exact False.elim w)
    case ref a =>
      obtain ⟨v, rfl, h⟩ := rx.one_of
      cases of_ref h
      obtain ⟨ns, ea, w⟩ := w
      obtain ⟨ws, ha, ra⟩ := sm.lst ea
      rw [ra.to_bls] at ha
      exact cr_any hc pins s σ H _ us Q I r ⟨_, ns, rfl, .of ha, c.here sm rt_bl w⟩
  · cases x <;> exact False.elim w
  · cases x <;> (try exact False.elim w)
/-! methods -/
theorem mt_appW : MtR X "list.append" (upM S X.K appW) := by
  intro pins s σ H v vs v' us Q I rv r ⟨x, xs, G, Q', rx, rxs, sm, w, c⟩
  cases x <;> (try exact False.elim w)
  rename_i a
  rcases xs with _ | ⟨y, _ | ⟨z, r4⟩⟩ <;> (try exact False.elim w)
  obtain ⟨u, rfl, h⟩ := rxs.one_of
  cases of_ref rx
  obtain ⟨ts, ea, hl, w⟩ := w
  obtain ⟨ws, ha, ra⟩ := sm.lst ea
  refine mt_append pins s σ H _ _ v' us Q I rv r ⟨_, _, _, rfl, rfl, ha, by rw [← ra.length]; exact lt_line hl, ?_⟩
  exact c _ _ _ _ (HX.put ha trivial) rt_non (sm.put ha trivial (show RO S X.K _ (.lst _) (.lst _) from ⟨_, rfl, (ra.append (RTs.one h)).mono (HX.put ha trivial)⟩)) w
theorem mt_popW : MtR X "list.pop" (upM S X.K popW) := by
  intro pins s σ H v vs v' us Q I rv r ⟨x, xs, G, Q', rx, rxs, sm, w, c⟩
  cases x <;> (try exact False.elim w)
  rename_i a
  rcases xs with _ | ⟨z, r4⟩ <;> (try exact False.elim w)
  cases rxs.nil_of
  cases of_ref rx
  obtain ⟨ts, y, ea, hl, w⟩ := w
  obtain ⟨ws, ha, ra⟩ := sm.lst ea
  obtain ⟨z, e, rz⟩ := ra.get hl
  rw [ra.length] at e
  refine mt_pop pins s σ H _ _ v' us Q I rv r ⟨_, _, _, rfl, rfl, ha, e, ?_⟩
  exact c _ _ _ _ (HX.put ha trivial) (RT.mono (HX.put ha trivial) _ _ rz) (sm.put ha trivial (show RO S X.K _ (.lst _) (.lst _) from ⟨_, rfl, (ra.dropLast).mono (HX.put ha trivial)⟩)) w
theorem tl_app (a b : Str) : TL.tl (a ++ b) = TL.tl a ++ TL.tl b := by
  show (a.cps ++ b.cps).toList = a.cps.toList ++ b.cps.toList
  simp
theorem tl_joinS (s : String) : ∀ ws : List String, TL.joinL (TL.tl (Str.ofString s)) ((ws.map Str.ofString).map TL.tl) = TL.tl (Str.ofString (joinS s ws))
  | [] => by rfl
  | [a] => by rfl
  | a :: b :: r => by
    have ih := tl_joinS s (b :: r)
    show TL.tl (Str.ofString a) ++ (TL.tl (Str.ofString s) ++ TL.joinL (TL.tl (Str.ofString s)) (((b :: r).map Str.ofString).map TL.tl)) = TL.tl (Str.ofString (a ++ s ++ joinS s (b :: r)))
    rw [ih, ofS_append, ofS_append, tl_app, tl_app, List.append_assoc]
theorem joinS_cat (s : String) (ws : List String) : Txt.join (Str.ofString s) (ws.map Str.ofString) = Str.ofString (joinS s ws) :=
  TL.ext_tl (((congrArg TL.tl (TL.join_eq _ _)).trans (TL.tl_join _ _)).trans (tl_joinS s ws))
theorem rts_str {K : PySem.W.Frag} {H : Hp} : ∀ {ws : List String} {vs : List V}, RTs K H (ws.map T.str) vs → vs = (ws.map Str.ofString).map V.str
  | [], vs, r => r.nil_of
  | w :: ws, vs, r => by
    unfold RTs at r
    obtain ⟨v, l, rfl, h1, h2⟩ := r
    rw [of_str h1, rts_str h2]
    rfl
theorem mt_joinW : MtR X "str.join" (upM S X.K joinW) := by
  intro pins s σ H v vs v' us Q I rv r ⟨x, xs, G, Q', rx, rxs, sm, w, c⟩
  cases x <;> (try exact False.elim w)
  rename_i z
  rcases xs with _ | ⟨y, _ | ⟨y2, r4⟩⟩ <;> (try exact False.elim w)
  · cases y <;> (try exact False.elim w)
    rename_i a
    obtain ⟨u, rfl, h⟩ := rxs.one_of
    cases of_ref h
    obtain ⟨ts, ea, hl, w⟩ := w
    obtain ⟨ws, ha, ra⟩ := sm.lst ea
    have e := rts_str ra
    subst e
    rw [of_str rx] at rv
    refine mt_join pins s σ H _ _ v' us Q I rv r ⟨_, _, ts.map Str.ofString, rfl, rfl, .inl (.of ha), ?_, ?_⟩
    · rw [List.map_map, List.length_map, ofS_len]
      have e : ((fun x : Str => x.length) ∘ Str.ofString) = String.length := funext fun x => ofS_len x
      rw [e]
      exact hl
    · rw [joinS_cat]
      exact c.here sm rt_str w
  · cases y <;> exact False.elim w
theorem mt_indexW : MtR X "list.index" (upM S X.K indexW) := by
  intro pins s σ H v vs v' us Q I rv r ⟨x, xs, G, Q', rx, rxs, sm, w, c⟩
  cases x <;> (try exact False.elim w)
  rename_i a
  rcases xs with _ | ⟨y, _ | ⟨z, r4⟩⟩ <;> (try exact False.elim w)
  obtain ⟨u, rfl, h⟩ := rxs.one_of
  cases of_ref rx
  obtain ⟨ts, j, z, ea, f1, f2, ez, e1, e2, w⟩ := w
  obtain ⟨ws, ha, ra⟩ := sm.lst ea
  obtain ⟨z', ez', rz⟩ := ra.get ez
  have fz : flT z = true := List.all_eq_true.mp f2 z (List.mem_of_getElem? ez)
  refine mt_index pins s σ H _ _ v' us Q I rv r ⟨a, ws, u, j, z', rfl, rfl, .of ha, flat_of f1 h, flats_of f2 ra, ez', by rw [eqV_teq fz f1 rz h]; exact e1, fun m z2 hm hz2 => ?_, c.here sm rt_int w⟩
  have hlt : m < ts.length := by
    rw [ra.length]
    rcases Nat.lt_or_ge m ws.length with q | q
    · exact q
    · rw [List.getElem?_eq_none q] at hz2; cases hz2
  have et := List.getElem?_eq_getElem hlt
  obtain ⟨z3, e3, r3⟩ := ra.get et
  rw [hz2] at e3
  cases e3
  rw [eqV_teq (List.all_eq_true.mp f2 _ (List.getElem_mem hlt)) f1 r3 h]
  exact e2 m _ hm et
theorem keyT_of {K : PySem.W.Frag} {H : Hp} {x : T} {k : DK} {v : V} (e : keyT x = some k) (r : RT K H x v) : v = kV (kOf k) := by
  cases x <;> first | (cases e; done) | skip
  · cases e; exact of_int r
  · cases e; exact of_str r
/-! isinstance -/
def tyN : Ty → String
  | .tup => "tuple" | .bl => "bool" | .int => "int" | .str => "str"
def isiL (S : Stc) (K : PySem.W.Frag) (ty : Ty) : List V → Hp → VK → Prop := fun vs H Q => ∃ v x G Q', vs = [v, .ty (tyN ty)] ∧ RT K H x v ∧ Sim S K H G ∧ isiW ty x G Q' ∧ Cont S K H Q' Q
theorem call_isiW (ty : Ty) : CallR X (.builtin "isinstance") (isiL S X.K ty) := by
  intro pins s σ H vs us Q I r ⟨v, x, G, Q', e, rx, sm, w, c⟩
  subst e
  have go : ∀ (n : String) (b : Bool), TyX X.K H v (.type n) → kitB n (tyN ty) = some b → Q' (.bl b) G → wpAny (model X.prog X.w) X.A (call (.builtin "isinstance") us) (EP X pins σ Q) X.xe s := fun n b t k q =>
    call_isi pins s σ H _ us Q I r ⟨_, _, _, _, b, rfl, .ty _, t, kit_ty k, c.here sm rt_bl q⟩
  cases x with
  | non => cases of_non rx; exact go "NoneType" false (.base .non) (by cases ty <;> decide +kernel) w
  | bl b =>
    cases of_bl rx
    cases ty with
    | tup => exact go "bool" false (.base (.bl b)) (by decide +kernel) w
    | bl => exact go "bool" true (.base (.bl b)) (by decide +kernel) w
    | int => exact go "bool" true (.base (.bl b)) (by decide +kernel) w
    | str => exact go "bool" false (.base (.bl b)) (by decide +kernel) w
  | int b =>
    cases of_int rx
    cases ty with
    | tup => exact go "int" false (.base (.int b)) (by decide +kernel) w
    | bl => exact go "int" false (.base (.int b)) (by decide +kernel) w
    | int => exact go "int" true (.base (.int b)) (by decide +kernel) w
    | str => exact go "int" false (.base (.int b)) (by decide +kernel) w
  | str b =>
    cases of_str rx
    cases ty with
    | tup => exact go "str" false (.base (.str _)) (by decide +kernel) w
    | bl => exact go "str" false (.base (.str _)) (by decide +kernel) w
    | int => exact go "str" false (.base (.str _)) (by decide +kernel) w
    | str => exact go "str" true (.base (.str _)) (by decide +kernel) w
  | tup xs =>
    obtain ⟨a, ws, rfl, ha, ra⟩ := of_tup rx
    have t : TyX X.K H (.ref a) (.type "tuple") := by
      rcases ha with (ha | ⟨o, ha⟩) | ⟨o, its, n, h1, h2, _⟩
      · exact .base (.tup ha)
      · exact .fTuple ha
      · exact .kTuple h1 h2
    cases ty with
    | tup => exact go "tuple" true t (by decide +kernel) w
    | bl => exact go "tuple" false t (by decide +kernel) w
    | int => exact go "tuple" false t (by decide +kernel) w
    | str => exact go "tuple" false t (by decide +kernel) w
  | frl xs => exact False.elim w
  | ref a =>
    cases of_ref rx
    obtain ⟨⟨xs, e⟩ | ⟨xs, e⟩, w⟩ := w
    · obtain ⟨ws, ha, ra⟩ := sm.lst e
      exact go "list" false (.base (.lst ha)) (by cases ty <;> decide +kernel) w
    · obtain ⟨ws, ha, ra⟩ := sm.dct e
      exact go "dict" false (.base (.dK ha)) (by cases ty <;> decide +kernel) w
end

/-! ### what is walked -/
/-- the layer's iteration J yields the items of sq, wherever sq stays -/
structure ItOk (S : Stc) (K : PySem.W.Frag) (J : L2.It) (sq : Sq) (H0 : Hp) : Prop where
  go : ∀ i H G, HX H0 H → Sim S K H G → sq.stay G → i < sq.items.length → J.go i H
  stop : ∀ i H G, HX H0 H → Sim S K H G → sq.stay G → sq.items.length ≤ i → J.stop i H
  yld : ∀ i x H G H', HX H0 H → Sim S K H G → sq.stay G → i < sq.items.length → J.yld i H x H' → H' = H ∧ ∃ t, sq.items[i]? = some t ∧ RT K H t x
section
variable {S : Stc} {K : PySem.W.Frag} {H : Hp} {G : Gp}
theorem itok_tup {a : Addr} {xs : List T} {vs : List V} (ha : SqT K H a vs) (r : RTs K H xs vs) : ItOk S K (Itt K a) (.fix xs) H := by
  have ge : ∀ {i : Nat}, i < xs.length → ∃ t v, xs[i]? = some t ∧ vs[i]? = some v ∧ RT K H t v := fun {i} h => by
    obtain ⟨v, e, q⟩ := r.get (List.getElem?_eq_getElem h)
    exact ⟨_, v, List.getElem?_eq_getElem h, e, q⟩
  refine ⟨fun i H1 G1 x _ _ h => ?_, fun i H1 G1 x _ _ h => ⟨vs, SqT.mono x ha, by rw [← r.length]; exact h⟩, fun i v H1 G1 H2 x _ _ h y => ?_⟩
  · obtain ⟨t, v, _, e, _⟩ := ge h
    exact ⟨vs, v, SqT.mono x ha, e⟩
  · obtain ⟨t, v', e1, e2, q⟩ := ge h
    obtain ⟨rfl, y2⟩ := y
    have z := y2 vs (SqT.mono x ha)
    rw [e2] at z
    cases z
    exact ⟨rfl, t, e1, RT.mono x _ _ q⟩
theorem itok_lst {a : Addr} {xs : List T} : ItOk S K (Itl K a) (.at_ a xs) H := by
  refine ⟨fun i H1 G1 x m st h => ?_, fun i H1 G1 x m st h => ?_, fun i v H1 G1 H2 x m st h y => ?_⟩
  · obtain ⟨vs, ha, r⟩ := m.lst st
    obtain ⟨v, e, q⟩ := r.get (List.getElem?_eq_getElem h)
    exact ⟨vs, v, .of ha, e⟩
  · obtain ⟨vs, ha, r⟩ := m.lst st
    exact ⟨vs, .of ha, by rw [← r.length]; exact h⟩
  · obtain ⟨vs, ha, r⟩ := m.lst st
    obtain ⟨v', e, q⟩ := r.get (List.getElem?_eq_getElem h)
    obtain ⟨rfl, y2⟩ := y
    have z := y2 vs (.of ha)
    rw [e] at z
    cases z
    exact ⟨rfl, _, List.getElem?_eq_getElem h, q⟩
theorem items_upto {lo st : Int} {n i : Nat} (h : i < n) : (upto lo st n)[i]? = some (.int (lo + (i : Int) * st)) := by
  unfold upto
  rw [List.getElem?_map, List.getElem?_range h]
  rfl
theorem upto_len {lo st : Int} {n : Nat} : (upto lo st n).length = n := by unfold upto; simp
theorem itok_rng {lo : Int} {n : Nat} : ItOk S K (Itr lo n) (.fix (upto lo 1 n)) H := by
  refine ⟨fun i H1 G1 x m st h => ?_, fun i H1 G1 x m st h => ?_, fun i v H1 G1 H2 x m st h y => ?_⟩
  · have h' := h
    simp only [Sq.items, upto_len] at h'
    exact h'
  · have h' := h
    simp only [Sq.items, upto_len] at h'
    exact h'
  · have h' := h
    simp only [Sq.items, upto_len] at h'
    obtain ⟨rfl, rfl⟩ := y
    refine ⟨rfl, _, items_upto h', ?_⟩
    rw [Int.mul_one]
    exact rt_int
theorem itok_rngC {lo c : Int} {n : Nat} : ItOk S K (Itc lo c n) (.fix (upto lo c n)) H := by
  refine ⟨fun i H1 G1 x m st h => ?_, fun i H1 G1 x m st h => ?_, fun i v H1 G1 H2 x m st h y => ?_⟩
  · have h' := h
    simp only [Sq.items, upto_len] at h'
    exact h'
  · have h' := h
    simp only [Sq.items, upto_len] at h'
    exact h'
  · have h' := h
    simp only [Sq.items, upto_len] at h'
    obtain ⟨rfl, rfl⟩ := y
    exact ⟨rfl, _, items_upto h', rt_int⟩
theorem itok_str {a : String} : ItOk S K (Its (Str.ofString a)) (.fix (a.toList.map fun c => T.str (String.singleton c))) H := by
  have sz : (Str.ofString a).cps.size = a.toList.length := by
    have := congrArg List.length (ofS_cps a)
    simpa using this
  refine ⟨fun i H1 G1 x m st h => ?_, fun i H1 G1 x m st h => ?_, fun i v H1 G1 H2 x m st h y => ?_⟩
  · show i < (Str.ofString a).cps.size
    rw [sz]
    simpa [Sq.items] using h
  · show (Str.ofString a).cps.size ≤ i
    rw [sz]
    simpa [Sq.items] using h
  · obtain ⟨rfl, d, e, rfl⟩ := y
    have hi : i < a.toList.length := by simpa [Sq.items] using h
    refine ⟨rfl, T.str (String.singleton a.toList[i]), ?_, ?_⟩
    · show (a.toList.map fun c => T.str (String.singleton c))[i]? = _
      rw [List.getElem?_map, List.getElem?_eq_getElem hi]
      rfl
    · have e2 : (Str.ofString a).cps.toList[i]? = some d := by rw [Array.getElem?_toList]; exact e
      rw [ofS_cps, List.getElem?_map, List.getElem?_eq_getElem hi] at e2
      have e3 : (a.toList[i]).toNat = d := Option.some.inj e2
      rw [← e3, ← ofS_single]
      exact rt_str
end
end SK

set_option Elab.async false
set_option linter.all false
set_option maxRecDepth 100000
/-! SK5: the check of a code against the text; the contexts; what the text's own shape gives. -/
namespace SK
open PySem PySem.Spec PyProof.Rows L2

/-! ### names -/
structure Nm where
  N : List Str
  sc : Scope
  cellOk : Bool
  use : List String
  blt : List String
  hot : Bool
  gens : Bool
def visB (sc : Scope) (x : Str) : Bool := match sc.names.lookup x with
  | some .local => true | some .cell => true | some .free => true | _ => false
def glB (sc : Scope) (x : Str) : Bool := match sc.names.lookup x with
  | some .globalImplicit => true | _ => false
def locB (n : Nm) (x : Str) : Bool := match n.sc.names.lookup x with
  | some .local => true | some .cell => n.cellOk | _ => false
def okName (x : Str) : Bool := !(x == ("__debug__" : Str)) && !(x == ("__classdict__" : Str)) && !(decide (x = ("__name__" : Str)))
theorem visB_vis {sc : Scope} {x : Str} (h : visB sc x = true) : Vis sc x := by
  unfold visB at h
  split at h
  · exact .inl ‹_›
  · exact .inr (.inl ‹_›)
  · exact .inr (.inr ‹_›)
  · cases h
theorem glB_gl {X : Cx} {x : Str} (h : glB X.env.scope x = true) : Gl X x := by
  unfold glB at h
  split at h
  · rename_i e; exact e
  · cases h
theorem okName_of {x : Str} (h : okName x = true) : (x == ("__debug__" : Str)) = false ∧ (x == ("__classdict__" : Str)) = false ∧ x ≠ ("__name__" : Str) := by
  unfold okName at h
  rw [Bool.and_eq_true, Bool.and_eq_true, Bool.not_eq_true', Bool.not_eq_true', Bool.not_eq_true', decide_eq_false_iff_not] at h
  exact ⟨h.1.1, h.1.2, h.2⟩

/-! ### the check -/
def chkC : T → Const → Bool
  | .non, .none => true
  | .bl b, .bool c => b == c
  | .int i, .int j => i == j
  | .str s, .str x => decide (x = Str.ofString s)
  | _, _ => false
def chkOp : Op → Operator → Bool
  | .add, .Add => true | .sub, .Sub => true | .mul, .Mult => true | .fdv, .FloorDiv => true | .mod, .Mod => true | .pow, .Pow => true
  | _, _ => false
def chkCp : Cp → CmpOp → Bool
  | .eq, .Eq => true | .ne, .NotEq => true | .lt, .Lt => true | .le, .LtE => true | .gt, .Gt => true | .ge, .GtE => true
  | .inS, .In => true | .niS, .NotIn => true | .inD, .In => true | .niD, .NotIn => true | .isN, .Is => true | .ntN, .IsNot => true
  | _, _ => false
def chkBi : Bi → String
  | .len => "len" | .int => "int" | .str => "str" | .tuple => "tuple" | .list => "list" | .dict => "dict" | .max => "max" | .min => "min" | .sum => "sum" | .all => "all" | .any => "any"
def chkBm : Bm → String
  | .append => "append" | .pop => "pop" | .get => "get" | .index => "index" | .join => "join"
def bmArity : Bm → Nat → Bool
  | .append, 1 => true | .pop, 0 => true | .get, 2 => true | .index, 1 => true | .join, 1 => true
  | _, _ => false
def chkName (n : Nm) (x : Str) (f : String) : Bool := decide (x = Str.ofString f) && glB n.sc x && okName x
def chkBlt (n : Nm) (x : Str) (f : String) : Bool := chkName n x f && n.blt.contains f
def chkFn (n : Nm) (x : Str) (f : String) : Bool := chkName n x f && !n.hot
def chkBltC (n : Nm) (x : Str) (f : String) : Bool := chkBlt n x f && !n.hot
def basePl : Expr → Bool
  | .Call (.Name _ _) [] [] _ => false
  | _ => true
def baseC (n : Nm) (o : Expr) : Bool := basePl o && !n.hot
theorem chkFn_of {n : Nm} {x : Str} {f : String} (h : chkFn n x f = true) : chkName n x f = true ∧ n.hot = false := by
  unfold chkFn at h
  simpa using h
theorem chkBltC_of {n : Nm} {x : Str} {f : String} (h : chkBltC n x f = true) : chkBlt n x f = true ∧ n.hot = false := by
  unfold chkBltC at h
  simpa using h
theorem baseC_of {n : Nm} {o : Expr} (h : baseC n o = true) : basePl o = true ∧ n.hot = false := by
  unfold baseC at h
  simpa using h
def notStar : Expr → Bool
  | .Starred _ _ => false
  | _ => true
/-- codes that may stand as a test -/
def tstB : E → Bool
  | .ife _ _ _ => false
  | .lnot a => tstB a
  | .land es => tstBs es
  | .lor es => tstBs es
  | _ => true
where tstBs : Es → Bool
  | .nil => true
  | .cons e r => tstB e && tstBs r
def gsB (N : List Str) (sc scope : Scope) (x : Str) (i : Nat) : Bool := decide (scope.kind = .function) && !scope.isCoroutine && (scope.names.all fun y => match y.2 with
    | .cell => false
    | .local => decide (y.1 = x) || decide (y.1 = (".0" : Str))
    | .free => (match sc.names.lookup y.1 with | some .cell => true | some .free => true | _ => false)
    | _ => true) && decide (scope.names.lookup (".0" : Str) = some NameKind.local) && decide (scope.names.lookup x = some NameKind.local) && decide (N[i]? = some x) && decide N.Nodup && decide ((".0" : Str) ∉ N)
theorem gsB_of {N : List Str} {sc scope : Scope} {x : Str} {i : Nat} (h : gsB N sc scope x i = true) : SKG.GS0 N sc scope x i := by
  unfold gsB at h
  simp only [Bool.and_eq_true, decide_eq_true_eq, Bool.not_eq_true'] at h
  obtain ⟨⟨⟨⟨⟨⟨⟨h1, h2⟩, h3⟩, h4⟩, h5⟩, h6⟩, h7⟩, h8⟩ := h
  have h3 := fun y hy => List.all_eq_true.mp h3 y hy
  refine ⟨h1, h2, fun y hy e => ?_, h4, h5, fun y hy e => ?_, fun y hy e => ?_, h7, h6, h8⟩
  · have := h3 y hy
    rw [e] at this
    cases this
  · have := h3 y hy
    rw [e] at this
    simpa using this
  · have := h3 y hy
    rw [e] at this
    have this : (match sc.names.lookup y.1 with | some .cell => true | some .free => true | _ => false) = true := this
    split at this
    · exact .inl ‹_›
    · exact .inr ‹_›
    · cases this
def notLst : Expr → Bool
  | .List _ _ => false
  | _ => true
def chkG (n : Nm) : Tg → Expr → Bool
  | .nm i, .Name x _ => decide (n.N[i]? = some x) && locB n x
  | .tp is, .Tuple es _ _ => !n.hot && go is es
  | _, _ => false
where go : List Nat → List Expr → Bool
  | [], [] => true
  | i :: is, .Name x _ :: es => decide (n.N[i]? = some x) && locB n x && go is es
  | _, _ => false
def Tg.slots : Tg → List Nat
  | .nm i => [i]
  | .tp is => is
def ownOf (N : List Str) (own : List Nat) : List (Str × Nat) := own.filterMap fun i => (N[i]?).map fun x => (x, i)
def keysOk : List String → List (Option Expr) → Bool
  | [], [] => true
  | k :: ks, some (.Constant (.str x) _ _) :: es => decide (x = Str.ofString k) && keysOk ks es
  | _, _ => false
def chkVar (i : Nat) (n : Nm) : Expr → Bool
  | .Name x _ => decide (n.N[i]? = some x) && visB n.sc x && okName x
  | _ => false
def chkKc (t : T) : Expr → Bool
  | .Constant c _ _ => chkC t c
  | _ => false
def one1 : List Expr → Bool
  | [_] => true
  | _ => false
def cmp1 : List Expr → Bool
  | [.Compare _ [_] [_] _] => true
  | _ => false
def cmpO : List Expr → CmpOp
  | [.Compare _ [op] [_] _] => op
  | _ => .Eq
def cmpL : List Expr → Expr
  | [.Compare l [_] [_] _] => l
  | _ => default
def cmpR : List Expr → Expr
  | [.Compare _ [_] [r] _] => r
  | _ => default
def isi1 : List Expr → Bool
  | [.Call (.Name _ _) [_, .Name _ _] [] _] => true
  | _ => false
def isiF : List Expr → Str
  | [.Call (.Name x _) [_, .Name _ _] [] _] => x
  | _ => default
def isiE : List Expr → Expr
  | [.Call (.Name _ _) [e, .Name _ _] [] _] => e
  | _ => default
def isiT : List Expr → Str
  | [.Call (.Name _ _) [_, .Name y _] [] _] => y
  | _ => default
theorem one1_of {l : List Expr} (h : one1 l = true) : ∃ e, l = [e] := by
  unfold one1 at h
  split at h
  · exact ⟨_, rfl⟩
  · cases h
theorem cmp1_of {l : List Expr} (h : cmp1 l = true) : ∃ a op r p, l = [.Compare a [op] [r] p] := by
  unfold cmp1 at h
  split at h
  · exact ⟨_, _, _, _, rfl⟩
  · cases h
theorem isi1_of {l : List Expr} (h : isi1 l = true) : ∃ x p e y q r, l = [.Call (.Name x p) [e, .Name y q] [] r] := by
  unfold isi1 at h
  split at h
  · exact ⟨_, _, _, _, _, _, rfl⟩
  · cases h
mutual
def chkE : E → Nm → Expr → Bool
  | .var i, n, .Name x _ => decide (n.N[i]? = some x) && visB n.sc x && okName x
  | .kc t, _, .Constant c _ _ => chkC t c
  | .gl f, n, .Name x _ => chkName n x f && n.use.contains f
  | .tup es, n, .Tuple xs _ _ => chkEs es n xs && decide (es.len ≤ 1000)
  | .lst es, n, .List xs _ => chkEs es n xs && decide (es.len ≤ 1000)
  | .dct ks es, n, .Dict keys vals _ => keysOk ks keys && chkEs es n vals && decide (ks.length = es.len) && decide (ks.length ≤ 15) && decide ks.Nodup
  | .bin o a b, n, .BinOp l op r _ => chkOp o op && chkE a n l && chkE b n r
  | .neg a, n, .UnaryOp .USub x _ => chkE a n x
  | .cmp o a b, n, .Compare l [op] [r] _ => chkCp o op && chkE a n l && chkE b n r
  | .land es, n, .BoolOp .And xs _ => chkEs es n xs && decide (0 < es.len)
  | .lor es, n, .BoolOp .Or xs _ => chkEs es n xs && decide (0 < es.len)
  | .lnot a, n, .UnaryOp .Not x _ => chkE a n x
  | .ife c a b, n, .IfExp t x y _ => chkE c n t && tstB c && chkE a n x && chkE b n y
  | .ix a i, n, .Subscript o s _ => chkE a n o && chkE i n s
  | .dx a i, n, .Subscript o s _ => chkE a n o && chkE i n s
  | .sl a lo hi, n, .Subscript o (.Slice l h none _) _ => chkE a n o && chkO lo n l && chkO hi n h
  | .fld a f, n, .Attribute o m _ => decide (m = Str.ofString f) && basePl o && chkE a n o
  | .call f es, n, .Call (.Name x _) args [] _ => chkFn n x f && chkEs es n args && decide (0 < es.len)
  | .callv i es, n, .Call (.Name x _) args [] _ => (decide (n.N[i]? = some x) && visB n.sc x && okName x && !n.hot) && chkEs es n args && decide (0 < es.len)
  | .meth a m es, n, .Call (.Attribute o x apos) args [] pos => decide (x = Str.ofString m) && baseC n o && chkE a n o && chkEs es n args && (apos.endLine == pos.line) && decide (args.length < 30)
  | .make C es, n, .Call (.Name x _) args [] _ => chkFn n x C && chkEs es n args
  | .bi f es, n, .Call (.Name x _) args [] _ => chkBltC n x (chkBi f) && chkEs es n args && decide (0 < es.len)
  | .bm a m es, n, .Call (.Attribute o x apos) args [] pos => decide (x = Str.ofString (chkBm m)) && basePl o && chkE a n o && chkEs es n args && (apos.endLine == pos.line) && decide (args.length < 29) && bmArity m es.len
  | .isi a ty, n, .Call (.Name x _) [e, .Name y _] [] _ => chkBlt n x "isinstance" && chkBlt n y (tyN ty) && chkE a n e
  | .isx a C, n, .Call (.Name x _) [e, .Name y _] [] _ => chkBlt n x "isinstance" && chkName n y C && chkE a n e && n.hot
  | .gen all elt x it, n, .Call (.Name f _) [.GeneratorExp e [⟨.Name y _, iter, [], asy⟩] scope _] [] _ => decide (asy = 0) && chkBltC n f (if all then "all" else "any") && n.gens && notLst iter && chkI it n iter && gsB n.N n.sc scope y x && chkE elt { n with sc := scope, cellOk := false, gens := false } e
  | .lc elt own g it cond, n, .ListComp e [⟨tg, iter, ifs, asy⟩] scope _ => (decide (asy = 0) && !n.hot) && chkI it n iter && blkC n.N n.sc scope (ownOf n.N own) && decide ((ownOf n.N own).map (·.2) = own) && g.slots.all (fun i => own.contains i) &&
      chkG { n with sc := relS scope n.sc, cellOk := false } g tg && chkE elt { n with sc := relS scope n.sc, cellOk := false } e && chkIf cond { n with sc := relS scope n.sc, cellOk := false } ifs
  | _, _, _ => false
termination_by structural x => x
def chkIf : E → Nm → List Expr → Bool
  | .no, _, l => l.isEmpty
  | .var i, n, l => one1 l && chkVar i n (l.headD default)
  | .cmp o a b, n, l => cmp1 l && chkCp o (cmpO l) && chkE a n (cmpL l) && chkE b n (cmpR l)
  | .isi a ty, n, l => isi1 l && chkBlt n (isiF l) "isinstance" && chkBlt n (isiT l) (tyN ty) && chkE a n (isiE l)
  | _, _, _ => false
termination_by structural x => x
def chkO : E → Nm → Option Expr → Bool
  | .no, _, none => true
  | .var i, n, some e => chkVar i n e
  | .kc t, n, some e => chkKc t e
  | .neg a, n, some (.UnaryOp .USub x _) => chkE a n x
  | .bin o a b, n, some (.BinOp l op r _) => chkOp o op && chkE a n l && chkE b n r
  | .ix a b, n, some (.Subscript o s _) => chkE a n o && chkE b n s
  | .call f es, n, some (.Call (.Name x _) args [] _) => chkFn n x f && chkEs es n args && decide (0 < es.len)
  | _, _, _ => false
termination_by structural x => x
def chkEs : Es → Nm → List Expr → Bool
  | .nil, _, [] => true
  | .cons e r, n, x :: xs => chkE e n x && chkEs r n xs
  | _, _, _ => false
termination_by structural x => x
def chkI : It → Nm → Expr → Bool
  | .tup e, n, x => chkE e n x
  | .lst e, n, x => chkE e n x
  | .str e, n, x => chkE e n x
  | .rng es, n, .Call (.Name x _) args [] _ => chkBlt n x "range" && chkEs es n args && decide (0 < args.length) && decide (args.length < 4)
  | .revt e, n, .Call (.Name x _) [a] [] _ => chkBlt n x "reversed" && chkE e n a
  | .revr e, n, .Call (.Name x _) [.Call (.Name y _) [a] [] _] [] _ => chkBlt n x "reversed" && chkBlt n y "range" && chkE e n a
  | _, _, _ => false
termination_by structural x => x
end
def isLc : E → Bool
  | .lc _ _ _ _ _ => true
  | _ => false
def nameHandler : ExceptHandler → Option (Str × Str × List Stmt)
  | .ExceptHandler (some (.Name x _)) (some n) body _ => some (x, n, body)
  | _ => none
/-- a list comprehension stored on its own line: the name is none of its own -/
def lcOk (n : Nm) : Expr → Str → Pos → Bool
  | .ListComp _ _ scope pos, y, py => decide (n.sc.kind = .function) && decide (n.sc.names.lookup y = some .local) && (py.line == pos.line) && !(scope.names.any fun (m, k) => m == y && (k == .local || k == .cell))
  | _, _, _ => true
def chkAsg (i : Nat) (e : E) (n : Nm) : List Expr → Expr → Bool
  | [.Name x py], v => decide (n.N[i]? = some x) && locB n x && chkE e n v && lcOk n v x py
  | _, _ => false
def notTL : Expr → Bool
  | .Tuple _ _ _ => false
  | .List _ _ => false
  | _ => true
def chkAst (is : List Nat) (e : E) (n : Nm) : List Expr → Expr → Bool
  | [tg], v => chkG n (.tp is) tg && chkE e n v && !isLc e && notTL v
  | _, _ => false
def chkAsf (o : E) (f : String) (e : E) (n : Nm) : List Expr → Expr → Bool
  | [.Attribute x m _], v => decide (m = Str.ofString f) && basePl x && chkE o n x && chkE e n v && !isLc e
  | _, _ => false
def chkAsi (o i e : E) (n : Nm) : List Expr → Expr → Bool
  | [.Subscript x y _], v => chkE o n x && chkE i n y && chkE e n v && !isLc e
  | _, _ => false
mutual
def chkS : S → Nm → Stmt → Bool
  | .asg i e, n, .Assign ts v _ => chkAsg i e n ts v
  | .ast is e, n, .Assign ts v _ => chkAst is e n ts v
  | .astl is e, n, .Assign ts v _ => chkAst is e n ts v
  | .asf o f e, n, .Assign ts v _ => chkAsf o f e n ts v
  | .asi o i e, n, .Assign ts v _ => chkAsi o i e n ts v
  | .asd o i e, n, .Assign ts v _ => chkAsi o i e n ts v
  | .ex e, n, .Expr v _ => chkE e n v && !isLc e
  | .ret e, n, .Return (some v) _ => chkE e n v
  | .retn, _, .Return none _ => true
  | .ite c a b, n, .If t x y _ => chkE c n t && tstB c && chkSs a n x && chkSs b n y
  | .for_ g it body, n, .For tg iter b [] _ => chkG n g tg && (chkI it n iter && !n.hot) && chkSs body n b
  | .whl c body, n, .While t b [] _ => chkE c n t && (tstB c && !n.hot) && chkSs body n b
  | .pass, _, .Pass _ => true
  | .raise C es, n, .Raise (some (.Call (.Name x _) [] [] _)) none _ => chkFn n x C && decide (es.len = 0)
  | .try_ body C i suite, n, .Try b [.ExceptHandler (some (.Name x _)) (some y) (s0 :: sr) _] [] [] _ => chkFn n x C && n.cellOk && decide (n.N[i]? = some y) && decide (n.sc.names.lookup y = some .local) && chkSs body n b && chkSs suite { n with hot := true } (s0 :: sr)
  | _, _, _ => false
def chkSs : Ss → Nm → List Stmt → Bool
  | .nil, _, [] => true
  | .cons s r, n, x :: xs => chkS s n x && chkSs r n xs
  | _, _, _ => false
end

/-! ### the text's shape -/
theorem chkVar_eq {i : Nat} {n : Nm} {e : Expr} : chkVar i n e = chkE (.var i) n e := by cases e <;> simp [chkVar, chkE]
theorem chkKc_eq {t : T} {n : Nm} {e : Expr} : chkKc t e = chkE (.kc t) n e := by cases e <;> simp [chkKc, chkE]
theorem starEach_plain : ∀ {e : Expr} {es : List Expr} {env : Env}, notStar e = true → starEach (e :: es) env = (false, eval e env) :: starEach es env := by
  intro e es env h
  cases e <;> first | rfl | (cases h)
theorem chkE_star {c : E} {n : Nm} {e : Expr} (h : chkE c n e = true) : notStar e = true := by
  cases e <;> first | rfl | (cases c <;> simp [chkE] at h)
def allPl (es : List Expr) : Bool := es.all notStar
theorem chkEs_star : ∀ {c : Es} {n : Nm} {es : List Expr}, chkEs c n es = true → allPl es = true
  | .nil, _, [], _ => rfl
  | .nil, _, _ :: _, h => by simp [chkEs] at h
  | .cons _ _, _, [], h => by simp [chkEs] at h
  | .cons e r, n, x :: xs, h => by
    simp only [chkEs, Bool.and_eq_true] at h
    have h2 := chkEs_star h.2
    unfold allPl at h2 ⊢
    rw [List.all_cons, chkE_star h.1, h2]
    rfl
theorem chkEs_len : ∀ {c : Es} {n : Nm} {es : List Expr}, chkEs c n es = true → c.len = es.length
  | .nil, _, [], _ => rfl
  | .nil, _, _ :: _, h => by simp [chkEs] at h
  | .cons _ _, _, [], h => by simp [chkEs] at h
  | .cons e r, n, x :: xs, h => by
    simp only [chkEs, Bool.and_eq_true] at h
    simp only [Es.len, List.length_cons, chkEs_len h.2]
theorem star_none : ∀ {es : List Expr} {env : Env} {pos : Pos}, allPl es = true → (backTo pos (starEach es env)).any (·.1) = false
  | [], _, _, _ => rfl
  | e :: es, env, pos, h => by
    unfold allPl at h
    rw [List.all_cons, Bool.and_eq_true] at h
    rw [starEach_plain h.1]
    show (false || (backTo pos (starEach es env)).any (·.1)) = false
    rw [star_none (es := es) h.2]
    rfl
theorem star_all : ∀ {es : List Expr} {env : Env} {pos : Pos}, allPl es = true → (backTo pos (starEach es env)).all (fun x => !x.1) = true
  | [], _, _, _ => rfl
  | e :: es, env, pos, h => by
    unfold allPl at h
    rw [List.all_cons, Bool.and_eq_true] at h
    rw [starEach_plain h.1]
    show (true && (backTo pos (starEach es env)).all (fun x => !x.1)) = true
    rw [star_all (es := es) h.2]
    rfl
theorem base_plain {o : Expr} {m : Str} {env : Env} {t : Sem Value} (h : basePl o = true) : attributeBase o m env t = t := by
  unfold attributeBase
  split
  · cases h
  · rfl
theorem meth_eq {o : Expr} {m : Str} {apos pos : Pos} {args : List Expr} {env : Env} (hb : basePl o = true) (hs : allPl args = true) (hl : (apos.endLine == pos.line) = true) (hn : args.length < 30) :
    eval (.Call (.Attribute o m apos) args [] pos) env = (do
      let ov ← eval o env
      standAt apos.atName
      let (f, first) ← holding [ov] (getMethod ov m (do return (← importBound o env).getD true))
      callWith pos f first (backTo pos (starEach args env)) (backToKw pos (keywordEach [] env))) := by
  rw [eval]
  rw [base_plain hb]
  have hf : methodCallForm (args.length + ([] : List Keyword).length) (backTo pos (starEach args env)) (backToKw pos (keywordEach [] env)) = true := by
    unfold methodCallForm
    rw [star_all hs, Bool.true_and, keywordEach]
    show (true && decide (args.length + 0 + 0 < 30)) = true
    rw [Bool.true_and]
    exact decide_eq_true (by omega)
  have hp : ∀ few, methodCallPos few o env apos pos = pure pos := fun few => by
    unfold methodCallPos
    rw [hl, Bool.or_true]
    rfl
  unfold methodCall calleeOf
  simp only [hf, hp, if_true]
  first | rfl | (simp only [bind_assoc, pure_bind])
def plainB : E → Bool
  | .lnot _ => false | .land _ => false | .lor _ => false | .ife _ _ _ => false | .cmp _ _ _ => false | _ => true
theorem isTrue_pl {c : E} {n : Nm} {e : Expr} (h : chkE c n e = true) (hc : plainB c = true) : ∀ env whole, isTrue e env whole = (do let v ← whole; standAt e.pos; holding [v] (truthy v)) := by
  intro env whole
  cases c <;> first | (cases hc; done) | skip
  all_goals (cases e <;> first | (simp [chkE] at h; done) | rfl | skip)
  all_goals (rename PySem.UnaryOp => op; cases op <;> first | (simp [chkE] at h; done) | rfl)
end SK

set_option Elab.async false
set_option linter.all false
set_option maxRecDepth 100000
/-! SK6: the contexts; expressions are sound. -/
namespace SK
open PySem PySem.Spec PyProof.Rows L2

/-! ### exceptions, promises -/
def ExR (S : Stc) (K : PySem.W.Frag) (H : Hp) (c : String) (fs : List (String × T)) (cls : Value) (d : Option Addr) : Prop :=
  ∃ ca, cls = .ref ca ∧ S.xcl c = some ca ∧ ((fs = [] ∧ d = none) ∨ fs ≠ [] ∧ ∃ dd l, d = some dd ∧ H dd = some (.xd l) ∧ RF K H fs l)
theorem ExR.mono {S : Stc} {K : PySem.W.Frag} {H H' : Hp} {c : String} {fs : List (String × T)} {cls : Value} {d : Option Addr} (x : HX H H') (h : ExR S K H c fs cls d) : ExR S K H' c fs cls d := by
  obtain ⟨ca, h1, h2, h3⟩ := h
  refine ⟨ca, h1, h2, ?_⟩
  rcases h3 with h3 | ⟨e0, dd, l, e1, e2, e3⟩
  · exact .inl h3
  · exact .inr ⟨e0, dd, l, e1, x.xd _ _ e2, RF.mono x _ _ e3⟩
def ContX (S : Stc) (K : PySem.W.Frag) (H : Hp) (X' : XT) (E : XK) : Prop := ∀ c fs G' cls d H', HX H H' → ExR S K H' c fs cls d → Sim S K H' G' → X' c fs G' → E cls d H'
theorem ContX.step {S : Stc} {K : PySem.W.Frag} {H H1 : Hp} {X' : XT} {E : XK} (c : ContX S K H X' E) (x : HX H H1) : ContX S K H1 X' E := fun t fs G' v d H' x' r m q => c t fs G' v d H' (x.trans x') r m q
def upSp (S : Stc) (K : PySem.W.Frag) (sp : Pr) : Sp := fun vs H Q E => ∃ ts G Q' X', RTs K H ts vs ∧ Sim S K H G ∧ sp ts G Q' X' ∧ Cont S K H Q' Q ∧ ContX S K H X' E
def upX (S : Stc) (K : PySem.W.Frag) (H0 : Hp) (WT : Sl → XT) : WX := fun cls d σ H => ∃ ss c fs G, At S K H0 ss G σ H ∧ ExR S K H c fs cls d ∧ WT ss c fs G

/-- an own error class without own __init__ -/
structure XOwn (K : PySem.W.Frag) (ca : Addr) : Prop where
  ex : ∃ bmB newId initId B, ExcBaseFacts B newId initId bmB ∧ PySem.W.excIn K ca bmB newId = true
  kp : PySem.W.keepIn K (.ref ca) = true
  sb : PySem.W.subIn K (.ref ca) (.type "BaseException") = some true
  ty : PySem.W.typeIn K (.ref ca) = some (.type "type")
/-- a name of an error class, as except and isinstance read it -/
def XNm (K : PySem.W.Frag) (mg : Str → Option Value) (S : Stc) (M : Gm) (C : String) : Prop :=
  ∃ cv v, RelV v cv ∧ (∀ u, RelV v u → u = cv) ∧ (mg (Str.ofString C) = some cv ∨ (mg (Str.ofString C) = none ∧ bootBuiltins (Str.ofString C) = some cv)) ∧
    ∀ c ca, S.xcl c = some ca → PySem.W.exmOne K (.ref ca) cv = some (M.sub c C) ∧ PySem.W.kitOne K (.ref ca) cv = some (M.sub c C)
/-- the module behind the top, for codes -/
structure MdOk (P : Program) (w : World) (K : PySem.W.Frag) (mg : Str → Option Value) (base : Heap) (S : Stc) (M : Gm) (k : Nat) (use blt : List String) : Prop where
  fn : ∀ f sp, M.fn "" f = some sp → ∃ fa fd ps, FnOk P w K mg base (L2.CX P w) k fa fd ps (upSp S K sp) ∧ mg (Str.ofString f) = some (.ref fa) ∧ PySem.W.keepIn K (.ref fa) = true ∧ Binds K fd ps []
  me : ∀ C m sp, M.fn C m = some sp → ∀ ca, S.cls C = some ca → ∃ fa fd ps, Meth K ca (Str.ofString m) fa ∧ FnOk P w K mg base (L2.CX P w) k fa fd ps (upSp S K sp) ∧ Binds K fd ps []
  cr : ∀ C sp, M.fn C "__init__" = some sp → ∃ ca fa fd ps j, S.cls C = some ca ∧ mg (Str.ofString C) = some (.ref ca) ∧ Mk K ca fa ∧ FnOk P w K mg base (L2.CX P w) j fa fd ps (upSp S K sp) ∧ j + 1 ≤ k ∧ Binds K fd ps []
  cst : ∀ x t, x ∈ use → M.cst x = some t → ∃ u v, mg (Str.ofString x) = some u ∧ RelV v u ∧ ∀ H, RT K H t v
  blt : ∀ x, x ∈ blt → mg (Str.ofString x) = none
  fld : ∀ C f, M.fld C f = true → S.fld C f = true
  xc : ∀ C, M.xfs C = some [] → ∃ ca, S.xcl C = some ca ∧ mg (Str.ofString C) = some (.ref ca) ∧ XOwn K ca
  xn : ∀ C, M.xnm C = true → XNm K mg S M C
  xi : ∀ c ca, S.xcl c = some ca → ExcC K ca
  cls : ∀ C ca, S.cls C = some ca → Cls K ca ∧ ∀ f, S.fld C f = true → NoAttr K ca (Str.ofString f)
  fv : ∀ p sp, M.fv p = some sp → ∃ fd ps, FnOk P w K mg base (L2.CX P w) k p fd ps (upSp S K sp) ∧ PySem.W.keepIn K (.ref p) = true ∧ Binds K fd ps []
/-- a context in which codes run -/
structure Ok (X : Cx) (S : Stc) (M : Gm) (k : Nat) (H0 : Hp) (WT : Sl → XT) (n : Nm) : Prop where
  N : X.N = n.N
  sc : X.env.scope = n.sc
  nd : X.N.Nodup
  calm : n.hot = false → X.calm = true
  hu : X.A.units + 64 < cLine
  room : n.hot = false → Room k X.A
  tk : Takes X (upX S X.K H0 WT)
  fn : n.cellOk = true → ∀ x, X.fn x = true
  pass : n.hot = false → PassesOwn (model X.prog X.w) X.A X.env X.xe
  md : MdOk X.prog X.w X.K X.mg X.base S M k n.use n.blt
  stk : n.cellOk = true → X.stack = X.env :: X.outer
  frm : n.cellOk = true → X.env.frame = some X.env.locals
  room1 : n.gens = true → n.hot = false → Room (k + 1) X.A
  tb : n.gens = true → ∃ c P, GxR.TabB X.base X.mg c P ∧ X.env.code = .ref c ∧ P ∈ S.tabs
  xh : n.hot = true → ∀ c fs p, M.xc = some (c, fs, p) → ∃ D, S.xcl c = some D ∧ (fs = [] → CallR X (.builtin "isinstance") (rIsE X.K D p))

/-! ### lifts -/
def upE (S : Stc) (K : PySem.W.Frag) (H0 : Hp) (WT : Sl → XT) (p : Sl → Gp → XT → QT → Prop) : TE := fun σ H Q => ∃ ss G Q', At S K H0 ss G σ H ∧ p ss G (WT ss) Q' ∧ Cont S K H Q' Q
def upT (S : Stc) (K : PySem.W.Frag) (H0 : Hp) (WT : Sl → XT) (p : Sl → Gp → XT → QT → Prop) : TT := fun σ H Q => ∃ ss G Q', At S K H0 ss G σ H ∧ p ss G (WT ss) Q' ∧
  ∀ t G' H', HX H H' → Sim S K H' G' → Q' t G' → ∃ b, t = .bl b ∧ Q b H'
def upA (S : Stc) (K : PySem.W.Frag) (H0 : Hp) (WT : Sl → XT) (n : Nat) (p : Sl → Gp → XT → (List T → Gp → Prop) → Prop) : TA := fun σ H Q => ∃ ss G Q', At S K H0 ss G σ H ∧ p ss G (WT ss) Q' ∧
  ∀ ts G' vs H', HX H H' → RTs K H' ts vs → Sim S K H' G' → vs.length = n → Q' ts G' → Q vs H'
def upO (S : Stc) (K : PySem.W.Frag) (H0 : Hp) (WT : Sl → XT) (p : Sl → Gp → XT → (Option Int → Gp → Prop) → Prop) : TO := fun σ H Q => ∃ ss G Q', At S K H0 ss G σ H ∧ p ss G (WT ss) Q' ∧
  ∀ o G' H', HX H H' → Sim S K H' G' → Q' o G' → Q o H'
def upI (S : Stc) (K : PySem.W.Frag) (H0 : Hp) (WT : Sl → XT) (p : Sl → Gp → XT → (Sq → Gp → Prop) → Prop) : TI := fun σ H R => ∃ ss G R', At S K H0 ss G σ H ∧ p ss G (WT ss) R' ∧
  ∀ sq G' J H', HX H H' → Sim S K H' G' → ItOk S K J sq H' → R' sq G' → R J H'
def upG (S : Stc) (K : PySem.W.Frag) (H0 : Hp) (p : T → Sl → (Sl → Prop) → Prop) : TG := fun v σ H Q => ∃ x ss G Q', RT K H x v ∧ At S K H0 ss G σ H ∧ p x ss Q' ∧ ∀ s1 σ1, At S K H0 s1 G σ1 H → Q' s1 → Q σ1 H
theorem _root_.L2.PE.imp {X : Cx} {e : Expr} {t t' : TE} (h : PE X e t) (i : ∀ σ H Q, t' σ H Q → t σ H Q) : PE X e t' := ⟨fun pins s σ H Q I w => h.run pins s σ H Q I (i _ _ _ w)⟩
theorem _root_.L2.PT.imp {X : Cx} {e : Expr} {t t' : TT} (h : PT X e t) (i : ∀ σ H Q, t' σ H Q → t σ H Q) : PT X e t' := ⟨fun pins s σ H Q I w => h.run pins s σ H Q I (i _ _ _ w)⟩
theorem _root_.L2.PW.imp {X : Cx} {e : Expr} {t t' : TT} (h : PW X e t) (i : ∀ σ H Q, t' σ H Q → t σ H Q) : PW X e t' := ⟨fun wh pins s σ H Q I w => h.run wh pins s σ H Q I (i _ _ _ w)⟩
theorem _root_.L2.PA.imp {X : Cx} {e : List Expr} {t t' : TA} (h : PA X e t) (i : ∀ σ H Q, t' σ H Q → t σ H Q) : PA X e t' := ⟨fun pos pins s σ H Q I w => h.run pos pins s σ H Q I (i _ _ _ w)⟩
theorem _root_.L2.PO.imp {X : Cx} {e : Option Expr} {t t' : TO} (h : PO X e t) (i : ∀ σ H Q, t' σ H Q → t σ H Q) : PO X e t' := ⟨fun pins s σ H Q I w => h.run pins s σ H Q I (i _ _ _ w)⟩
theorem _root_.L2.PI.imp {X : Cx} {tg e : Expr} {t t' : TI} (h : PI X tg e t) (i : ∀ σ H Q, t' σ H Q → t σ H Q) : PI X tg e t' := ⟨fun pins s σ H Q I w => h.run pins s σ H Q I (i _ _ _ w)⟩
theorem _root_.L2.PG.imp {X : Cx} {e : Expr} {t t' : TG} (h : PG X e t) (i : ∀ v σ H Q, t' v σ H Q → t v σ H Q) : PG X e t' := ⟨fun pins s σ H v u Q I r w => h.run pins s σ H v u Q I r (i _ _ _ _ w)⟩
theorem _root_.L2.PS.imp {X : Cx} {e : Stmt} {t t' : TS} (h : PS X e t) (i : ∀ D σ H, t' D σ H → t D σ H) : PS X e t' := ⟨fun pins s σ H D I w => h.run pins s σ H D I (i _ _ _ w)⟩
theorem _root_.L2.PSs.imp {X : Cx} {e : List Stmt} {t t' : TS} (h : PSs X e t) (i : ∀ D σ H, t' D σ H → t D σ H) : PSs X e t' := ⟨fun pins s σ H D I w => h.run pins s σ H D I (i _ _ _ w)⟩

/-! ### names -/
section
variable {X : Cx} {S : Stc} {M : Gm} {k : Nat} {H0 : Hp} {WT : Sl → XT} {n : Nm}
theorem Ok.gl (o : Ok X S M k H0 WT n) {x : Str} {f : String} (h : chkName n x f = true) : x = Str.ofString f ∧ Gl X x ∧ (x == ("__debug__" : Str)) = false ∧ x ≠ ("__name__" : Str) := by
  unfold chkName at h
  rw [Bool.and_eq_true, Bool.and_eq_true, decide_eq_true_eq] at h
  obtain ⟨h1, _, h3⟩ := okName_of h.2
  exact ⟨h.1.1, glB_gl (by rw [o.sc]; exact h.1.2), h1, h3⟩
theorem Ok.bl (o : Ok X S M k H0 WT n) {x : Str} {f : String} (h : chkBlt n x f = true) : x = Str.ofString f ∧ Gl X x ∧ (x == ("__debug__" : Str)) = false ∧ x ≠ ("__name__" : Str) ∧ X.mg x = none := by
  unfold chkBlt at h
  rw [Bool.and_eq_true] at h
  obtain ⟨h1, h2, h3, h4⟩ := o.gl h.1
  exact ⟨h1, h2, h3, h4, by rw [h1]; exact o.md.blt f (by simpa using h.2)⟩
theorem Ok.loc (o : Ok X S M k H0 WT n) {x : Str} (h : locB n x = true) : Loc X.env.scope x ∧ (X.fn x = true ∨ X.env.scope.names.lookup x = some .local) := by
  unfold locB at h
  rw [o.sc]
  split at h
  · rename_i e; exact ⟨.inl e, .inr e⟩
  · rename_i e; exact ⟨.inr e, .inl (o.fn h x)⟩
  · cases h
theorem Ok.hu1 (o : Ok X S M k H0 WT n) : X.A.units + 1 < cLine := by have := o.hu; omega

/-! ### calls of methods and classes, by the receiver's class -/
abbrev DoPl (o : Expr) (X : Cx) : Sem Bool := do return (← importBound o X.env).getD true
/-- the receiver is an instance whose class has the method -/
def MRec (S : Stc) (K : PySem.W.Frag) (M : Gm) (H0 : Hp) (WT : Sl → XT) (ms : String) (p : Sl → Gp → XT → (List T → Gp → Prop) → Prop) : V → L2.St → Hp → VK → Prop := fun v σ H1 Q =>
  ∃ ss G Q' a C fs sp, v = .ref a ∧ At S K H0 ss G σ H1 ∧ Cont S K H1 Q' Q ∧ G a = some (.ins C fs) ∧ fGet fs ms = none ∧ M.fn C ms = some sp ∧ p ss G (WT ss) fun ts G2 => sp (.ref a :: ts) G2 Q' (WT ss)
theorem meth_at (ok : Ok X S M k H0 WT n) (hh : n.hot = false) {ms : String} {p : Sl → Gp → XT → (List T → Gp → Prop) → Prop} {v : V} {u : Value} {σ : L2.St} {H1 : Hp} {Q : VK} {pins : List (Addr × Obj)} {s1 : Shared} {pl : Sem Bool} {P : Value × List Value → Shared → Prop} (I1 : Inv X pins σ H1 s1) (ru : RelV v u) (h : MRec S X.K M H0 WT ms p v σ H1 Q)
    (run : ∀ (ss : Sl) (G : Gp) (Q' : QT) (a : Addr) (sp : Pr) (g : Addr), u = .ref a → At S X.K H0 ss G σ H1 → PySem.W.keepIn X.K (.ref g) = true → p ss G (WT ss) (fun ts G2 => sp (.ref a :: ts) G2 Q' (WT ss)) →
      (∀ (s2 : Shared) (H2 : Hp) (us : List Value) (vs : List V) (ts : List T) (G2 : Gp), Inv X pins σ H2 s2 → Vals vs us → HX H1 H2 → RTs X.K H2 ts vs → Sim S X.K H2 G2 → sp (.ref a :: ts) G2 Q' (WT ss) → wpAny (model X.prog X.w) X.A (call (.ref g) (.ref a :: us)) (EP X pins σ Q) X.xe s2) → P (.ref g, [.ref a]) s1) :
    wpAny (model X.prog X.w) X.A (getMethod u (Str.ofString ms) pl) P X.xe s1 := by
  obtain ⟨ss, G, Q', a, C, fs, sp, rfl, at1, c1, ea, l, hsp, w⟩ := h
  obtain rfl : u = Value.ref a := ru
  obtain ⟨ca, dx, fl, e1, e2, e3, e4⟩ := at1.sim.ins ea
  obtain ⟨cl, _⟩ := ok.md.cls C ca e2
  have lk : fl.lookup (Str.ofString ms) = none := by
    rcases e3.get ms with ⟨_, z⟩ | ⟨t, v, z, _⟩
    · exact z
    · rw [l] at z; cases z
  obtain ⟨g, fd, ps, hg, F, b⟩ := ok.md.me C ms sp hsp ca e2
  refine getmeth_ok I1 e1 cl hg lk (run ss G Q' a sp g rfl at1 hg.kp w fun s2 H2 us vs ts G2 I2 r hx rt sm q => ?_)
  exact run_fnS (E := WE (upX S X.K H0 WT)) (us := .ref a :: us) (vs := .ref a :: vs) F (ok.room hh) b (passAt ok.tk σ) I2 (.cons rfl r)
    ⟨.ref a :: ts, G2, Q', WT ss, RTs.cons rt_ref rt, sm, q, c1.step hx, fun c fs' G' cls d H' hx' er sm' wx => ⟨ss, c, fs', G', at1.next (hx.trans hx') sm', er, wx⟩⟩
theorem meth_rule (ok : Ok X S M k H0 WT n) (hh : n.hot = false) {o e : Expr} {ms : String} {m : Str} {apos pos : Pos} {es : List Expr} {ta : TE} {len : Nat} {p : Sl → Gp → XT → (List T → Gp → Prop) → Prop} (hm : m = Str.ofString ms) (hb : basePl o = true) (hs : allPl (e :: es) = true) (hl : (apos.endLine == pos.line) = true) (hn : (e :: es).length < 30)
    (he : PE X o ta) (ha : PA X (e :: es) (upA S X.K H0 WT len p)) : PE X (.Call (.Attribute o m apos) (e :: es) [] pos) (fun σ H Q => ta σ H fun v H1 => MRec S X.K M H0 WT ms p v σ H1 Q) := by
  refine ⟨fun pins s σ H Q I h => ?_⟩
  subst hm
  refine PySem.W.methodCall_KW (pl := DoPl o X) (thn (he.run pins s σ H _ I h) fun u s1 ⟨v, H1, I1, rv, w⟩ => ?_) (meth_eq hb hs hl hn)
  refine meth_at ok hh I1 rv w fun ss G Q' a sp g eu at1 kg w run => ?_
  have hs' := hs
  unfold allPl at hs'
  rw [List.all_cons, Bool.and_eq_true] at hs'
  have hA := ha.run pos pins s1 σ H1 (fun vs H2 => ∃ ts G2, HX H1 H2 ∧ RTs X.K H2 ts vs ∧ Sim S X.K H2 G2 ∧ sp (.ref a :: ts) G2 Q' (WT ss)) I1
    ⟨ss, G, _, at1, w, fun ts G2 vs H2 hx rt sm _ h2 => ⟨ts, G2, hx, rt, sm, h2⟩⟩
  exact PySem.W.callWith_K (first := [.ref a]) (h₀ := X.base) I.ok.mod.kin kg (thn hA fun us s2 ⟨vs, H2, I2, r, ts, G2, hx, rt, sm, q⟩ => ⟨I2.kIn, run s2 H2 us vs ts G2 I2 r hx rt sm q⟩) (starEach_plain hs'.1) (star_none hs'.2)
theorem meth_rule0 (ok : Ok X S M k H0 WT n) (hh : n.hot = false) {o : Expr} {ms : String} {m : Str} {apos pos : Pos} {ta : TE} (hm : m = Str.ofString ms) (hb : basePl o = true) (hl : (apos.endLine == pos.line) = true)
    (he : PE X o ta) : PE X (.Call (.Attribute o m apos) [] [] pos) (fun σ H Q => ta σ H fun v H1 => MRec S X.K M H0 WT ms (fun _ G _ R => R [] G) v σ H1 Q) := by
  refine ⟨fun pins s σ H Q I h => ?_⟩
  subst hm
  refine PySem.W.methodCall_KW (pl := DoPl o X) (thn (he.run pins s σ H _ I h) fun u s1 ⟨v, H1, I1, rv, w⟩ => ?_) (meth_eq hb rfl hl (by decide))
  refine meth_at ok hh I1 rv w fun ss G Q' a sp g eu at1 kg w run => ?_
  exact PySem.W.callWith_K0 (first := [.ref a]) I1.kIn kg (run s1 H1 [] [] [] G I1 .nil (HX.refl _) RTs.nil at1.sim w)
/-- C(..) -/
def MkRec (S : Stc) (K : PySem.W.Frag) (M : Gm) (H0 : Hp) (WT : Sl → XT) (C : String) (sp : Pr) : List T → Gp → Sl → QT → Prop := fun ts G1 ss Q' => ∀ p, G1 p = none → sp (.ref p :: ts) (gu G1 p (.ins C [])) (fun v G2 => v = .non ∧ Q' (.ref p) G2) (WT ss)
theorem make_run (ok : Ok X S M k H0 WT n) (hh : n.hot = false) {C : String} {sp : Pr} (hsp : M.fn C "__init__" = some sp) {ca : Addr} {fa : Addr} {fd : FuncData} {ps : List Str} {j : Nat} (e2 : S.cls C = some ca) (mk : Mk X.K ca fa) (F : FnOk X.prog X.w X.K X.mg X.base (L2.CX X.prog X.w) j fa fd ps (upSp S X.K sp)) (hj : j + 1 ≤ k) (b : Binds X.K fd ps [])
    {pins : List (Addr × Obj)} {σ : L2.St} {H H1 : Hp} {s : Shared} {Q : VK} {Q' : QT} {us : List Value} {vs : List V} {ts : List T} {G1 : Gp} {ss : Sl} (I : Inv X pins σ H1 s) (r : Vals vs us) (at1 : At S X.K H0 ss G1 σ H1) (rt : RTs X.K H1 ts vs) (c1 : Cont S X.K H1 Q' Q) (q : MkRec S X.K M H0 WT C sp ts G1 ss Q') :
    wpAny (model X.prog X.w) X.A (call (.ref ca) us) (EP X pins σ Q) X.xe s := by
  have hx1 : H1 (s.heap.objs.size + 1) = none := I.hok.fresh (Nat.le_succ _)
  have hx0 : H1 s.heap.objs.size = none := I.hok.fresh (Nat.le_refl _)
  have ne : s.heap.objs.size ≠ s.heap.objs.size + 1 := Nat.ne_of_lt (Nat.lt_succ_self _)
  have ne' : (s.heap.objs.size : Addr) + 1 ≠ s.heap.objs.size := fun z => ne z.symm
  have I2 := Inv.made (C := ca) I
  have hx1' : upd H1 s.heap.objs.size (.own (s.heap.objs.size + 1)) (s.heap.objs.size + 1) = none := by rw [upd_ne ne']; exact hx1
  have hxA : HX H1 (upd (upd H1 s.heap.objs.size (.own (s.heap.objs.size + 1))) (s.heap.objs.size + 1) (.ins ca s.heap.objs.size [])) := (HX.new hx0).trans (HX.new hx1')
  have sm2 : Sim S X.K (upd (upd H1 s.heap.objs.size (.own (s.heap.objs.size + 1))) (s.heap.objs.size + 1) (.ins ca s.heap.objs.size [])) (gu G1 (s.heap.objs.size + 1) (.ins C [])) :=
    (at1.sim.aside hx0).new hx1' (show RO S X.K _ (.ins C []) (.ins ca _ []) from ⟨ca, _, [], rfl, e2, by unfold RF; rfl, fun p hp => by cases hp⟩)
  have qq := q (s.heap.objs.size + 1) (at1.sim.free hx1)
  have hq : upSp S X.K sp (V.ref (s.heap.objs.size + 1) :: vs) (upd (upd H1 s.heap.objs.size (.own (s.heap.objs.size + 1))) (s.heap.objs.size + 1) (.ins ca s.heap.objs.size [])) (fun v H2 => v = .non ∧ Q (.ref (s.heap.objs.size + 1)) H2) (WE (upX S X.K H0 WT) σ) :=
    ⟨.ref (s.heap.objs.size + 1) :: ts, _, _, WT ss, RTs.cons rt_ref (rt.mono hxA), sm2, qq, fun t G' v H' hx r' sm' ⟨e, q'⟩ => by
      subst e
      exact ⟨of_non r', c1 _ _ _ _ (hxA.trans hx) rt_ref sm' q'⟩, fun c fs' G' cls d H' hx' er sm' wx => ⟨ss, c, fs', G', at1.next (hxA.trans hx') sm', er, wx⟩⟩
  have r2 : Vals (V.ref (s.heap.objs.size + 1) :: vs) (Value.ref (s.heap.objs.size + 1) :: us) := .cons rfl r
  have hl : (Value.ref (s.heap.objs.size + 1) :: us).length = ps.length := by
    have e := r2.length
    rw [F.len _ _ _ _ hq] at e
    exact e.symm
  have bb := b { s with heap := (s.heap.push PySem.W.emptyDict).push (PySem.W.instObj ca s.heap.objs.size) } (Value.ref (s.heap.objs.size + 1) :: us) I2.kIn (by rw [List.append_nil]; exact hl)
  rw [List.append_nil] at bb
  refine wpAny_call (make_map (f := fa) I.kIn mk.makes mk.init (beq_iff_eq.mp mk.fn) (codeAny_mono (F.run _ X.stack _ _ ⟨Value.ref (s.heap.objs.size + 1) :: us, []⟩ (Value.ref (s.heap.objs.size + 1) :: us) _ _ (WE (upX S X.K H0 WT) σ) (Room.make ((ok.room hh).mono hj) ca us [])
    (I2.env0.make ca us []) bb r2 hq) fun r s' hq' => ?_))
  cases r with
  | error e => exact passAt ok.tk σ pins _ _ e s' I2 hq'
  | ok fl =>
    cases fl with
    | ret u =>
      obtain ⟨v, H', I3, rv, ev, q3⟩ := I2.after hq'
      subst ev
      exact ⟨rv, ⟨V.ref (s.heap.objs.size + 1), H', I3, rfl, q3⟩⟩
    | next => exact False.elim hq'
    | brk => exact False.elim hq'
    | cont => exact False.elim hq'
theorem make_rule (ok : Ok X S M k H0 WT n) {x : Str} {C : String} {e : Expr} {es : List Expr} {pp pos : Pos} {len : Nat} {p : Sl → Gp → XT → (List T → Gp → Prop) → Prop} (hc' : chkFn n x C = true) (hs : allPl (e :: es) = true)
    (ha : PA X (e :: es) (upA S X.K H0 WT len p)) : PE X (.Call (.Name x pp) (e :: es) [] pos) (upE S X.K H0 WT fun ss G X' Q' => ∃ sp, M.fn C "__init__" = some sp ∧ p ss G X' fun ts G1 => ∀ p, G1 p = none → sp (.ref p :: ts) (gu G1 p (.ins C [])) (fun v G2 => v = .non ∧ Q' (.ref p) G2) X') := by
  refine ⟨fun pins s σ H Q I ⟨ss, G, Q', at0, ⟨sp, hsp, w⟩, c⟩ => ?_⟩
  obtain ⟨hc, hh⟩ := chkFn_of hc'
  obtain ⟨hx, hg, hd, _⟩ := ok.gl hc
  subst hx
  obtain ⟨ca, fa, fd, ps, j, e2, hm, mk, F, hj, b⟩ := ok.md.cr C sp hsp
  have hs' := hs
  unfold allPl at hs'
  rw [List.all_cons, Bool.and_eq_true] at hs'
  refine wpAny_Call_Name_kw (ld_glob I hg hm ?_ hd)
  have hA := ha.run pos pins s σ H (fun vs H2 => ∃ ts G2, HX H H2 ∧ RTs X.K H2 ts vs ∧ Sim S X.K H2 G2 ∧ MkRec S X.K M H0 WT C sp ts G2 ss Q') I
    ⟨ss, G, _, at0, w, fun ts G2 vs H2 hx rt sm _ h2 => ⟨ts, G2, hx, rt, sm, h2⟩⟩
  exact PySem.W.callWith_K (h₀ := X.base) I.ok.mod.kin mk.kp (thn hA fun us s1 ⟨vs, H1, I1, r, ts, G2, hx, rt, sm, q⟩ => ⟨I1.kIn, make_run ok hh (H := H) hsp e2 mk F hj b I1 r (at0.next hx sm) rt (c.step hx) q⟩) (starEach_plain hs'.1) (star_none hs'.2)
theorem make_rule0 (ok : Ok X S M k H0 WT n) {x : Str} {C : String} {pp pos : Pos} (hc' : chkFn n x C = true) : PE X (.Call (.Name x pp) [] [] pos) (upE S X.K H0 WT fun ss G X' Q' => ∃ sp, M.fn C "__init__" = some sp ∧ ∀ p, G p = none → sp [.ref p] (gu G p (.ins C [])) (fun v G2 => v = .non ∧ Q' (.ref p) G2) X') := by
  refine ⟨fun pins s σ H Q I ⟨ss, G, Q', at0, ⟨sp, hsp, w⟩, c⟩ => ?_⟩
  obtain ⟨hc, hh⟩ := chkFn_of hc'
  obtain ⟨hx, hg, hd, _⟩ := ok.gl hc
  subst hx
  obtain ⟨ca, fa, fd, ps, j, e2, hm, mk, F, hj, b⟩ := ok.md.cr C sp hsp
  refine wpAny_Call_Name_kw (ld_glob I hg hm ?_ hd)
  exact PySem.W.callWith_K0 I.kIn mk.kp (make_run ok hh (H := H) hsp e2 mk F hj b (us := []) I .nil at0 RTs.nil c w)
end
end SK

set_option Elab.async false
set_option linter.all false
set_option maxRecDepth 100000
/-! SK7: one rule a construct. -/
namespace SK
open PySem PySem.Spec PyProof.Rows L2
section
variable {X : Cx} {S : Stc} {M : Gm} {k : Nat} {H0 : Hp} {WT : Sl → XT} {n : Nm}
theorem r_var (ok : Ok X S M k H0 WT n) {i : Nat} {x : Str} {pos : Pos} (h : chkE (.var i) n (.Name x pos) = true) : PE X (.Name x pos) (upE S X.K H0 WT (wpE M (.var i))) := by
  simp only [chkE, Bool.and_eq_true, decide_eq_true_eq] at h
  obtain ⟨⟨h1, h2⟩, h3⟩ := h
  obtain ⟨d1, d2, _⟩ := okName_of h3
  refine (pe_var (i := i) (by rw [ok.N]; exact h1) (by rw [ok.sc]; exact visB_vis h2) d1 d2).imp fun σ H Q ⟨ss, G, Q', a, w, c⟩ => ?_
  simp only [wpE] at w
  obtain ⟨t, e, q⟩ := w
  obtain ⟨v, e2, r⟩ := a.rs.2 i t e
  exact ⟨v, e2, c.here a.sim r q⟩
theorem r_kc {t : T} {c : Const} {j : Nat} {pos : Pos} (h : chkC t c = true) : PE X (.Constant c j pos) (upE S X.K H0 WT (wpE M (.kc t))) := by
  have go : ∀ {v : V}, (∀ H, RT X.K H t v) → PE X (.Constant c j pos) (tC v) → PE X (.Constant c j pos) (upE S X.K H0 WT (wpE M (.kc t))) := fun {v} r p =>
    p.imp fun σ H Q ⟨ss, G, Q', a, w, ct⟩ => by
      simp only [wpE] at w
      exact ct.here a.sim (r H) w
  cases t <;> cases c <;> (try (simp [chkC] at h; done))
  · exact go (fun _ => rt_non) pe_non
  · simp only [chkC, beq_iff_eq] at h; subst h; exact go (fun _ => rt_bl) pe_bl
  · simp only [chkC, beq_iff_eq] at h; subst h; exact go (fun _ => rt_int) pe_int
  · simp only [chkC, decide_eq_true_eq] at h; subst h; exact go (fun _ => rt_str) pe_str
theorem r_gl (ok : Ok X S M k H0 WT n) {f : String} {x : Str} {pos : Pos} (h : chkE (.gl f) n (.Name x pos) = true) : PE X (.Name x pos) (upE S X.K H0 WT (wpE M (.gl f))) := by
  simp only [chkE, Bool.and_eq_true] at h
  obtain ⟨hx, hg, hd, _⟩ := ok.gl h.1
  refine ⟨fun pins s σ H Q I ⟨ss, G, Q', a, w, c⟩ => ?_⟩
  simp only [wpE] at w
  obtain ⟨t, e, q⟩ := w
  obtain ⟨u, v, hm, r, rt⟩ := ok.md.cst f t (by simpa using h.2) e
  subst hx
  exact ld_glob I hg hm ⟨v, H, I, r, c.here a.sim (rt H) q⟩ hd
theorem r_nil : PA X [] (upA S X.K H0 WT 0 (wpEs M .nil)) := pa_nil.imp fun σ H Q ⟨ss, G, Q', a, w, c⟩ => by
  simp only [wpEs] at w
  exact c [] G [] H (HX.refl _) RTs.nil a.sim rfl w
theorem r_cons {e : Expr} {es : List Expr} {ce : E} {cs : Es} {len : Nat} (hs : notStar e = true) (h1 : PE X e (upE S X.K H0 WT (wpE M ce))) (h2 : PA X es (upA S X.K H0 WT len (wpEs M cs))) : PA X (e :: es) (upA S X.K H0 WT (len + 1) (wpEs M (.cons ce cs))) :=
  (pa_cons h1 h2 (starEach_plain hs)).imp fun σ H Q ⟨ss, G, Q', a, w, c⟩ => by
    simp only [wpEs] at w
    exact ⟨ss, G, _, a, w, fun t G1 v H1 hx r sm w1 => ⟨ss, G1, _, a.next hx sm, w1, fun ts G2 vs H2 hx2 rs sm2 hl w2 => c (t :: ts) G2 (v :: vs) H2 (hx.trans hx2) (RTs.cons (r.mono hx2) rs) sm2 (by simp [hl]) w2⟩⟩
theorem r_tup {es : List Expr} {cs : Es} {j len : Nat} {pos : Pos} (hl : len ≤ 1000) (h : PA X es (upA S X.K H0 WT len (wpEs M cs))) : PE X (.Tuple es j pos) (upE S X.K H0 WT (wpE M (.tup cs))) :=
  (pe_tup h).imp fun σ H Q ⟨ss, G, Q', a, w, c⟩ => by
    simp only [wpE] at w
    refine ⟨ss, G, _, a, w, fun ts G1 vs H1 hx r sm hl' q => ⟨by rw [hl']; exact Nat.le_trans hl (by decide), fun p hp => ?_⟩⟩
    exact (c.step hx).newT sm hp r q
theorem r_lst {es : List Expr} {cs : Es} {len : Nat} {pos : Pos} (hl : len ≤ 1000) (h : PA X es (upA S X.K H0 WT len (wpEs M cs))) : PE X (.List es pos) (upE S X.K H0 WT (wpE M (.lst cs))) :=
  (pe_lst h).imp fun σ H Q ⟨ss, G, Q', a, w, c⟩ => by
    simp only [wpE] at w
    refine ⟨ss, G, _, a, w, fun ts G1 vs H1 hx r sm hl' q => ⟨by rw [hl']; exact Nat.le_trans hl (by decide), fun p hp => ?_⟩⟩
    exact (c.step hx).newL sm hp r q
theorem r_dct0 {pos : Pos} : PE X (.Dict [] [] pos) (upE S X.K H0 WT (wpE M (.dct [] .nil))) :=
  pe_dnewK.imp fun σ H Q ⟨ss, G, Q', a, w, c⟩ => by
    simp only [wpE, wpEs, List.length_nil, List.map_nil, List.zip_nil_left] at w
    intro p hp
    have q := (w p (a.sim.free hp)).2.2
    have e : gu (gu G p (.dct [])) p (.dct []) = gu G p (.dct []) := by funext b; unfold gu; split <;> rfl
    rw [e] at q
    exact c _ _ _ _ (HX.new hp) rt_ref (a.sim.new hp (show RO S X.K _ (.dct []) (.dK []) from ⟨[], rfl, by unfold RK; rfl⟩)) q
/-! operators -/
theorem r_op {o : Op} {op : Operator} {a b : Expr} {ca cb : E} {pos : Pos} (hc : chkOp o op = true) (h1 : PE X a (upE S X.K H0 WT (wpE M ca))) (h2 : PE X b (upE S X.K H0 WT (wpE M cb))) {f : T → T → Gp → QT → Prop} (hf : OpR X (binaryOp op) (up2 S X.K f)) :
    PE X (.BinOp a op b pos) (upE S X.K H0 WT fun ss G X' Q => wpE M ca ss G X' fun x G1 => wpE M cb ss G1 X' fun y G2 => f x y G2 Q) :=
  (pe_op hf h1 h2).imp fun σ H Q ⟨ss, G, Q', a, w, c⟩ =>
    ⟨ss, G, _, a, w, fun t G1 v H1 hx r sm w1 => ⟨ss, G1, _, a.next hx sm, w1, fun u G2 z H2 hx2 r2 sm2 w2 => ⟨t, u, G2, Q', r.mono hx2, r2, sm2, w2, (c.step hx).step hx2⟩⟩⟩
theorem r_bin (ok : Ok X S M k H0 WT n) {o : Op} {op : Operator} {a b : Expr} {ca cb : E} {pos : Pos} (hc : chkOp o op = true) (h1 : PE X a (upE S X.K H0 WT (wpE M ca))) (h2 : PE X b (upE S X.K H0 WT (wpE M cb))) :
    PE X (.BinOp a op b pos) (upE S X.K H0 WT (wpE M (.bin o ca cb))) := by
  have z : ∀ {f : T → T → Gp → QT → Prop}, binW o = f → OpR X (binaryOp op) (up2 S X.K f) → PE X (.BinOp a op b pos) (upE S X.K H0 WT (wpE M (.bin o ca cb))) := fun {f} e hf =>
    (r_op hc h1 h2 hf).imp fun σ H Q ⟨ss, G, Q', a, w, c⟩ => by
      simp only [wpE, e] at w
      exact ⟨ss, G, Q', a, w, c⟩
  cases o <;> cases op <;> first | (cases hc; done) | skip
  · exact z rfl op_addW
  · exact z rfl op_subW
  · exact z rfl op_mulW
  · exact z rfl op_fdvW
  · exact z rfl op_modW
  · exact z rfl op_powW
theorem r_neg {a : Expr} {ca : E} {pos : Pos} (h1 : PE X a (upE S X.K H0 WT (wpE M ca))) : PE X (.UnaryOp .USub a pos) (upE S X.K H0 WT (wpE M (.neg ca))) :=
  (pe_un un_neg h1).imp fun σ H Q ⟨ss, G, Q', a, w, c⟩ => by
    simp only [wpE] at w
    refine ⟨ss, G, _, a, w, fun t G1 v H1 hx r sm ⟨i, e, q⟩ => ?_⟩
    subst e
    exact ⟨i, of_int r, (c.step hx).here sm rt_int q⟩
theorem marks {c : E} {op : CmpOp} {e : Expr} (h : chkE c n e = true) : behindInMarks op e = false := by
  cases e <;> first | rfl | (cases c <;> simp [chkE] at h)
/-- a comparison, as a value and as a test -/
theorem r_cmp' (ok : Ok X S M k H0 WT n) {o : Cp} {op : CmpOp} {a b : Expr} {ca cb : E} {pos : Pos} (hc : chkCp o op = true) (hm : chkE cb n b = true) (h1 : PE X a (upE S X.K H0 WT (wpE M ca))) (h2 : PE X b (upE S X.K H0 WT (wpE M cb))) :
    PE X (.Compare a [op] [b] pos) (upE S X.K H0 WT (wpE M (.cmp o ca cb))) ∧ PT X (.Compare a [op] [b] pos) (upT S X.K H0 WT (wpE M (.cmp o ca cb))) := by
  have z : ∀ {f : T → T → Gp → QT → Prop}, cmpW o = f → OpR X (compareOp op) (up2 S X.K f) → PE X (.Compare a [op] [b] pos) (upE S X.K H0 WT (wpE M (.cmp o ca cb))) ∧ PT X (.Compare a [op] [b] pos) (upT S X.K H0 WT (wpE M (.cmp o ca cb))) := fun {f} e hf =>
    ⟨(pe_cmpR hf h1 h2 (marks hm)).imp fun σ H Q ⟨ss, G, Q', a, w, c⟩ => by
      simp only [wpE, e] at w
      exact ⟨ss, G, _, a, w, fun t G1 v H1 hx r sm w1 => ⟨ss, G1, _, a.next hx sm, w1, fun u G2 z H2 hx2 r2 sm2 w2 => ⟨t, u, G2, Q', r.mono hx2, r2, sm2, w2, (c.step hx).step hx2⟩⟩⟩,
    (pt_cmpR hf h1 h2 (marks hm)).imp fun σ H Q ⟨ss, G, Q', a, w, c⟩ => by
      simp only [wpE, e] at w
      exact ⟨ss, G, _, a, w, fun t G1 v H1 hx r sm w1 => ⟨ss, G1, _, a.next hx sm, w1, fun u G2 z H2 hx2 r2 sm2 w2 => ⟨t, u, G2, Q', r.mono hx2, r2, sm2, w2, fun t3 G3 v3 H3 hx3 r3 sm3 q3 => by
        obtain ⟨b, e, q⟩ := c t3 G3 H3 ((hx.trans hx2).trans hx3) sm3 q3
        subst e
        exact ⟨b, of_bl r3, q⟩⟩⟩⟩⟩
  have dctR : ∀ (neg : Bool) {σ : L2.St} {H H2 : Hp} {Q : VK} {Q' : QT} {x : T} {y : T} {v u : V} {G2 : Gp}, RT X.K H2 x v → RT X.K H2 y u → Sim S X.K H2 G2 → inDW neg x y G2 Q' → Cont S X.K H2 Q' Q → ∃ aa oo, u = .ref aa ∧ DGet H2 aa v oo ∧ Q (.bl (xor neg oo.isSome)) H2 := by
    intro neg σ H H2 Q Q' x y v u G2 rx ry sm w c
    cases y <;> first | exact False.elim w | skip
    cases of_ref ry
    obtain ⟨kvs, kk, e1, e2, q⟩ := w
    obtain ⟨l, hl, rk⟩ := sm.dct e1
    have ev := keyT_of e2 rx
    subst ev
    refine ⟨_, _, rfl, DGet.k hl, ?_⟩
    rcases rk.get kk with ⟨z1, z2⟩ | ⟨t, v, z1, z2, _⟩
    · rw [z1] at q; rw [z2]; exact c.here sm rt_bl q
    · rw [z1] at q; rw [z2]; exact c.here sm rt_bl q
  cases o <;> cases op <;> first | (cases hc; done) | skip
  · exact z rfl (op_eqW ok.hu)
  · exact z rfl (op_neW ok.hu)
  · exact z rfl op_ltW
  · exact z rfl op_leW
  · exact z rfl op_gtW
  · exact z rfl op_geW
  · exact z rfl op_inW
  · exact z rfl op_niW
  · refine ⟨(pe_cmp (pc_din ok.hu1 h1 h2) (marks hm)).imp fun σ H Q ⟨ss, G, Q', a, w, c⟩ => ?_, (pt_cmp (pc_din ok.hu1 h1 h2) (marks hm)).imp fun σ H Q ⟨ss, G, Q', a, w, c⟩ => ?_⟩
    · simp only [wpE, cmpW] at w
      refine ⟨ss, G, _, a, w, fun t G1 v H1 hx r sm w1 => ⟨ss, G1, _, a.next hx sm, w1, fun u G2 z H2 hx2 r2 sm2 w2 => ?_⟩⟩
      obtain ⟨aa, oo, e1, e2, q⟩ := dctR false (σ := σ) (H := H) (r.mono hx2) r2 sm2 w2 ((c.step hx).step hx2)
      rw [Bool.false_xor] at q
      exact ⟨aa, oo, e1, e2, q⟩
    · simp only [wpE, cmpW] at w
      refine ⟨ss, G, _, a, w, fun t G1 v H1 hx r sm w1 => ⟨ss, G1, _, a.next hx sm, w1, fun u G2 z H2 hx2 r2 sm2 w2 => ?_⟩⟩
      obtain ⟨aa, oo, e1, e2, q⟩ := dctR false (σ := σ) (H := H) (Q := fun x H1 => ∃ c, x = .bl c ∧ Q c H1) (r.mono hx2) r2 sm2 w2 (fun t3 G3 v3 H3 hx3 r3 sm3 q3 => by
        obtain ⟨b, e, q⟩ := c t3 G3 H3 ((hx.trans hx2).trans hx3) sm3 q3
        subst e
        exact ⟨b, of_bl r3, q⟩)
      rw [Bool.false_xor] at q
      exact ⟨aa, oo, e1, e2, q⟩
  · refine ⟨(pe_cmp (pc_dnotin ok.hu1 h1 h2) (marks hm)).imp fun σ H Q ⟨ss, G, Q', a, w, c⟩ => ?_, (pt_cmp (pc_dnotin ok.hu1 h1 h2) (marks hm)).imp fun σ H Q ⟨ss, G, Q', a, w, c⟩ => ?_⟩
    · simp only [wpE, cmpW] at w
      refine ⟨ss, G, _, a, w, fun t G1 v H1 hx r sm w1 => ⟨ss, G1, _, a.next hx sm, w1, fun u G2 z H2 hx2 r2 sm2 w2 => ?_⟩⟩
      obtain ⟨aa, oo, e1, e2, q⟩ := dctR true (σ := σ) (H := H) (r.mono hx2) r2 sm2 w2 ((c.step hx).step hx2)
      rw [Bool.true_xor] at q
      exact ⟨aa, oo, e1, e2, q⟩
    · simp only [wpE, cmpW] at w
      refine ⟨ss, G, _, a, w, fun t G1 v H1 hx r sm w1 => ⟨ss, G1, _, a.next hx sm, w1, fun u G2 z H2 hx2 r2 sm2 w2 => ?_⟩⟩
      obtain ⟨aa, oo, e1, e2, q⟩ := dctR true (σ := σ) (H := H) (Q := fun x H1 => ∃ c, x = .bl c ∧ Q c H1) (r.mono hx2) r2 sm2 w2 (fun t3 G3 v3 H3 hx3 r3 sm3 q3 => by
        obtain ⟨b, e, q⟩ := c t3 G3 H3 ((hx.trans hx2).trans hx3) sm3 q3
        subst e
        exact ⟨b, of_bl r3, q⟩)
      rw [Bool.true_xor] at q
      exact ⟨aa, oo, e1, e2, q⟩
  · exact z rfl op_isNW
  · exact z rfl op_ntNW
/-- a value that is a bool, as a test -/
theorem r_tst {e : Expr} {p : Sl → Gp → XT → QT → Prop} (h : PE X e (upE S X.K H0 WT p)) (he : ∀ whole, isTrue e X.env whole = (do let v ← whole; standAt e.pos; holding [v] (truthy v))) : PT X e (upT S X.K H0 WT p) :=
  (pt_val h he).imp fun σ H Q ⟨ss, G, Q', a, w, c⟩ => ⟨ss, G, Q', a, w, fun t G1 v H1 hx r sm q => by
    obtain ⟨b, e, q2⟩ := c t G1 H1 hx sm q
    subst e
    exact ⟨b, of_bl r, q2⟩⟩
theorem r_not {a : Expr} {ca : E} {pos : Pos} (h1 : PE X a (upE S X.K H0 WT (wpE M ca))) : PE X (.UnaryOp .Not a pos) (upE S X.K H0 WT (wpE M (.lnot ca))) :=
  (pe_not h1).imp fun σ H Q ⟨ss, G, Q', a, w, c⟩ => by
    simp only [wpE] at w
    refine ⟨ss, G, _, a, w, fun t G1 v H1 hx r sm ⟨i, e, q⟩ => ?_⟩
    subst e
    exact ⟨i, of_bl r, (c.step hx).here sm rt_bl q⟩
theorem r_notT {a : Expr} {ca : E} {pos : Pos} (h1 : PT X a (upT S X.K H0 WT (wpE M ca))) : PT X (.UnaryOp .Not a pos) (upT S X.K H0 WT (wpE M (.lnot ca))) :=
  (pt_not h1).imp fun σ H Q ⟨ss, G, Q', a, w, c⟩ => by
    simp only [wpE] at w
    refine ⟨ss, G, _, a, w, fun t G1 H1 hx sm ⟨i, e, q⟩ => ?_⟩
    subst e
    obtain ⟨b, e2, q2⟩ := c _ G1 H1 hx sm q
    cases e2
    exact ⟨i, rfl, q2⟩
/-! and, or -/
theorem r_and1 {e : Expr} {ce : E} {pos : Pos} (h : PE X e (upE S X.K H0 WT (wpE M ce))) : PE X (.BoolOp .And [e] pos) (upE S X.K H0 WT (wpAnd M (.cons ce .nil))) :=
  (pe_one h).imp fun σ H Q ⟨ss, G, Q', a, w, c⟩ => ⟨ss, G, Q', a, by simp only [wpAnd] at w; exact w, c⟩
theorem r_and2 {e f : Expr} {es : List Expr} {ce cf : E} {cs : Es} {pos : Pos} (h : PE X e (upE S X.K H0 WT (wpE M ce))) (h2 : PE X (.BoolOp .And (f :: es) pos) (upE S X.K H0 WT (wpAnd M (.cons cf cs)))) :
    PE X (.BoolOp .And (e :: f :: es) pos) (upE S X.K H0 WT (wpAnd M (.cons ce (.cons cf cs)))) :=
  (pe_and h h2).imp fun σ H Q ⟨ss, G, Q', a, w, c⟩ => by
    rw [wpAnd] at w
    refine ⟨ss, G, _, a, w, fun t G1 v H1 hx r sm ⟨b, e, q⟩ => ?_⟩
    subst e
    refine ⟨b, of_bl r, ?_⟩
    cases b with
    | true => exact ⟨ss, G1, Q', a.next hx sm, q, c.step hx⟩
    | false => exact (c.step hx).here sm rt_bl q
theorem r_or1 {e : Expr} {ce : E} {pos : Pos} (h : PE X e (upE S X.K H0 WT (wpE M ce))) : PE X (.BoolOp .Or [e] pos) (upE S X.K H0 WT (wpOr M (.cons ce .nil))) :=
  (pe_one h).imp fun σ H Q ⟨ss, G, Q', a, w, c⟩ => ⟨ss, G, Q', a, by simp only [wpOr] at w; exact w, c⟩
theorem r_or2 {e f : Expr} {es : List Expr} {ce cf : E} {cs : Es} {pos : Pos} (h : PE X e (upE S X.K H0 WT (wpE M ce))) (h2 : PE X (.BoolOp .Or (f :: es) pos) (upE S X.K H0 WT (wpOr M (.cons cf cs)))) :
    PE X (.BoolOp .Or (e :: f :: es) pos) (upE S X.K H0 WT (wpOr M (.cons ce (.cons cf cs)))) :=
  (pe_or h h2).imp fun σ H Q ⟨ss, G, Q', a, w, c⟩ => by
    rw [wpOr] at w
    refine ⟨ss, G, _, a, w, fun t G1 v H1 hx r sm ⟨b, e, q⟩ => ?_⟩
    subst e
    refine ⟨b, of_bl r, ?_⟩
    cases b with
    | false => exact ⟨ss, G1, Q', a.next hx sm, q, c.step hx⟩
    | true => exact (c.step hx).here sm rt_bl q
theorem r_and1T {e : Expr} {ce : E} {pos : Pos} (h : PT X e (upT S X.K H0 WT (wpE M ce))) : PW X (.BoolOp .And [e] pos) (upT S X.K H0 WT (wpAnd M (.cons ce .nil))) :=
  (pw_and1 h).imp fun σ H Q ⟨ss, G, Q', a, w, c⟩ => ⟨ss, G, Q', a, by simp only [wpAnd] at w; exact w, c⟩
theorem r_and2T {e f : Expr} {es : List Expr} {ce cf : E} {cs : Es} {pos : Pos} (h : PT X e (upT S X.K H0 WT (wpE M ce))) (h2 : PW X (.BoolOp .And (f :: es) pos) (upT S X.K H0 WT (wpAnd M (.cons cf cs)))) :
    PW X (.BoolOp .And (e :: f :: es) pos) (upT S X.K H0 WT (wpAnd M (.cons ce (.cons cf cs)))) :=
  (pw_and h h2).imp fun σ H Q ⟨ss, G, Q', a, w, c⟩ => by
    rw [wpAnd] at w
    refine ⟨ss, G, _, a, w, fun t G1 H1 hx sm ⟨b, e, q⟩ => ?_⟩
    subst e
    refine ⟨b, rfl, ?_⟩
    cases b with
    | true => exact ⟨ss, G1, Q', a.next hx sm, q, fun t2 G2 H2 hx2 sm2 q2 => c t2 G2 H2 (hx.trans hx2) sm2 q2⟩
    | false =>
      obtain ⟨b2, e2, q2⟩ := c _ G1 H1 hx sm q
      cases e2
      exact q2
theorem r_or1T {e : Expr} {ce : E} {pos : Pos} (h : PT X e (upT S X.K H0 WT (wpE M ce))) : PW X (.BoolOp .Or [e] pos) (upT S X.K H0 WT (wpOr M (.cons ce .nil))) :=
  (pw_or1 h).imp fun σ H Q ⟨ss, G, Q', a, w, c⟩ => ⟨ss, G, Q', a, by simp only [wpOr] at w; exact w, c⟩
theorem r_or2T {e f : Expr} {es : List Expr} {ce cf : E} {cs : Es} {pos : Pos} (h : PT X e (upT S X.K H0 WT (wpE M ce))) (h2 : PW X (.BoolOp .Or (f :: es) pos) (upT S X.K H0 WT (wpOr M (.cons cf cs)))) :
    PW X (.BoolOp .Or (e :: f :: es) pos) (upT S X.K H0 WT (wpOr M (.cons ce (.cons cf cs)))) :=
  (pw_or h h2).imp fun σ H Q ⟨ss, G, Q', a, w, c⟩ => by
    rw [wpOr] at w
    refine ⟨ss, G, _, a, w, fun t G1 H1 hx sm ⟨b, e, q⟩ => ?_⟩
    subst e
    refine ⟨b, rfl, ?_⟩
    cases b with
    | false => exact ⟨ss, G1, Q', a.next hx sm, q, fun t2 G2 H2 hx2 sm2 q2 => c t2 G2 H2 (hx.trans hx2) sm2 q2⟩
    | true =>
      obtain ⟨b2, e2, q2⟩ := c _ G1 H1 hx sm q
      cases e2
      exact q2
theorem r_ife {t a b : Expr} {ct ca cb : E} {pos : Pos} (h : PT X t (upT S X.K H0 WT (wpE M ct))) (h1 : PE X a (upE S X.K H0 WT (wpE M ca))) (h2 : PE X b (upE S X.K H0 WT (wpE M cb))) : PE X (.IfExp t a b pos) (upE S X.K H0 WT (wpE M (.ife ct ca cb))) :=
  (pe_ifExp h h1 h2).imp fun σ H Q ⟨ss, G, Q', a, w, c⟩ => by
    simp only [wpE] at w
    refine ⟨ss, G, _, a, w, fun t G1 H1 hx sm ⟨b, e, q⟩ => ?_⟩
    subst e
    refine ⟨b, rfl, ?_⟩
    cases b with
    | true => exact ⟨ss, G1, Q', a.next hx sm, q, c.step hx⟩
    | false => exact ⟨ss, G1, Q', a.next hx sm, q, c.step hx⟩
/-! subscripts, fields -/
theorem plainIx_of {c : E} {e : Expr} (h : chkE c n e = true) : PlainIx e := by
  intro o i
  cases e <;> first | rfl | (cases c <;> simp [chkE] at h)
theorem r_ix {a b : Expr} {ca cb : E} {pos : Pos} (hm : chkE cb n b = true) (h1 : PE X a (upE S X.K H0 WT (wpE M ca))) (h2 : PE X b (upE S X.K H0 WT (wpE M cb))) : PE X (.Subscript a b pos) (upE S X.K H0 WT (wpE M (.ix ca cb))) :=
  (pe_ix ix_W h1 h2 (plainIx_of hm)).imp fun σ H Q ⟨ss, G, Q', a, w, c⟩ => by
    simp only [wpE] at w
    exact ⟨ss, G, _, a, w, fun t G1 v H1 hx r sm w1 => ⟨ss, G1, _, a.next hx sm, w1, fun u G2 z H2 hx2 r2 sm2 w2 => ⟨t, u, G2, Q', r.mono hx2, r2, sm2, w2, (c.step hx).step hx2⟩⟩⟩
theorem r_dx (ok : Ok X S M k H0 WT n) {a b : Expr} {ca cb : E} {pos : Pos} (hm : chkE cb n b = true) (h1 : PE X a (upE S X.K H0 WT (wpE M ca))) (h2 : PE X b (upE S X.K H0 WT (wpE M cb))) : PE X (.Subscript a b pos) (upE S X.K H0 WT (wpE M (.dx ca cb))) :=
  (pe_dget ok.hu1 h1 h2 (plainIx_of hm)).imp fun σ H Q ⟨ss, G, Q', a, w, c⟩ => by
    simp only [wpE] at w
    refine ⟨ss, G, _, a, w, fun t G1 v H1 hx r sm w1 => ⟨ss, G1, _, a.next hx sm, w1, fun u G2 z H2 hx2 r2 sm2 w2 => ?_⟩⟩
    have r' := r.mono hx2
    cases t <;> first | exact False.elim w2 | skip
    cases of_ref r'
    obtain ⟨kvs, kk, x, e1, e2, e3, q⟩ := w2
    obtain ⟨l, hl, rk⟩ := sm2.dct e1
    have ev := keyT_of e2 r2
    subst ev
    rcases rk.get kk with ⟨z1, z2⟩ | ⟨t, v, z1, z2, rt⟩
    · rw [z1] at e3; cases e3
    · rw [z1] at e3
      cases e3
      exact ⟨_, v, rfl, by rw [← z2]; exact DGet.k hl, ((c.step hx).step hx2).here sm2 rt q⟩
theorem r_sl {a : Expr} {lo hi : Option Expr} {ca cl ch : E} {p2 pos : Pos} (h1 : PE X a (upE S X.K H0 WT (wpE M ca))) (h2 : PO X lo (upO S X.K H0 WT (wpO M cl))) (h3 : PO X hi (upO S X.K H0 WT (wpO M ch))) : PE X (.Subscript a (.Slice lo hi none p2) pos) (upE S X.K H0 WT (wpE M (.sl ca cl ch))) :=
  (pe_slice sl_W h1 h2 h3).imp fun σ H Q ⟨ss, G, Q', a, w, c⟩ => by
    simp only [wpE] at w
    exact ⟨ss, G, _, a, w, fun t G1 v H1 hx r sm w1 => ⟨ss, G1, _, a.next hx sm, w1, fun l G2 H2 hx2 sm2 w2 => ⟨ss, G2, _, (a.next hx sm).next hx2 sm2, w2, fun h G3 H3 hx3 sm3 w3 =>
      ⟨t, G3, Q', (r.mono hx2).mono hx3, sm3, w3, ((c.step hx).step hx2).step hx3⟩⟩⟩⟩
theorem r_fld (ok : Ok X S M k H0 WT n) {a : Expr} {f : String} {m : Str} {ca : E} {pos : Pos} (hm : m = Str.ofString f) (hb : basePl a = true) (h1 : PE X a (upE S X.K H0 WT (wpE M ca))) : PE X (.Attribute a m pos) (upE S X.K H0 WT (wpE M (.fld ca f))) :=
  (pe_fld h1 (base_plain hb)).imp fun σ H Q ⟨ss, G, Q', a, w, c⟩ => by
    subst hm
    simp only [wpE] at w
    refine ⟨ss, G, _, a, w, fun t G1 v H1 hx r sm w1 => ?_⟩
    cases t <;> first | exact False.elim w1 | skip
    cases of_ref r
    obtain ⟨C, fs, x, e1, e2, q⟩ := w1
    obtain ⟨ca, dx, l, h1, h2, h3, h4⟩ := sm.ins e1
    obtain ⟨cl, na⟩ := ok.md.cls C ca h2
    rcases h3.get f with ⟨z1, z2⟩ | ⟨t, v, z1, z2, rt⟩
    · rw [z1] at e2; cases e2
    · rw [z1] at e2
      cases e2
      have mem : ∃ p ∈ fs, p.1 = f := by
        unfold fGet at z1
        obtain ⟨p, hp, _⟩ := Option.map_eq_some_iff.mp z1
        exact ⟨p, List.mem_of_find?_eq_some hp, by simpa using List.find?_some hp⟩
      obtain ⟨p, hp, ef⟩ := mem
      exact ⟨_, ca, dx, l, v, rfl, h1, cl, na f (by rw [← ef]; exact h4 p hp), z2, (c.step hx).here sm rt q⟩
/-! calls -/
theorem r_call (ok : Ok X S M k H0 WT n) {f : String} {x : Str} {e : Expr} {es : List Expr} {cs : Es} {len : Nat} {pp pos : Pos} (h' : chkFn n x f = true) (hs : allPl (e :: es) = true) (ha : PA X (e :: es) (upA S X.K H0 WT len (wpEs M cs))) :
    PE X (.Call (.Name x pp) (e :: es) [] pos) (upE S X.K H0 WT (wpE M (.call f cs))) := by
  obtain ⟨h, hh⟩ := chkFn_of h'
  obtain ⟨hx, hg, hd, _⟩ := ok.gl h
  subst hx
  have hs' := hs
  unfold allPl at hs'
  rw [List.all_cons, Bool.and_eq_true] at hs'
  refine ⟨fun pins s σ H Q I ⟨ss, G, Q', a, w, c⟩ => ?_⟩
  simp only [wpE] at w
  obtain ⟨sp, hsp, w⟩ := w
  obtain ⟨fa, fd, ps, F, hm, kp, b⟩ := ok.md.fn f sp hsp
  refine (pe_callS (E := WE (upX S X.K H0 WT)) F (ok.room hh) hg hm kp b (fun σ => passAt ok.tk σ) ha hd (starEach_plain hs'.1) (star_none hs'.2)).run pins s σ H Q I ?_
  exact ⟨ss, G, _, a, w, fun ts G1 vs H1 hx rs sm hl q => ⟨ts, G1, Q', WT ss, rs, sm, q, c.step hx, fun c' fs' G' cls d H' hx' er sm' wx => ⟨ss, c', fs', G', (a.next hx sm).next hx' sm', er, wx⟩⟩⟩
theorem r_callv (ok : Ok X S M k H0 WT n) {i : Nat} {x : Str} {e : Expr} {es : List Expr} {cs : Es} {len : Nat} {pp pos : Pos} (hN : n.N[i]? = some x) (hv : visB n.sc x = true) (hk : okName x = true) (hh : n.hot = false) (hs : allPl (e :: es) = true) (ha : PA X (e :: es) (upA S X.K H0 WT len (wpEs M cs))) :
    PE X (.Call (.Name x pp) (e :: es) [] pos) (upE S X.K H0 WT (wpE M (.callv i cs))) := by
  obtain ⟨d1, d2, _⟩ := okName_of hk
  have hs' := hs
  unfold allPl at hs'
  rw [List.all_cons, Bool.and_eq_true] at hs'
  refine ⟨fun pins s σ H Q I ⟨ss, G, Q', a, w, c⟩ => ?_⟩
  simp only [wpE] at w
  obtain ⟨p, sp, e1, hsp, w⟩ := w
  obtain ⟨fd, ps, F, kp, b⟩ := ok.md.fv p sp hsp
  obtain ⟨v, ev, rv⟩ := a.rs.2 i _ e1
  cases of_ref rv
  refine wpAny_Call_Name_kw (thn ((pe_var (pos := pp) (i := i) (by rw [ok.N]; exact hN) (by rw [ok.sc]; exact visB_vis hv) d1 d2).run pins s σ H (fun v H1 => v = .ref p ∧ H1 = H) I ⟨.ref p, ev, rfl, rfl⟩) fun u s1 ⟨v, H1, I1, r1, q1⟩ => ?_)
  obtain ⟨rfl, rfl⟩ := q1
  cases r1
  have hA := ha.run pos pins s1 σ _ (fun vs H2 => ∃ ts G2, HX H1 H2 ∧ RTs X.K H2 ts vs ∧ Sim S X.K H2 G2 ∧ sp ts G2 Q' (WT ss)) I1
    ⟨ss, G, _, a, w, fun ts G2 vs H2 hx rt sm _ h2 => ⟨ts, G2, hx, rt, sm, h2⟩⟩
  refine PySem.W.callWith_K (h₀ := X.base) I1.ok.mod.kin kp (thn hA fun us s2 ⟨vs, H2, I2, r, ts, G2, hx, rt, sm, q⟩ => ⟨I2.kIn, ?_⟩) (starEach_plain hs'.1) (star_none hs'.2)
  exact run_fnS (E := WE (upX S X.K H0 WT)) F (ok.room hh) b (passAt ok.tk σ) I2 r
    ⟨ts, G2, Q', WT ss, rt, sm, q, c.step hx, fun c' fs' G' cls d H' hx' er sm' wx => ⟨ss, c', fs', G', a.next (hx.trans hx') sm', er, wx⟩⟩
theorem r_meth (ok : Ok X S M k H0 WT n) {o e : Expr} {ms : String} {m : Str} {apos pos : Pos} {es : List Expr} {co : E} {cs : Es} {len : Nat} (hm : m = Str.ofString ms) (hb : baseC n o = true) (hs : allPl (e :: es) = true) (hl : (apos.endLine == pos.line) = true) (hn : (e :: es).length < 30)
    (he : PE X o (upE S X.K H0 WT (wpE M co))) (ha : PA X (e :: es) (upA S X.K H0 WT len (wpEs M cs))) : PE X (.Call (.Attribute o m apos) (e :: es) [] pos) (upE S X.K H0 WT (wpE M (.meth co ms cs))) :=
  (meth_rule ok (baseC_of hb).2 hm (baseC_of hb).1 hs hl hn he ha).imp fun σ H Q ⟨ss, G, Q', a, w, c⟩ => by
    simp only [wpE] at w
    refine ⟨ss, G, _, a, w, fun t G1 v H1 hx r sm ⟨p, C, fs, sp, e1, e2, e3, e4, w1⟩ => ?_⟩
    subst e1
    exact ⟨ss, G1, Q', p, C, fs, sp, of_ref r, a.next hx sm, c.step hx, e2, e3, e4, w1⟩
theorem r_meth0 (ok : Ok X S M k H0 WT n) {o : Expr} {ms : String} {m : Str} {apos pos : Pos} {co : E} (hm : m = Str.ofString ms) (hb : baseC n o = true) (hl : (apos.endLine == pos.line) = true)
    (he : PE X o (upE S X.K H0 WT (wpE M co))) : PE X (.Call (.Attribute o m apos) [] [] pos) (upE S X.K H0 WT (wpE M (.meth co ms .nil))) :=
  (meth_rule0 ok (baseC_of hb).2 hm (baseC_of hb).1 hl he).imp fun σ H Q ⟨ss, G, Q', a, w, c⟩ => by
    simp only [wpE, wpEs] at w
    refine ⟨ss, G, _, a, w, fun t G1 v H1 hx r sm ⟨p, C, fs, sp, e1, e2, e3, e4, w1⟩ => ?_⟩
    subst e1
    exact ⟨ss, G1, Q', p, C, fs, sp, of_ref r, a.next hx sm, c.step hx, e2, e3, e4, w1⟩
theorem r_make (ok : Ok X S M k H0 WT n) {x : Str} {C : String} {e : Expr} {es : List Expr} {pp pos : Pos} {cs : Es} {len : Nat} (hc : chkFn n x C = true) (hs : allPl (e :: es) = true)
    (ha : PA X (e :: es) (upA S X.K H0 WT len (wpEs M cs))) : PE X (.Call (.Name x pp) (e :: es) [] pos) (upE S X.K H0 WT (wpE M (.make C cs))) :=
  (make_rule ok hc hs ha).imp fun σ H Q ⟨ss, G, Q', a, w, c⟩ => ⟨ss, G, Q', a, by simp only [wpE] at w; exact w, c⟩
theorem r_make0 (ok : Ok X S M k H0 WT n) {x : Str} {C : String} {pp pos : Pos} (hc : chkFn n x C = true) : PE X (.Call (.Name x pp) [] [] pos) (upE S X.K H0 WT (wpE M (.make C .nil))) :=
  (make_rule0 ok hc).imp fun σ H Q ⟨ss, G, Q', a, w, c⟩ => ⟨ss, G, Q', a, by simp only [wpE, wpEs] at w; exact w, c⟩
/-- a built-in -/
theorem r_bi (ok : Ok X S M k H0 WT n) {f : Bi} {x : Str} {e : Expr} {es : List Expr} {cs : Es} {len : Nat} {pp pos : Pos} (h' : chkBltC n x (chkBi f) = true) (hs : allPl (e :: es) = true) (ha : PA X (e :: es) (upA S X.K H0 WT len (wpEs M cs))) :
    PE X (.Call (.Name x pp) (e :: es) [] pos) (upE S X.K H0 WT (wpE M (.bi f cs))) := by
  obtain ⟨h, hh⟩ := chkBltC_of h'
  obtain ⟨hx, hg, hd, hn, hm⟩ := ok.bl h
  have hs' := hs
  unfold allPl at hs'
  rw [List.all_cons, Bool.and_eq_true] at hs'
  have fin : ∀ {g : List T → Gp → QT → Prop}, biW f = g → PE X (.Call (.Name x pp) (e :: es) [] pos) (tCB (upL S X.K g) (upA S X.K H0 WT len (wpEs M cs))) → PE X (.Call (.Name x pp) (e :: es) [] pos) (upE S X.K H0 WT (wpE M (.bi f cs))) := fun {g} eg p =>
    p.imp fun σ H Q ⟨ss, G, Q', a, w, c⟩ => by
      simp only [wpE, eg] at w
      exact ⟨ss, G, _, a, w, fun ts G1 vs H1 hx rs sm hl q => ⟨ts, G1, Q', rs, sm, q, c.step hx⟩⟩
  have B : ∀ {id : String} {r : List V → Hp → VK → Prop}, CallR X (.builtin id) r → bootBuiltins x = some (.builtin id) → PE X (.Call (.Name x pp) (e :: es) [] pos) (tCB r (upA S X.K H0 WT len (wpEs M cs))) := fun hr hv =>
    pe_callB hr hg hm hv ha hn hd (starEach_plain hs'.1) (star_none hs'.2)
  have Y : ∀ {id : String} {r : List V → Hp → VK → Prop}, CallR X (.type id) r → bootBuiltins x = some (.type id) → PE X (.Call (.Name x pp) (e :: es) [] pos) (tCB r (upA S X.K H0 WT len (wpEs M cs))) := fun hr hv =>
    pe_callTy hr hg hm hv ha hn hd (starEach_plain hs'.1) (star_none hs'.2)
  subst hx
  cases f
  · exact fin rfl (B call_lenW PySem.boot_len)
  · exact fin rfl (Y call_intW (by decide +kernel))
  · exact fin rfl (Y call_strW (by decide +kernel))
  · exact fin rfl (Y call_tupleW (by decide +kernel))
  · exact fin rfl (Y call_listW (by decide +kernel))
  · exact fin rfl (Y call_dictW (by decide +kernel))
  · exact fin rfl (B (call_maxW (ok.calm hh)) (by decide +kernel))
  · exact fin rfl (B (call_minW (ok.calm hh)) (by decide +kernel))
  · exact fin rfl (B (call_sumW (ok.calm hh)) (by decide +kernel))
  · exact fin rfl (B (call_allW (ok.calm hh)) (by decide +kernel))
  · exact fin rfl (B (call_anyW (ok.calm hh)) (by decide +kernel))
theorem r_isi (ok : Ok X S M k H0 WT n) {x y : Str} {e : Expr} {ce : E} {ty : Ty} {p1 p2 pos : Pos} (h : chkBlt n x "isinstance" = true) (hy : chkBlt n y (tyN ty) = true) (hs : notStar e = true) (he : PE X e (upE S X.K H0 WT (wpE M ce))) :
    PE X (.Call (.Name x p1) [e, .Name y p2] [] pos) (upE S X.K H0 WT (wpE M (.isi ce ty))) := by
  obtain ⟨hx, hg, hd, hn, hm⟩ := ok.bl h
  obtain ⟨hx2, hg2, hd2, hn2, hm2⟩ := ok.bl hy
  subst hx hx2
  have bt : bootBuiltins (Str.ofString (tyN ty)) = some (.type (tyN ty)) := by cases ty <;> decide +kernel
  have py : PE X (.Name (Str.ofString (tyN ty)) p2) (tC (.ty (tyN ty))) := pe_bltn hg2 hm2 bt rfl hn2 hd2
  have pa : PA X [e, .Name (Str.ofString (tyN ty)) p2] (tCons (upE S X.K H0 WT (wpE M ce)) (tCons (tC (.ty (tyN ty))) tNil)) := pa_cons he (pa_cons py pa_nil) (starEach_plain hs)
  refine (pe_callB (call_isiW (S := S) ty) hg hm (by decide +kernel) pa hn hd (starEach_plain hs) rfl).imp fun σ H Q ⟨ss, G, Q', a, w, c⟩ => ?_
  simp only [wpE] at w
  exact ⟨ss, G, _, a, w, fun t G1 v H1 hx r sm q => ⟨v, t, G1, Q', rfl, r, sm, q, c.step hx⟩⟩
/-- isinstance of the caught error -/
theorem r_isx (ok : Ok X S M k H0 WT n) {x y : Str} {e : Expr} {ce : E} {C : String} {p1 p2 pos : Pos} (hot : n.hot = true) (h : chkBlt n x "isinstance" = true) (hy : chkName n y C = true) (hs : notStar e = true) (he : PE X e (upE S X.K H0 WT (wpE M ce))) :
    PE X (.Call (.Name x p1) [e, .Name y p2] [] pos) (upE S X.K H0 WT (wpE M (.isx ce C))) := by
  obtain ⟨hx, hg, hd, hn, hm⟩ := ok.bl h
  obtain ⟨hx2, hg2, hd2, hn2⟩ := ok.gl hy
  subst hx hx2
  refine ⟨fun pins s σ H Q I ⟨ss, G, Q', a, w, cc⟩ => ?_⟩
  simp only [wpE] at w
  obtain ⟨c, p, hx, hC, w⟩ := w
  obtain ⟨cv, v, r1, r2, r3, r4⟩ := ok.md.xn C hC
  have py : PE X (.Name (Str.ofString C) p2) (tC v) := by
    rcases r3 with r3 | ⟨r3, r5⟩
    · exact pe_glob hg2 r3 r1 hd2
    · exact pe_bltn hg2 r3 r5 r1 hn2 hd2
  have pa : PA X [e, .Name (Str.ofString C) p2] (tCons (upE S X.K H0 WT (wpE M ce)) (tCons (tC v) tNil)) := pa_cons he (pa_cons py pa_nil) (starEach_plain hs)
  obtain ⟨D, hD, hr⟩ := ok.xh hot c [] p hx
  refine (pe_callB (hr rfl) hg hm (by decide +kernel) pa hn hd (starEach_plain hs) rfl).run pins s σ H Q I ?_
  refine ⟨ss, G, _, a, w, fun t G1 u H1 hx1 r sm ⟨e2, q⟩ => ?_⟩
  subst e2
  refine ⟨v, cv, _, by rw [of_ref r], r2, (r4 c D hD).2, ?_⟩
  exact cc _ _ _ _ hx1 (by unfold RT; rfl) sm q
/-! methods of lists and dicts -/
theorem few_of {es : List Expr} {env : Env} {pos : Pos} (hs : allPl es = true) (hn : es.length < 29) : ((backTo pos (starEach es env)).all (fun x => !x.1) && (backToKw pos (keywordEach [] env)).all (fun x => x.1.isSome)
      && decide (es.length + ([] : List Keyword).length + (if ([] : List Keyword).isEmpty then 0 else 1) < 30)) = true := by
  rw [star_all hs, keywordEach]
  show (true && true && decide (es.length + 0 + 0 < 30)) = true
  rw [Bool.true_and, Bool.true_and]
  exact decide_eq_true (by omega)
theorem r_append {o e : Expr} {apos pos : Pos} {co ce : E} (hb : basePl o = true) (hs : notStar e = true) (hl : (apos.endLine == pos.line) = true) (ho : PE X o (upE S X.K H0 WT (wpE M co))) (he : PE X e (upE S X.K H0 WT (wpE M ce))) :
    PE X (.Call (.Attribute o "append" apos) [e] [] pos) (upE S X.K H0 WT (wpE M (.bm co .append (.cons ce .nil)))) :=
  (pe_bm PySem.F.plainAttrs_list PySem.F.slot_list_append PySem.F.type_list_append (mt_appW (S := S)) ho (pa_cons he pa_nil (starEach_plain hs)) (base_plain hb) (few_of (by unfold allPl; rw [List.all_cons, hs]; rfl) (by show 1 < 29; decide)) hl (starEach_plain hs) rfl).imp fun σ H Q ⟨ss, G, Q', a, w, c⟩ => by
    simp only [wpE, wpEs, bmW] at w
    refine ⟨ss, G, _, a, w, fun t G1 v H1 hx r sm ⟨ty, w1⟩ => ?_⟩
    cases t <;> first | exact False.elim ty | skip
    cases of_ref r
    obtain ⟨xs, e1⟩ := ty
    obtain ⟨vs, h1, _⟩ := sm.lst e1
    exact ⟨Or.inl ⟨rfl, vs, .of h1⟩, ss, G1, _, a.next hx sm, w1, fun u G2 z H2 hx2 r2 sm2 w2 => ⟨_, [u], G2, Q', rt_ref, RTs.one r2, sm2, w2, (c.step hx).step hx2⟩⟩
theorem r_index {o e : Expr} {apos pos : Pos} {co ce : E} (hb : basePl o = true) (hs : notStar e = true) (hl : (apos.endLine == pos.line) = true) (ho : PE X o (upE S X.K H0 WT (wpE M co))) (he : PE X e (upE S X.K H0 WT (wpE M ce))) :
    PE X (.Call (.Attribute o "index" apos) [e] [] pos) (upE S X.K H0 WT (wpE M (.bm co .index (.cons ce .nil)))) :=
  (pe_bm PySem.F.plainAttrs_list PySem.F.slot_list_index PySem.F.type_list_index (mt_indexW (S := S)) ho (pa_cons he pa_nil (starEach_plain hs)) (base_plain hb) (few_of (by unfold allPl; rw [List.all_cons, hs]; rfl) (by show 1 < 29; decide)) hl (starEach_plain hs) rfl).imp fun σ H Q ⟨ss, G, Q', a, w, c⟩ => by
    simp only [wpE, wpEs, bmW] at w
    refine ⟨ss, G, _, a, w, fun t G1 v H1 hx r sm ⟨ty, w1⟩ => ?_⟩
    cases t <;> first | exact False.elim ty | skip
    cases of_ref r
    obtain ⟨xs, e1⟩ := ty
    obtain ⟨vs, h1, _⟩ := sm.lst e1
    exact ⟨Or.inl ⟨rfl, vs, .of h1⟩, ss, G1, _, a.next hx sm, w1, fun u G2 z H2 hx2 r2 sm2 w2 => ⟨_, [u], G2, Q', rt_ref, RTs.one r2, sm2, w2, (c.step hx).step hx2⟩⟩
theorem r_join {o e : Expr} {apos pos : Pos} {co ce : E} (hb : basePl o = true) (hs : notStar e = true) (hl : (apos.endLine == pos.line) = true) (ho : PE X o (upE S X.K H0 WT (wpE M co))) (he : PE X e (upE S X.K H0 WT (wpE M ce))) :
    PE X (.Call (.Attribute o "join" apos) [e] [] pos) (upE S X.K H0 WT (wpE M (.bm co .join (.cons ce .nil)))) :=
  (pe_m1 PySem.F.slot_str_join PySem.F.type_str_join (mt_joinW (S := S)) ho he (starEach_plain hs) (base_plain hb) hl).imp fun σ H Q ⟨ss, G, Q', a, w, c⟩ => by
    simp only [wpE, wpEs, bmW] at w
    refine ⟨ss, G, _, a, w, fun t G1 v H1 hx r sm ⟨ty, w1⟩ => ?_⟩
    cases t <;> first | exact False.elim ty | skip
    exact ⟨⟨_, of_str r⟩, ss, G1, _, a.next hx sm, w1, fun u G2 z H2 hx2 r2 sm2 w2 => ⟨_, [u], G2, Q', r.mono hx2, RTs.one r2, sm2, w2, (c.step hx).step hx2⟩⟩
theorem r_pop {o : Expr} {apos pos : Pos} {co : E} (hb : basePl o = true) (hl : (apos.endLine == pos.line) = true) (ho : PE X o (upE S X.K H0 WT (wpE M co))) :
    PE X (.Call (.Attribute o "pop" apos) [] [] pos) (upE S X.K H0 WT (wpE M (.bm co .pop .nil))) :=
  (pe_bm0 PySem.F.plainAttrs_list PySem.F.slot_list_pop PySem.F.type_list_pop (mt_popW (S := S)) ho (base_plain hb) hl).imp fun σ H Q ⟨ss, G, Q', a, w, c⟩ => by
    simp only [wpE, wpEs, bmW] at w
    refine ⟨ss, G, _, a, w, fun t G1 v H1 hx r sm ⟨ty, w1⟩ => ?_⟩
    cases t <;> first | exact False.elim ty | skip
    cases of_ref r
    obtain ⟨xs, e1⟩ := ty
    obtain ⟨vs, h1, _⟩ := sm.lst e1
    exact ⟨Or.inl ⟨rfl, vs, .of h1⟩, _, [], G1, Q', rt_ref, RTs.nil, sm, w1, c.step hx⟩
theorem r_get (ok : Ok X S M k H0 WT n) {o e f : Expr} {apos pos : Pos} {co ce cf : E} (hb : basePl o = true) (hs : notStar e = true) (hs2 : notStar f = true) (hl : (apos.endLine == pos.line) = true) (ho : PE X o (upE S X.K H0 WT (wpE M co))) (he : PE X e (upE S X.K H0 WT (wpE M ce))) (hf : PE X f (upE S X.K H0 WT (wpE M cf))) :
    PE X (.Call (.Attribute o "get" apos) [e, f] [] pos) (upE S X.K H0 WT (wpE M (.bm co .get (.cons ce (.cons cf .nil))))) :=
  (pe_dget2 ok.hu1 ho he hf ⟨base_plain hb, few_of (es := [e, f]) (by unfold allPl; rw [List.all_cons, List.all_cons, hs, hs2]; rfl) (by show 2 < 29; decide), hl, by rw [starEach_plain hs, starEach_plain hs2]; rfl⟩).imp fun σ H Q ⟨ss, G, Q', a, w, c⟩ => by
    simp only [wpE, wpEs, bmW] at w
    refine ⟨ss, G, _, a, w, fun t G1 v H1 hx r sm ⟨ty, w1⟩ => ?_⟩
    cases t <;> first | exact False.elim ty | skip
    cases of_ref r
    obtain ⟨xs, e1⟩ := ty
    obtain ⟨vs, h1, _⟩ := sm.dct e1
    refine ⟨_, rfl, .inl ⟨vs, .of h1⟩, ss, G1, _, a.next hx sm, w1, fun u G2 z H2 hx2 r2 sm2 w2 => ⟨ss, G2, _, (a.next hx sm).next hx2 sm2, w2, fun y G3 x3 H3 hx3 r3 sm3 w3 => ?_⟩⟩
    obtain ⟨kvs, kk, e2, e3, q⟩ := w3
    obtain ⟨l, hl, rk⟩ := sm3.dct e2
    have ev := keyT_of e3 (r2.mono hx3)
    subst ev
    refine ⟨_, DGet.k hl, ?_⟩
    rcases rk.get kk with ⟨z1, z2⟩ | ⟨t, v, z1, z2, rt⟩
    · rw [z1] at q
      rw [z2]
      exact (((c.step hx).step hx2).step hx3).here sm3 r3 q
    · rw [z1] at q
      rw [z2]
      exact (((c.step hx).step hx2).step hx3).here sm3 rt q
/-! parts of a slice -/
theorem r_oN : PO X none (upO S X.K H0 WT (wpO M .no)) := po_none.imp fun σ H Q ⟨ss, G, Q', a, w, c⟩ => by
  simp only [wpO] at w
  exact c none G H (HX.refl _) a.sim w
theorem r_oS {e : Expr} {ce : E} {p : Sl → Gp → XT → (Option Int → Gp → Prop) → Prop} (h : PE X e (upE S X.K H0 WT (wpE M ce))) (hp : ∀ ss G X' Q, p ss G X' Q → wpE M ce ss G X' fun t G1 => ∃ j, t = .int j ∧ Q (some j) G1) : PO X (some e) (upO S X.K H0 WT p) :=
  (po_some h).imp fun σ H Q ⟨ss, G, Q', a, w, c⟩ => ⟨ss, G, _, a, hp _ _ _ _ w, fun t G1 v H1 hx r sm ⟨j, e, q⟩ => by
    subst e
    exact ⟨j, of_int r, c _ G1 H1 hx sm q⟩⟩
/-! what is walked -/
theorem r_itup {e tg : Expr} {ce : E} (h : PE X e (upE S X.K H0 WT (wpE M ce))) : PI X tg e (upI S X.K H0 WT (wpI M (.tup ce))) :=
  (pi_tup h).imp fun σ H Q ⟨ss, G, Q', a, w, c⟩ => by
    simp only [wpI] at w
    refine ⟨ss, G, _, a, w, fun t G1 v H1 hx r sm ⟨xs, e, q⟩ => ?_⟩
    subst e
    obtain ⟨p, vs, rfl, hp, rp⟩ := of_tup r
    exact ⟨p, rfl, ⟨vs, hp⟩, c _ _ _ _ hx sm (itok_tup hp rp) q⟩
theorem r_ilst {e tg : Expr} {ce : E} (h : PE X e (upE S X.K H0 WT (wpE M ce))) : PI X tg e (upI S X.K H0 WT (wpI M (.lst ce))) :=
  (pi_list h).imp fun σ H Q ⟨ss, G, Q', a, w, c⟩ => by
    simp only [wpI] at w
    refine ⟨ss, G, _, a, w, fun t G1 v H1 hx r sm ⟨p, xs, e, e2, q⟩ => ?_⟩
    subst e
    cases of_ref r
    obtain ⟨vs, h1, r1⟩ := sm.lst e2
    exact ⟨p, rfl, ⟨vs, .of h1⟩, c _ _ _ _ hx sm itok_lst q⟩
theorem r_istr {e tg : Expr} {ce : E} (h : PE X e (upE S X.K H0 WT (wpE M ce))) : PI X tg e (upI S X.K H0 WT (wpI M (.str ce))) :=
  (pi_str h).imp fun σ H Q ⟨ss, G, Q', a, w, c⟩ => by
    simp only [wpI] at w
    refine ⟨ss, G, _, a, w, fun t G1 v H1 hx r sm ⟨s, e, q⟩ => ?_⟩
    subst e
    exact ⟨_, of_str r, c _ _ _ _ hx sm itok_str q⟩
theorem r_irng (ok : Ok X S M k H0 WT n) {x : Str} {args : List Expr} {cs : Es} {len : Nat} {pp pos : Pos} {tg : Expr} (h : chkBlt n x "range" = true) (hs : allPl args = true) (h0 : 0 < args.length) (h4 : args.length < 4) (hl : args.length = len) (ha : PA X args (upA S X.K H0 WT len (wpEs M cs))) :
    PI X tg (.Call (.Name x pp) args [] pos) (upI S X.K H0 WT (wpI M (.rng cs))) := by
  obtain ⟨hx, hg, hd, hn, hm⟩ := ok.bl h
  subst hx
  match args, hs, h0, h4, hl, ha with
  | [a], hs, _, _, hl, ha =>
    unfold allPl at hs
    rw [List.all_cons, Bool.and_eq_true] at hs
    refine (pi_range1 hg hm ha (by rw [starEach_plain hs.1]; rfl)).imp fun σ H Q ⟨ss, G, Q', a, w, c⟩ => ?_
    simp only [wpI] at w
    refine ⟨ss, G, _, a, w, fun ts G1 vs H1 hx rs sm hl' q => ?_⟩
    rcases ts with _ | ⟨t, _ | ⟨t2, r2⟩⟩
    · exact False.elim q
    · cases t <;> first | exact False.elim q | skip
      obtain ⟨v, rfl, h1⟩ := rs.one_of
      cases of_int h1
      exact ⟨_, rfl, q.1.1, q.1.2, c _ _ _ _ hx sm itok_rng q.2⟩
    · have e := rs.length
      rw [hl'] at e
      simp only [List.length_cons, List.length_nil] at e hl
      omega
  | [a, b], hs, _, _, hl, ha =>
    unfold allPl at hs
    rw [List.all_cons, List.all_cons, Bool.and_eq_true, Bool.and_eq_true] at hs
    refine (pi_range2 hg hm ha (by rw [starEach_plain hs.1, starEach_plain hs.2.1]; rfl) (by rw [starEach_plain hs.2.1]; rfl)).imp fun σ H Q ⟨ss, G, Q', a, w, c⟩ => ?_
    simp only [wpI] at w
    refine ⟨ss, G, _, a, w, fun ts G1 vs H1 hx rs sm hl' q => ?_⟩
    rcases ts with _ | ⟨t, _ | ⟨t2, _ | ⟨t3, r2⟩⟩⟩
    · exact False.elim q
    · have e := rs.length
      rw [hl'] at e
      simp only [List.length_cons, List.length_nil] at e hl
      omega
    · cases t <;> first | exact False.elim q | skip
      cases t2 <;> first | exact False.elim q | skip
      obtain ⟨v, u, rfl, h1, h2⟩ := rs.two_of
      cases of_int h1
      cases of_int h2
      exact ⟨_, _, rfl, ⟨q.1.1.1, q.1.1.2, q.1.2.1, q.1.2.2⟩, c _ _ _ _ hx sm itok_rng q.2⟩
    · have e := rs.length
      rw [hl'] at e
      simp only [List.length_cons, List.length_nil] at e hl
      omega
  | [a, b, d], hs, _, _, hl, ha =>
    have hs2 := hs
    unfold allPl at hs
    rw [List.all_cons, List.all_cons, List.all_cons, Bool.and_eq_true, Bool.and_eq_true, Bool.and_eq_true] at hs
    refine (pi_range3 hg hm ha (starEach_plain hs.1) (star_none (by unfold allPl; rw [List.all_cons, List.all_cons, hs.2.1, hs.2.2.1]; rfl))).imp fun σ H Q ⟨ss, G, Q', a, w, c⟩ => ?_
    simp only [wpI] at w
    refine ⟨ss, G, _, a, w, fun ts G1 vs H1 hx rs sm hl' q => ?_⟩
    rcases ts with _ | ⟨t, _ | ⟨t2, _ | ⟨t3, _ | ⟨t4, r2⟩⟩⟩⟩
    · exact False.elim q
    · have e := rs.length
      rw [hl'] at e
      simp only [List.length_cons, List.length_nil] at e hl
      omega
    · have e := rs.length
      rw [hl'] at e
      simp only [List.length_cons, List.length_nil] at e hl
      omega
    · have hq : ∃ i j, t = .int i ∧ t2 = .int j ∧ t3 = .int (-1) ∧ ((-(2 ^ 62) ≤ i ∧ i < 2 ^ 62) ∧ -(2 ^ 62) ≤ j ∧ j < 2 ^ 62) ∧ Q' (.fix (upto i (-1) (i - j).toNat)) G1 := by
        unfold rngW at q
        split at q
        · simp at *
        · simp at *
        · rename_i heq
          injection heq with e1 e2
          injection e2 with e2 e3
          injection e3 with e3 e4
          exact ⟨_, _, e1, e2, e3, q.1, q.2⟩
        · exact False.elim q
      obtain ⟨i, j, rfl, rfl, rfl, hb, q⟩ := hq
      unfold RTs at rs
      obtain ⟨v, l, rfl, h1, rs⟩ := rs
      obtain ⟨u, z, rfl, h2, h3⟩ := rs.two_of
      cases of_int h1
      cases of_int h2
      cases of_int h3
      exact ⟨_, _, _, _, rfl, RgC.neg hb.1.1 hb.1.2 hb.2.1 hb.2.2, c _ _ _ _ hx sm itok_rngC q⟩
    · have e := rs.length
      rw [hl'] at e
      simp only [List.length_cons, List.length_nil] at e hl
      omega
  | [], _, h0, _, _, _ => exact absurd h0 (by simp)
  | _ :: _ :: _ :: _ :: _, _, _, h4, _, _ => simp only [List.length_cons] at h4; omega
theorem itok_revt {a : Addr} {xs : List T} {vs : List V} {K : PySem.W.Frag} {H : Hp} (ha : SqT K H a vs) (r : RTs K H xs vs) : ItOk S K (_root_.RT.ItvT K a vs.length) (.fix xs.reverse) H := by
  have len := r.length
  have ge : ∀ {i : Nat}, i < xs.reverse.length → ∃ t v, xs.reverse[i]? = some t ∧ vs[vs.length - 1 - i]? = some v ∧ RT K H t v := fun {i} h => by
    rw [List.length_reverse] at h
    have h2 : xs.length - 1 - i < xs.length := by omega
    obtain ⟨v, e, q⟩ := r.get (List.getElem?_eq_getElem h2)
    rw [len] at e
    exact ⟨_, v, by rw [List.getElem?_reverse h, List.getElem?_eq_getElem h2], e, q⟩
  refine ⟨fun i H1 G1 x _ _ h => ?_, fun i H1 G1 x _ _ h => ?_, fun i v H1 G1 H2 x _ _ h y => ?_⟩
  · obtain ⟨t, v, _, e, _⟩ := ge h
    exact ⟨by rw [← len]; simpa [Sq.items] using h, vs, v, SqT.mono x ha, e⟩
  · show vs.length ≤ i
    rw [← len]
    simpa [Sq.items] using h
  · obtain ⟨t, v', e1, e2, q⟩ := ge h
    obtain ⟨rfl, y2⟩ := y
    have z := y2 vs (SqT.mono x ha)
    rw [e2] at z
    cases z
    exact ⟨rfl, t, e1, RT.mono x _ _ q⟩
theorem r_irevt (ok : Ok X S M k H0 WT n) {x : Str} {e tg : Expr} {ce : E} {pp pos : Pos} (h : chkBlt n x "reversed" = true) (hs : notStar e = true) (he : PE X e (upE S X.K H0 WT (wpE M ce))) :
    PI X tg (.Call (.Name x pp) [e] [] pos) (upI S X.K H0 WT (wpI M (.revt ce))) := by
  obtain ⟨hx, hg, hd, hn, hm⟩ := ok.bl h
  subst hx
  refine (_root_.RT.pi_revA hg hm he (starEach_plain hs)).imp fun σ H Q ⟨ss, G, Q', a, w, c⟩ => ?_
  simp only [wpI] at w
  refine ⟨ss, G, _, a, w, fun t G1 v H1 hx r sm ⟨xs, e, q⟩ => ?_⟩
  subst e
  obtain ⟨p, vs, rfl, hp, rp⟩ := of_tup r
  exact ⟨p, vs, rfl, .inr ⟨hp, c _ _ _ _ hx sm (itok_revt hp rp) q⟩⟩
theorem r_irevr (ok : Ok X S M k H0 WT n) {x y : Str} {e tg : Expr} {ce : E} {p1 p2 pos pos2 : Pos} (h : chkBlt n x "reversed" = true) (h2 : chkBlt n y "range" = true) (hs : notStar e = true) (he : PE X e (upE S X.K H0 WT (wpE M ce))) :
    PI X tg (.Call (.Name x p1) [.Call (.Name y p2) [e] [] pos2] [] pos) (upI S X.K H0 WT (wpI M (.revr ce))) := by
  obtain ⟨hx, hg, hd, hn, hm⟩ := ok.bl h
  obtain ⟨hx2, hg2, hd2, hn2, hm2⟩ := ok.bl h2
  subst hx hx2
  refine (pi_revR hg hm (prg_1 hg2 hm2 he (starEach_plain hs)) (starEach_plain rfl)).imp fun σ H Q ⟨ss, G, Q', a, w, c⟩ => ?_
  simp only [wpI] at w
  refine ⟨ss, G, _, a, w, fun t G1 v H1 hx r sm ⟨j, e, hb, q⟩ => ?_⟩
  subst e
  refine ⟨j, of_int r, by decide, by decide, by omega, by omega, ?_⟩
  have e1 : (0 : Int) + (((j - 0).toNat : Nat) : Int) - 1 = j - 1 := by omega
  have e2 : (j - 0).toNat = j.toNat := by omega
  rw [e1, e2]
  exact c _ _ _ _ hx sm itok_rngC q
end
end SK

set_option Elab.async false
set_option linter.all false
set_option maxRecDepth 100000
/-! SK8: targets, comprehensions. -/
namespace SK
open PySem PySem.Spec PyProof.Rows L2

/-! ### targets -/
def gCh : List Nat → TGs
  | [] => gNil
  | i :: is => gCons (gName i) (gCh is)
def gV (K : PySem.W.Frag) : Tg → TG
  | .nm i => gName i
  | .tp is => gTup K is.length (gCh is)
theorem wipe_get (σ : L2.St) (j : Nat) : ∀ vs : List Nat, (wipe σ vs)[j]? = if j ∈ vs then (if j < σ.length then some none else none) else σ[j]?
  | [] => by simp [wipe]
  | v :: vs => by
    unfold wipe
    rw [List.getElem?_set, wipe_get σ j vs, wipe_length]
    by_cases h : v = j
    · subst h
      simp
    · rw [if_neg h]
      have h' : ¬ j = v := fun e => h e.symm
      simp [h']
theorem wipe_set {σ : L2.St} {vs : List Nat} {i : Nat} {x : Option V} (h : i ∈ vs) : wipe (σ.set i x) vs = wipe σ vs := by
  apply List.ext_getElem?
  intro j
  rw [wipe_get, wipe_get, List.length_set]
  by_cases hj : j ∈ vs
  · rw [if_pos hj, if_pos hj]
  · rw [if_neg hj, if_neg hj]
    exact List.getElem?_set_ne (fun e => by subst e; exact hj h)
theorem wipe_wipe (σ : L2.St) (vs : List Nat) : wipe (wipe σ vs) vs = wipe σ vs := by
  apply List.ext_getElem?
  intro j
  rw [wipe_get (wipe σ vs), wipe_get σ, wipe_length]
  by_cases hj : j ∈ vs
  · rw [if_pos hj, if_pos hj]
  · rw [if_neg hj, if_neg hj]
section
variable {S : Stc} {K : PySem.W.Frag}
theorem RS.wipe {H : Hp} {ss : Sl} {σ : L2.St} (r : RS K H ss σ) : ∀ vs : List Nat, RS K H (wipeT ss vs) (L2.wipe σ vs)
  | [] => r
  | v :: vs => (RS.wipe r vs).forget v
theorem ch_of {H : Hp} : ∀ {is : List Nat} {xs : List T} {vs : List V} {ss s1 : Sl} {σ : L2.St} {Q : L2.St → Hp → Prop}, RTs K H xs vs → RS K H ss σ → setTp is xs ss = some s1 →
    (∀ σ1, RS K H s1 σ1 → (∀ own : List Nat, (∀ i ∈ is, i ∈ own) → L2.wipe σ1 own = L2.wipe σ own) → Q σ1 H) → gCh is vs σ H Q ∧ vs.length = is.length
  | [], [], vs, ss, s1, σ, Q, rx, rs, e, q => by
    cases rx.nil_of
    cases e
    exact ⟨⟨rfl, q σ rs fun _ _ => rfl⟩, rfl⟩
  | [], _ :: _, vs, ss, s1, σ, Q, rx, rs, e, q => by cases e
  | _ :: _, [], vs, ss, s1, σ, Q, rx, rs, e, q => by cases e
  | i :: is, x :: xs, vs, ss, s1, σ, Q, rx, rs, e, q => by
    unfold RTs at rx
    obtain ⟨v, r, rfl, h1, h2⟩ := rx
    have z := ch_of (is := is) (Q := Q) h2 (rs.set h1 i) e fun σ1 r1 hw => q σ1 r1 fun own ho => (hw own fun j hj => ho j (List.mem_cons_of_mem _ hj)).trans (wipe_set (ho i List.mem_cons_self))
    exact ⟨⟨v, r, rfl, z.1⟩, by simp [z.2]⟩
theorem gV_of {H : Hp} {g : Tg} {x : T} {v : V} {ss : Sl} {σ : L2.St} {kk : Sl → Prop} {Q : L2.St → Hp → Prop} (rx : RT K H x v) (rs : RS K H ss σ) (w : tgW g x ss kk)
    (q : ∀ s1 σ1, RS K H s1 σ1 → kk s1 → (∀ own : List Nat, (∀ i ∈ g.slots, i ∈ own) → L2.wipe σ1 own = L2.wipe σ own) → Q σ1 H) : gV K g v σ H Q := by
  cases g with
  | nm i => exact q _ _ (rs.set rx i) w fun own ho => wipe_set (ho i (by simp [Tg.slots]))
  | tp is =>
    cases x <;> first | exact False.elim w | skip
    obtain ⟨s1, e, w⟩ := w
    obtain ⟨a, vs, rfl, ha, ra⟩ := of_tup rx
    have z := ch_of (Q := Q) ra rs e fun σ1 r1 hw => q s1 σ1 r1 w hw
    exact ⟨a, vs, rfl, ha, z.2, z.1⟩
end
/-- the context may store into the names of the target -/
structure Sto (X : Cx) (n : Nm) : Prop where
  N : X.N = n.N
  sc : X.env.scope = n.sc
  nd : X.N.Nodup
  calm : n.hot = false → X.calm = true
  fn : n.cellOk = true → ∀ x, X.fn x = true
theorem Sto.loc {X : Cx} {n : Nm} (o : Sto X n) {x : Str} (h : locB n x = true) : Loc X.env.scope x ∧ (X.fn x = true ∨ X.env.scope.names.lookup x = some .local) := by
  unfold locB at h
  rw [o.sc]
  split at h
  · rename_i e; exact ⟨.inl e, .inr e⟩
  · rename_i e; exact ⟨.inr e, .inl (o.fn h x)⟩
  · cases h
theorem chs_of {X : Cx} {n : Nm} (o : Sto X n) : ∀ {is : List Nat} {es : List Expr}, chkG.go n is es = true → PGs X es (gCh is) ∧ (assignEach es X.env).length = is.length ∧ (assignEach es X.env).findIdx? (·.1) = none
  | [], [], _ => ⟨pgs_nil, rfl, rfl⟩
  | [], _ :: _, h => by simp [chkG.go] at h
  | _ :: _, [], h => by simp [chkG.go] at h
  | i :: is, e :: es, h => by
    cases e <;> first | (exact absurd h Bool.false_ne_true) | skip
    rename_i x p
    simp only [chkG.go, Bool.and_eq_true, decide_eq_true_eq] at h
    obtain ⟨⟨h1, h2⟩, h3⟩ := h
    obtain ⟨hl, hf⟩ := o.loc h2
    obtain ⟨z1, z2, z3⟩ := chs_of o h3
    refine ⟨pgs_cons (pg_name (i := i) o.nd (by rw [o.N]; exact h1) hl hf) z1 rfl, ?_, ?_⟩
    · show (assignEach es X.env).length + 1 = _
      rw [z2]
      rfl
    · show List.findIdx? _ ((false, assign (.Name x p) X.env) :: assignEach es X.env) = none
      rw [List.findIdx?_cons]
      simp only [Bool.false_eq_true, if_false, z3]
      rfl
theorem tg_of {X : Cx} {n : Nm} (o : Sto X n) {g : Tg} {e : Expr} (h : chkG n g e = true) : PG X e (gV X.K g) := by
  cases g with
  | nm i =>
    cases e <;> first | (exact absurd h Bool.false_ne_true) | skip
    simp only [chkG, Bool.and_eq_true, decide_eq_true_eq] at h
    obtain ⟨hl, hf⟩ := o.loc h.2
    exact pg_name (i := i) o.nd (by rw [o.N]; exact h.1) hl hf
  | tp is =>
    cases e <;> first | (exact absurd h Bool.false_ne_true) | skip
    rename_i elts kk pp
    simp only [chkG, Bool.and_eq_true, Bool.not_eq_true'] at h
    have h' : chkG.go n is elts = true := h.2
    obtain ⟨z1, z2, z3⟩ := chs_of o h'
    exact pg_tup (o.calm h.1) z1 z2 z3
section
variable {X : Cx} {S : Stc} {M : Gm} {k : Nat} {H0 : Hp} {WT : Sl → XT} {n : Nm}
theorem Ok.sto (ok : Ok X S M k H0 WT n) : Sto X n := ⟨ok.N, ok.sc, ok.nd, ok.calm, ok.fn⟩
abbrev WF : Sl → XT := fun _ _ _ _ => False
/-- within a comprehension -/
abbrev Nm.blk (n : Nm) (scope : Scope) : Nm := { n with sc := relS scope n.sc, cellOk := false }
theorem Ok.blk (ok : Ok X S M k H0 WT n) (hh : n.hot = false) (s : Shared) (H : Hp) (scope : Scope) (C : Addr) (cl : List (Str × Addr)) (fp : List Addr) : Ok (X.blk s H scope (compEnvC scope cl C X.env) fp) S M k H0 WF (n.blk scope) :=
  ⟨ok.N, by show relS scope X.env.scope = _; rw [ok.sc], ok.nd, ok.calm, ok.hu, ok.room, takes0.imp fun c d σ H ⟨_, _, _, _, _, _, z⟩ => z, fun z => (by cases z), fun _ => PassesOwn.never, ok.md, fun z => (by cases z), fun z => (by cases z), ok.room1, ok.tb, fun z => absurd (hh.symm.trans z) Bool.false_ne_true⟩
theorem foldSet_of {it : It} {e : Expr} (h : chkI it n e = true) : ∀ (env : Env) (x : Value), foldedSetIterable e env x = pure x := by
  intro env x
  cases e <;> first | rfl | (cases it <;> simp [chkI] at h <;> (rename_i c; cases c <;> exact absurd h Bool.false_ne_true))
/-- a clause's tests -/
theorem lc_imp {g : Tg} {own : List Nat} {ce : E} {it : It} {cond : E} (hgs : ∀ i ∈ g.slots, i ∈ own) (σ : L2.St) (H : Hp) (Q : VK) (h : upE S X.K H0 WT (wpE M (.lc ce own g it cond)) σ H Q) :
    tLc (upI S X.K H0 WT (wpI M it)) (gV X.K g) (upT S X.K H0 WF (wpC M cond)) (upE S X.K H0 WF (wpE M ce)) own σ H Q := by
  obtain ⟨ss, G, Q', a, w, c⟩ := h
  simp only [wpE] at w
  refine ⟨ss, G, _, a, w, fun sq G1 J H1 hx sm jo q D hD => ?_⟩
  have q := q D (sm.free hD)
  have a1 := a.next hx sm
  refine ⟨fun i m H2 => m = sq.items.length - i ∧ i ≤ sq.items.length ∧ ∃ G2, HX H1 H2 ∧ Sim S X.K H2 G2 ∧
    lcW sq.stay g own (fun s1 G2 Q2 => wpC M cond s1 G2 (fun _ _ _ => False) Q2) (fun s1 G2 Q2 => wpE M ce s1 G2 (fun _ _ _ => False) Q2) D ss Q' (sq.items.drop i) G2,
    ⟨sq.items.length, rfl, Nat.zero_le _, _, HX.new hD, sm.new hD (show RO S X.K _ (.lst []) (.lst []) from ⟨[], rfl, RTs.nil⟩), q⟩, ?_⟩
  rintro i m H2 ⟨rfl, hi, G2, hx2, sm2, w2⟩
  by_cases hlt : i < sq.items.length
  · rw [List.drop_eq_getElem_cons hlt] at w2
    unfold lcW at w2
    obtain ⟨st, w2⟩ := w2
    refine .inr ⟨jo.go i H2 G2 hx2 sm2 st hlt, fun H3 => ∃ G3, HX H1 H3 ∧ Sim S X.K H3 G3 ∧ lcW sq.stay g own _ _ D ss Q' (sq.items.drop (i + 1)) G3,
      fun H3 ⟨G3, z1, z2, z3⟩ => ⟨sq.items.length - (i + 1), by omega, rfl, hlt, G3, z1, z2, z3⟩, fun x H3 y => ?_⟩
    obtain ⟨rfl, t, e1, rt⟩ := jo.yld i x H2 G2 H3 hx2 sm2 st hlt y
    rw [List.getElem?_eq_getElem hlt] at e1
    cases e1
    have rs2 : RS X.K H3 ss σ := a1.rs.mono hx2
    refine gV_of rt (rs2.wipe own) w2 fun s1 σ1 rs1 w3 hw => ⟨(hw own hgs).trans (wipe_wipe _ _), ?_⟩
    have hxx : HX H0 H3 := a1.hx.trans hx2
    refine ⟨s1, G2, _, ⟨rs1, sm2, hxx⟩, w3, fun t2 G4 H4 hx4 sm4 ⟨b, e, w4⟩ => ⟨b, e, ?_⟩⟩
    cases b with
    | true =>
      rw [if_pos rfl] at w4 ⊢
      refine ⟨s1, G4, _, ⟨rs1.mono hx4, sm4, hxx.trans hx4⟩, w4, fun t5 G5 v5 H5 hx5 r5 sm5 ⟨acc, ea, hl, w5⟩ => ?_⟩
      obtain ⟨vs, hv, rv⟩ := sm5.lst ea
      exact ⟨vs, hv, by rw [← rv.length]; exact lt_line hl, _, ((hx2.trans hx4).trans hx5).trans (HX.put hv trivial), sm5.put hv trivial (show RO S X.K _ (.lst _) (.lst _) from ⟨_, rfl, (rv.append (RTs.one r5)).mono (HX.put hv trivial)⟩), w5⟩
    | false =>
      rw [if_neg Bool.false_ne_true] at w4 ⊢
      exact ⟨G4, hx2.trans hx4, sm4, w4⟩
  · have e : i = sq.items.length := by omega
    subst e
    rw [List.drop_length] at w2
    unfold lcW at w2
    obtain ⟨st, w2⟩ := w2
    exact .inl ⟨jo.stop _ H2 G2 hx2 sm2 st (Nat.le_refl _), c _ _ _ _ (hx.trans hx2) rt_ref sm2 w2⟩
/-! ### generator expressions -/
theorem Ok.gen (ok : Ok X S M k H0 WT n) (hh : n.hot = false) {scope : Scope} {AG : Around} {C : Addr} {code : Value} {s0 : Shared} {H1 : Hp} {fp : List Addr} {pn : List (Addr × Obj)} (hr : Room k (AG.deeper (SKG.genv X scope C code))) :
    Ok (SKG.gX X scope C code AG s0 H1 fp pn) S M k H0 WF { n with sc := scope, cellOk := false, gens := false } :=
  ⟨ok.N, rfl, ok.nd, fun _ => rfl, by have := hr.un; show (AG.deeper (SKG.genv X scope C code)).units + 64 < cLine; omega, fun _ => hr, takes0.imp fun c d σ H ⟨_, _, _, _, _, _, z⟩ => z, fun z => (by cases z), fun _ => PassesOwn.never, ok.md, fun z => (by cases z), fun z => (by cases z), fun z => (by cases z), fun z => (by cases z), fun z => absurd (hh.symm.trans z) Bool.false_ne_true⟩
theorem gen_imp {all : Bool} {x : Nat} {ce : E} {it : It} {P : Addr} (hP : P ∈ S.tabs) (σ : L2.St) (H : Hp) (Q : VK) (h : upE S X.K H0 WT (wpE M (.gen all ce x it)) σ H Q) :
    SKG.tGen P all x (upI S X.K H0 WT (wpI M it)) (upE S X.K H0 WF (wpE M ce)) σ H Q := by
  obtain ⟨ss, G, Q', a, w, c⟩ := h
  simp only [wpE] at w
  refine ⟨ss, G, _, a, w, fun sq G1 J H1 hx sm jo q => ⟨sm.tabs P hP, fun H2 tb => ⟨sq.items.length, ?_⟩⟩⟩
  obtain ⟨ps, hPs, _⟩ := sm.tabs P hP
  have ne : ∀ {b : Addr} {o : HO}, H1 b = some o → (∀ q, o ≠ .tbl q) → b ≠ P := fun e n z => by
    subst z
    rw [hPs] at e
    exact n ps (Option.some.inj e).symm
  have hx12 : HX H1 H2 := ⟨fun b xs e => by rw [tb.2 b (ne e (fun q z => by cases z))]; exact e, fun b o u e => by rw [tb.2 b (ne e (fun q z => by cases z))]; exact e, fun b fs e => by rw [tb.2 b (ne e (fun q z => by cases z))]; exact e⟩
  have sm2 : Sim S X.K H2 G1 := ⟨fun b o e => (by
    obtain ⟨ho, e1, r⟩ := sm.obj b o e
    refine ⟨ho, ?_, RO.mono hx12 r⟩
    rw [tb.2 b (ne e1 (fun q z => ?_))]
    · exact e1
    · subst z
      cases o with
      | lst xs => obtain ⟨_, z, _⟩ := r; cases z
      | dct xs => obtain ⟨_, z, _⟩ := r; cases z
      | ins C xs => obtain ⟨_, _, _, z, _⟩ := r; cases z), fun p hp => by
    by_cases e : p = P
    · subst e; exact tb.1
    · obtain ⟨ps', e1, e2⟩ := sm.tabs p hp
      exact ⟨ps', by rw [tb.2 p e]; exact e1, e2⟩⟩
  have key : ∀ (m i : Nat) (G2 : Gp) (H2 : Hp), m = sq.items.length - i → i ≤ sq.items.length → HX H1 H2 → Sim S X.K H2 G2 →
      genW sq.stay all x (fun s1 G2 Q2 => wpE M ce s1 G2 (fun _ _ _ => False) Q2) ss Q' (sq.items.drop i) G2 →
      SKG.GW J (upE S X.K H0 WF (wpE M ce)) all x σ (fun H3 => Q (.bl all) H3) (fun H3 => Q (.bl (!all)) H3) m i H2 := by
    intro m
    induction m with
    | zero =>
      intro i G2 H2 hm hi hx2 sm2 w2
      have e : i = sq.items.length := by omega
      subst e
      rw [List.drop_length] at w2
      unfold genW at w2
      obtain ⟨st, w2⟩ := w2
      exact ⟨jo.stop _ H2 G2 hx2 sm2 st (Nat.le_refl _), c _ _ _ _ (hx.trans hx2) (by unfold RT; rfl) sm2 w2⟩
    | succ m ih =>
      intro i G2 H2 hm hi hx2 sm2 w2
      have hlt : i < sq.items.length := by omega
      rw [List.drop_eq_getElem_cons hlt] at w2
      unfold genW at w2
      obtain ⟨st, w2⟩ := w2
      refine ⟨jo.go i H2 G2 hx2 sm2 st hlt, fun xv H3 y => ?_⟩
      obtain ⟨rfl, t, e1, rt⟩ := jo.yld i xv H2 G2 H3 hx2 sm2 st hlt y
      rw [List.getElem?_eq_getElem hlt] at e1
      cases e1
      refine ⟨ss.set x (some sq.items[i]), G2, _, ⟨((a.rs.mono hx).mono hx2).set rt x, sm2, (a.hx.trans hx).trans hx2⟩, w2, fun t2 G4 v H4 hx4 r4 sm4 ⟨b, e, w4⟩ => ?_⟩
      subst e
      refine ⟨b, by unfold RT at r4; exact r4, ?_⟩
      by_cases hb : b = all
      · rw [if_pos hb] at w4 ⊢
        exact ih (i + 1) G4 H4 (by omega) hlt (hx2.trans hx4) sm4 w4
      · rw [if_neg hb] at w4 ⊢
        exact c _ _ _ _ ((hx.trans hx2).trans hx4) (by unfold RT; rfl) sm4 w4
  exact key _ 0 G1 H2 rfl (Nat.zero_le _) hx12 sm2 q
theorem genFold_of {it : It} {e : Expr} (h : chkI it n e = true) (hl : notLst e = true) (env : Env) : ∀ x : Value, PySem.genFold e env x = pure x := fun x => by
  have := foldSet_of h env x
  cases e <;> first | exact this | (cases hl; done)
end
end SK

set_option Elab.async false
set_option linter.all false
set_option maxRecDepth 100000
set_option maxHeartbeats 1000000
/-! SK9: expressions are sound. -/
namespace SK
open PySem PySem.Spec PyProof.Rows L2
section
variable {S : Stc} {M : Gm}
theorem keys_pps : ∀ {ks : List String} {keys : List (Option Expr)}, keysOk ks keys = true → keys.all (·.isSome) = true ∧ keys.length = ks.length
  | [], [], _ => ⟨rfl, rfl⟩
  | [], _ :: _, h => by simp [keysOk] at h
  | _ :: _, [], h => by simp [keysOk] at h
  | k :: ks, e :: es, h => by
    cases e with
    | none => simp [keysOk] at h
    | some e =>
      cases e <;> first | (simp [keysOk] at h; done) | skip
      rename_i c _ _
      cases c <;> first | (simp [keysOk] at h; done) | skip
      simp only [keysOk, Bool.and_eq_true, decide_eq_true_eq] at h
      have z := keys_pps h.2
      exact ⟨by rw [List.all_cons, z.1]; rfl, by simp [z.2]⟩
def trsOf (S : Stc) (K : PySem.W.Frag) (M : Gm) (H0 : Hp) (WT : Sl → XT) : List String → Es → List (TE × TE)
  | k :: ks, .cons e r => (tC (.str (Str.ofString k)), upE S K H0 WT (wpE M e)) :: trsOf S K M H0 WT ks r
  | _, _ => []
theorem tp_of {K : PySem.W.Frag} {H0 : Hp} {WT : Sl → XT} : ∀ {ks : List String} {c : Es} {σ : L2.St} {H : Hp} {ss : Sl} {G : Gp} {Q' : List T → Gp → Prop} {R : List (V × V) → Hp → Prop}, ks.length = c.len → At S K H0 ss G σ H → wpEs M c ss G (WT ss) Q' →
    (∀ ts G' vs H', HX H H' → RTs K H' ts vs → Sim S K H' G' → ts.length = ks.length → Q' ts G' → R ((ks.map fun k => V.str (Str.ofString k)).zip vs) H') → tPairs (trsOf S K M H0 WT ks c) σ H R
  | [], .nil, σ, H, ss, G, Q', R, hl, a, w, q => by
    simp only [wpEs] at w
    exact q [] G [] H (HX.refl _) RTs.nil a.sim rfl w
  | [], .cons _ _, _, _, _, _, _, _, hl, _, _, _ => by simp [Es.len] at hl
  | _ :: _, .nil, _, _, _, _, _, _, hl, _, _, _ => by simp [Es.len] at hl
  | k :: ks, .cons e r, σ, H, ss, G, Q', R, hl, a, w, q => by
    simp only [wpEs] at w
    show upE S K H0 WT (wpE M e) σ H fun y H2 => tPairs (trsOf S K M H0 WT ks r) σ H2 fun ps H3 => R ((V.str (Str.ofString k), y) :: ps) H3
    refine ⟨ss, G, _, a, w, fun t G1 v H1 hx rv sm w1 => ?_⟩
    refine tp_of (by simpa [Es.len] using hl) (a.next hx sm) w1 fun ts G2 vs H2 hx2 rs sm2 hl2 w2 => ?_
    exact q (t :: ts) G2 (v :: vs) H2 (hx.trans hx2) (RTs.cons (rv.mono hx2) rs) sm2 (by simp [hl2]) w2
theorem merge_new : ∀ (more kvs : List (Key × V)), (∀ p ∈ more, valV kvs p.1 = none) → (more.map (·.1)).Nodup → mergeK kvs more = kvs ++ more
  | [], kvs, _, _ => by unfold mergeK; simp
  | p :: r, kvs, h, nd => by
    show mergeK (putK kvs p.1 p.2) r = _
    rw [List.map_cons, List.nodup_cons] at nd
    rw [putK_new _ (h p List.mem_cons_self), merge_new r _ (fun q hq => ?_) nd.2]
    · simp
    · rw [valV_snoc _ _ _ _ (h p List.mem_cons_self), if_neg (fun e => nd.1 (by rw [← e]; exact List.mem_map.mpr ⟨q, hq, rfl⟩))]
      exact h q (List.mem_cons_of_mem _ hq)
theorem rk_zip {K : PySem.W.Frag} {H : Hp} : ∀ {ks : List String} {ts : List T} {vs : List V}, RTs K H ts vs → RK K H ((ks.map Sum.inr).zip ts) ((ks.map fun k => (Sum.inr (Str.ofString k) : Key)).zip vs)
  | [], _, _, _ => by simp [RK]
  | _ :: _, [], vs, r => by cases r.nil_of; simp [RK]
  | k :: ks, t :: ts, vs, r => by
    unfold RTs at r
    obtain ⟨v, l, rfl, h1, h2⟩ := r
    show RK K H ((Sum.inr k, t) :: (ks.map Sum.inr).zip ts) (((Sum.inr (Str.ofString k) : Key), v) :: (ks.map fun k => (Sum.inr (Str.ofString k) : Key)).zip l)
    unfold RK
    exact ⟨v, _, rfl, h1, rk_zip h2⟩
theorem zip_pairs : ∀ (ks : List String) (vs : List V), (ks.map fun k => V.str (Str.ofString k)).zip vs = ((ks.map fun k => (Sum.inr (Str.ofString k) : Key)).zip vs).map fun kv => (kV kv.1, kv.2)
  | [], _ => rfl
  | _ :: _, [] => rfl
  | k :: ks, v :: vs => by simp only [List.map_cons, List.zip_cons_cons, zip_pairs ks vs, kV]
theorem dT {X : Cx} {H0 : Hp} {WT : Sl → XT} {n : Nm} {c : E} {e : Expr} (p : PE X e (upE S X.K H0 WT (wpE M c))) (h : chkE c n e = true) (hc : plainB c = true) :
    PE X e (upE S X.K H0 WT (wpE M c)) ∧ (tstB c = true → PT X e (upT S X.K H0 WT (wpE M c))) := ⟨p, fun _ => r_tst p (isTrue_pl h hc _)⟩
mutual
theorem sE : ∀ (c : E) {X : Cx} {k : Nat} {H0 : Hp} {WT : Sl → XT} {n : Nm} {e : Expr}, Ok X S M k H0 WT n → chkE c n e = true → PE X e (upE S X.K H0 WT (wpE M c)) ∧ (tstB c = true → PT X e (upT S X.K H0 WT (wpE M c)))
  | .no, X, k, H0, WT, n, e, ok, h => by cases e <;> exact absurd h Bool.false_ne_true
  | .var i, X, k, H0, WT, n, e, ok, h => by
    cases e <;> first | (exact absurd h Bool.false_ne_true) | exact dT (r_var ok h) h rfl
  | .kc t, X, k, H0, WT, n, e, ok, h => by
    cases e <;> first | (exact absurd h Bool.false_ne_true) | exact dT (r_kc (by simpa [chkE] using h)) h rfl
  | .gl x, X, k, H0, WT, n, e, ok, h => by
    cases e <;> first | (exact absurd h Bool.false_ne_true) | exact dT (r_gl ok h) h rfl
  | .tup es, X, k, H0, WT, n, e, ok, h => by
    cases e <;> first | (exact absurd h Bool.false_ne_true) | skip
    have h0 := h
    simp only [chkE, Bool.and_eq_true, decide_eq_true_eq] at h
    exact dT (r_tup h.2 (sEs es ok h.1)) h0 rfl
  | .lst es, X, k, H0, WT, n, e, ok, h => by
    cases e <;> first | (exact absurd h Bool.false_ne_true) | skip
    have h0 := h
    simp only [chkE, Bool.and_eq_true, decide_eq_true_eq] at h
    exact dT (r_lst h.2 (sEs es ok h.1)) h0 rfl
  | .dct ks es, X, k, H0, WT, n, e, ok, h => by
    cases e <;> first | (exact absurd h Bool.false_ne_true) | skip
    rename_i keys vals pos
    have h0 := h
    simp only [chkE, Bool.and_eq_true, decide_eq_true_eq] at h
    obtain ⟨⟨⟨⟨h1, h2⟩, h3⟩, h4⟩, h5⟩ := h
    cases ks with
    | nil =>
      cases keys with
      | cons _ _ => simp [keysOk] at h1
      | nil =>
        cases es with
        | cons _ _ => simp [Es.len] at h3
        | nil =>
          cases vals with
          | cons _ _ => simp [chkEs] at h2
          | nil => exact dT r_dct0 h0 rfl
    | cons a r => 
      have kk := keys_pps h1
      have hv := chkEs_len h2
      have pp := sPps es (pos := pos) ok h1 h2 h3
      refine dT ((pe_disp pp kk.1 (by rw [kk.2, h3, hv]) (by intro z; rw [z] at kk; simp at kk) (by rw [kk.2]; exact h4)).imp fun σ H Q ⟨ss, G, Q', at0, w, c⟩ => ?_) h0 rfl
      simp only [wpE] at w
      intro p hp
      have a1 := at0.next (HX.new hp) (at0.sim.new hp (show RO S X.K _ (.dct []) (.dK []) from ⟨[], rfl, by unfold RK; rfl⟩))
      refine tp_of h3 a1 (w p (at0.sim.free hp)) fun ts G2 vs H2 hx rs sm hl ⟨e1, _, q⟩ => ?_
      obtain ⟨l, h6, rl⟩ := sm.dct e1
      have el : l = [] := by unfold RK at rl; exact rl
      subst el
      refine ⟨h6, _, zip_pairs (a :: r) vs, ?_, ?_⟩
      · rw [List.length_zip, List.length_map]
        exact Nat.le_trans (Nat.min_le_left _ _) h4
      · have nd : (((a :: r).map fun k => (Sum.inr (Str.ofString k) : Key)).zip vs).map (·.1) |>.Nodup := by
          rw [List.map_fst_zip (by rw [List.length_map, ← rs.length, hl]; exact Nat.le_refl _)]
          exact List.Pairwise.map _ (fun x y hxy e => hxy (ofS_inj (Sum.inr.inj e))) h5
        rw [merge_new _ _ (fun _ _ => valV_nil) nd, List.nil_append]
        exact c _ _ _ _ (((HX.new hp).trans hx).trans (HX.put h6 trivial)) rt_ref (sm.put h6 trivial (show RO S X.K _ (.dct _) (.dK _) from ⟨_, rfl, RK.mono (HX.put h6 trivial) _ _ (rk_zip rs)⟩)) q
  | .bin o a b, X, k, H0, WT, n, e, ok, h => by
    cases e <;> first | (exact absurd h Bool.false_ne_true) | skip
    have h0 := h
    simp only [chkE, Bool.and_eq_true] at h
    exact dT (r_bin ok h.1.1 (sE a ok h.1.2).1 (sE b ok h.2).1) h0 rfl
  | .neg a, X, k, H0, WT, n, e, ok, h => by
    cases e <;> first | (exact absurd h Bool.false_ne_true) | skip
    rename_i op _ _
    cases op <;> first | (exact absurd h Bool.false_ne_true) | skip
    exact dT (r_neg (sE a ok (by simpa [chkE] using h)).1) h rfl
  | .cmp o a b, X, k, H0, WT, n, e, ok, h => by
    cases e <;> first | (exact absurd h Bool.false_ne_true) | skip
    rename_i l ops rs pos
    rcases ops with _ | ⟨op, _ | ⟨_, _⟩⟩ <;> rcases rs with _ | ⟨r, _ | ⟨_, _⟩⟩ <;> first | (exact absurd h Bool.false_ne_true) | skip
    have h0 := h
    simp only [chkE, Bool.and_eq_true] at h
    exact ⟨(r_cmp' ok h.1.1 h.2 (sE a ok h.1.2).1 (sE b ok h.2).1).1, fun _ => (r_cmp' ok h.1.1 h.2 (sE a ok h.1.2).1 (sE b ok h.2).1).2⟩
  | .land es, X, k, H0, WT, n, e, ok, h => by
    cases e <;> first | (exact absurd h Bool.false_ne_true) | skip
    rename_i op xs pos
    cases op <;> first | (exact absurd h Bool.false_ne_true) | skip
    have h0 := h
    simp only [chkE, Bool.and_eq_true, decide_eq_true_eq] at h
    exact ⟨(sAnd es ok h.1 h.2).imp fun σ H Q ⟨ss, G, Q', a, w, c⟩ => ⟨ss, G, Q', a, by simp only [wpE] at w; exact w, c⟩, fun ht => (sAndT es ok h.1 (by simpa [tstB] using ht) h.2).pt.imp fun σ H Q ⟨ss, G, Q', a, w, c⟩ => ⟨ss, G, Q', a, by simp only [wpE] at w; exact w, c⟩⟩
  | .lor es, X, k, H0, WT, n, e, ok, h => by
    cases e <;> first | (exact absurd h Bool.false_ne_true) | skip
    rename_i op xs pos
    cases op <;> first | (exact absurd h Bool.false_ne_true) | skip
    have h0 := h
    simp only [chkE, Bool.and_eq_true, decide_eq_true_eq] at h
    exact ⟨(sOr es ok h.1 h.2).imp fun σ H Q ⟨ss, G, Q', a, w, c⟩ => ⟨ss, G, Q', a, by simp only [wpE] at w; exact w, c⟩, fun ht => (sOrT es ok h.1 (by simpa [tstB] using ht) h.2).pt.imp fun σ H Q ⟨ss, G, Q', a, w, c⟩ => ⟨ss, G, Q', a, by simp only [wpE] at w; exact w, c⟩⟩
  | .lnot a, X, k, H0, WT, n, e, ok, h => by
    cases e <;> first | (exact absurd h Bool.false_ne_true) | skip
    rename_i op _ _
    cases op <;> first | (exact absurd h Bool.false_ne_true) | skip
    have ha := sE a ok (show chkE a n _ = true by simpa [chkE] using h)
    exact ⟨r_not ha.1, fun ht => r_notT (ha.2 (by simpa [tstB] using ht))⟩
  | .ife c a b, X, k, H0, WT, n, e, ok, h => by
    cases e <;> first | (exact absurd h Bool.false_ne_true) | skip
    have h0 := h
    simp only [chkE, Bool.and_eq_true] at h
    exact ⟨r_ife ((sE c ok h.1.1.1).2 h.1.1.2) (sE a ok h.1.2).1 (sE b ok h.2).1, fun ht => by simp [tstB] at ht⟩
  | .ix a i, X, k, H0, WT, n, e, ok, h => by
    cases e <;> first | (exact absurd h Bool.false_ne_true) | skip
    have h0 := h
    simp only [chkE, Bool.and_eq_true] at h
    exact dT (r_ix h.2 (sE a ok h.1).1 (sE i ok h.2).1) h0 rfl
  | .dx a i, X, k, H0, WT, n, e, ok, h => by
    cases e <;> first | (exact absurd h Bool.false_ne_true) | skip
    have h0 := h
    simp only [chkE, Bool.and_eq_true] at h
    exact dT (r_dx ok h.2 (sE a ok h.1).1 (sE i ok h.2).1) h0 rfl
  | .sl a lo hi, X, k, H0, WT, n, e, ok, h => by
    cases e <;> first | (exact absurd h Bool.false_ne_true) | skip
    rename_i o s pos
    cases s <;> first | (exact absurd h Bool.false_ne_true) | skip
    rename_i l u st p
    cases st <;> first | (exact absurd h Bool.false_ne_true) | skip
    have h0 := h
    simp only [chkE, Bool.and_eq_true] at h
    exact dT (r_sl (sE a ok h.1.1).1 (sO lo ok h.1.2) (sO hi ok h.2)) h0 rfl
  | .fld a f, X, k, H0, WT, n, e, ok, h => by
    cases e <;> first | (exact absurd h Bool.false_ne_true) | skip
    have h0 := h
    simp only [chkE, Bool.and_eq_true, decide_eq_true_eq] at h
    exact dT (r_fld ok h.1.1 h.1.2 (sE a ok h.2).1) h0 rfl
  | .call f es, X, k, H0, WT, n, e, ok, h => by
    cases e <;> first | (exact absurd h Bool.false_ne_true) | skip
    rename_i fn args kws pos
    cases fn <;> cases kws <;> first | (exact absurd h Bool.false_ne_true) | skip
    have h0 := h
    simp only [chkE, Bool.and_eq_true, decide_eq_true_eq] at h
    cases args with
    | nil => have z := chkEs_len h.1.2; simp at z; omega
    | cons x xs => exact dT (r_call ok h.1.1 (chkEs_star h.1.2) (sEs es ok h.1.2)) h0 rfl
  | .callv i es, X, k, H0, WT, n, e, ok, h => by
    cases e <;> first | (exact absurd h Bool.false_ne_true) | skip
    rename_i fn args kws pos
    cases fn <;> cases kws <;> first | (exact absurd h Bool.false_ne_true) | skip
    have h0 := h
    simp only [chkE, Bool.and_eq_true, decide_eq_true_eq, Bool.not_eq_true'] at h
    cases args with
    | nil => have z := chkEs_len h.1.2; simp at z; omega
    | cons x xs => exact dT (r_callv ok h.1.1.1.1.1 h.1.1.1.1.2 h.1.1.1.2 h.1.1.2 (chkEs_star h.1.2) (sEs es ok h.1.2)) h0 rfl
  | .meth a m es, X, k, H0, WT, n, e, ok, h => by
    cases e <;> first | (exact absurd h Bool.false_ne_true) | skip
    rename_i fn args kws pos
    cases fn <;> cases kws <;> first | (exact absurd h Bool.false_ne_true) | skip
    have h0 := h
    simp only [chkE, Bool.and_eq_true, decide_eq_true_eq] at h
    obtain ⟨⟨⟨⟨⟨h1, h2⟩, h3⟩, h4⟩, h5⟩, h6⟩ := h
    cases args with
    | nil =>
      cases es with
      | nil => exact dT (r_meth0 ok h1 h2 h5 (sE a ok h3).1) h0 rfl
      | cons _ _ => simp [chkEs] at h4
    | cons x xs => exact dT (r_meth ok h1 h2 (chkEs_star h4) h5 h6 (sE a ok h3).1 (sEs es ok h4)) h0 rfl
  | .make C es, X, k, H0, WT, n, e, ok, h => by
    cases e <;> first | (exact absurd h Bool.false_ne_true) | skip
    rename_i fn args kws pos
    cases fn <;> cases kws <;> first | (exact absurd h Bool.false_ne_true) | skip
    have h0 := h
    simp only [chkE, Bool.and_eq_true, decide_eq_true_eq] at h
    cases args with
    | nil =>
      cases es with
      | nil => exact dT (r_make0 ok h.1) h0 rfl
      | cons _ _ => simp [chkEs] at h
    | cons x xs => exact dT (r_make ok h.1 (chkEs_star h.2) (sEs es ok h.2)) h0 rfl
  | .bi f es, X, k, H0, WT, n, e, ok, h => by
    cases e <;> first | (exact absurd h Bool.false_ne_true) | skip
    rename_i fn args kws pos
    cases fn <;> cases kws <;> first | (exact absurd h Bool.false_ne_true) | skip
    have h0 := h
    simp only [chkE, Bool.and_eq_true, decide_eq_true_eq] at h
    cases args with
    | nil => have z := chkEs_len h.1.2; simp at z; omega
    | cons x xs => exact dT (r_bi ok h.1.1 (chkEs_star h.1.2) (sEs es ok h.1.2)) h0 rfl
  | .bm a m es, X, k, H0, WT, n, e, ok, h => by
    cases e <;> first | (exact absurd h Bool.false_ne_true) | skip
    rename_i fn args kws pos
    cases fn <;> cases kws <;> first | (exact absurd h Bool.false_ne_true) | skip
    have h0 := h
    simp only [chkE, Bool.and_eq_true, decide_eq_true_eq] at h
    obtain ⟨⟨⟨⟨⟨⟨h1, h2⟩, h3⟩, h4⟩, h5⟩, h6⟩, h7⟩ := h
    subst h1
    have ho := (sE a ok h3).1
    have hst := chkEs_star h4
    cases m with
    | append =>
      rcases es with _ | ⟨c1, _ | ⟨c2, r⟩⟩ <;> rcases args with _ | ⟨x, _ | ⟨y, l⟩⟩ <;> first | (simp [chkEs] at h4; done) | (simp [bmArity, Es.len] at h7; done) | skip
      simp only [chkEs, Bool.and_eq_true] at h4
      exact dT (r_append h2 (chkE_star h4.1) h5 ho (sE c1 ok h4.1).1) h0 rfl
    | pop =>
      rcases es with _ | ⟨c1, r⟩ <;> rcases args with _ | ⟨x, l⟩ <;> first | (simp [chkEs] at h4; done) | (simp [bmArity, Es.len] at h7; done) | skip
      exact dT (r_pop h2 h5 ho) h0 rfl
    | get =>
      rcases es with _ | ⟨c1, _ | ⟨c2, _ | ⟨c3, r⟩⟩⟩ <;> rcases args with _ | ⟨x, _ | ⟨y, _ | ⟨z, l⟩⟩⟩ <;> first | (simp [chkEs] at h4; done) | (simp [bmArity, Es.len] at h7; done) | skip
      simp only [chkEs, Bool.and_eq_true] at h4
      exact dT (r_get ok h2 (chkE_star h4.1) (chkE_star h4.2.1) h5 ho (sE c1 ok h4.1).1 (sE c2 ok h4.2.1).1) h0 rfl
    | index =>
      rcases es with _ | ⟨c1, _ | ⟨c2, r⟩⟩ <;> rcases args with _ | ⟨x, _ | ⟨y, l⟩⟩ <;> first | (simp [chkEs] at h4; done) | (simp [bmArity, Es.len] at h7; done) | skip
      simp only [chkEs, Bool.and_eq_true] at h4
      exact dT (r_index h2 (chkE_star h4.1) h5 ho (sE c1 ok h4.1).1) h0 rfl
    | join =>
      rcases es with _ | ⟨c1, _ | ⟨c2, r⟩⟩ <;> rcases args with _ | ⟨x, _ | ⟨y, l⟩⟩ <;> first | (simp [chkEs] at h4; done) | (simp [bmArity, Es.len] at h7; done) | skip
      simp only [chkEs, Bool.and_eq_true] at h4
      exact dT (r_join h2 (chkE_star h4.1) h5 ho (sE c1 ok h4.1).1) h0 rfl
  | .isi a ty, X, k, H0, WT, n, e, ok, h => by
    cases e <;> first | (exact absurd h Bool.false_ne_true) | skip
    rename_i fn args kws pos
    cases fn <;> first | (exact absurd h Bool.false_ne_true) | skip
    rcases args with _ | ⟨x, _ | ⟨y, r⟩⟩ <;> first | (exact absurd h Bool.false_ne_true) | skip
    cases y <;> first | (exact absurd h Bool.false_ne_true) | skip
    cases r <;> first | (exact absurd h Bool.false_ne_true) | skip
    cases kws <;> first | (exact absurd h Bool.false_ne_true) | skip
    have h0 := h
    simp only [chkE, Bool.and_eq_true] at h
    exact dT (r_isi ok h.1.1 h.1.2 (chkE_star h.2) (sE a ok h.2).1) h0 rfl
  | .isx a C, X, k, H0, WT, n, e, ok, h => by
    cases e <;> first | (exact absurd h Bool.false_ne_true) | skip
    rename_i fn args kws pos
    cases fn <;> first | (exact absurd h Bool.false_ne_true) | skip
    rcases args with _ | ⟨x, _ | ⟨y, r⟩⟩ <;> first | (exact absurd h Bool.false_ne_true) | skip
    cases y <;> first | (exact absurd h Bool.false_ne_true) | skip
    cases r <;> first | (exact absurd h Bool.false_ne_true) | skip
    cases kws <;> first | (exact absurd h Bool.false_ne_true) | skip
    have h0 := h
    simp only [chkE, Bool.and_eq_true] at h
    exact dT (r_isx ok h.2 h.1.1.1 h.1.1.2 (chkE_star h.1.2) (sE a ok h.1.2).1) h0 rfl
  | .xf a C, X, k, H0, WT, n, e, ok, h => by cases e <;> exact absurd h Bool.false_ne_true
  | .gen all elt x it, X, k, H0, WT, n, e, ok, h => by
    cases e <;> first | (exact absurd h Bool.false_ne_true) | skip
    rename_i fn args kws pos
    cases fn <;> first | (exact absurd h Bool.false_ne_true) | skip
    rcases args with _ | ⟨ge, ar⟩ <;> first | (exact absurd h Bool.false_ne_true) | skip
    cases ge <;> first | (exact absurd h Bool.false_ne_true) | skip
    rename_i ce gs scope gpos
    rcases gs with _ | ⟨⟨tg, iter, ifs, asy⟩, gr⟩ <;> first | (exact absurd h Bool.false_ne_true) | skip
    cases tg <;> first | (exact absurd h Bool.false_ne_true) | skip
    cases ifs <;> first | (exact absurd h Bool.false_ne_true) | skip
    cases gr <;> first | (exact absurd h Bool.false_ne_true) | skip
    cases ar <;> first | (exact absurd h Bool.false_ne_true) | skip
    cases kws <;> first | (exact absurd h Bool.false_ne_true) | skip
    have h0 := h
    simp only [chkE, Bool.and_eq_true, decide_eq_true_eq] at h
    obtain ⟨⟨⟨⟨⟨⟨hz, h1⟩, h2⟩, h3⟩, h4⟩, h5⟩, h6⟩ := h
    subst hz
    obtain ⟨h1, hh⟩ := chkBltC_of h1
    obtain ⟨c, P, TB, hcode, hP⟩ := ok.tb h2
    obtain ⟨b1, b2, _, _, b5⟩ := ok.bl h1
    have S0 := gsB_of h5
    rw [← ok.N, ← ok.sc] at S0
    cases all with
    | true =>
      subst b1
      exact dT ((SKG.pe_allG (ok.calm hh) (ok.room1 h2 hh) b2 b5 (by first | rfl | decide) TB hcode S0 (sI it ok h4) (fun A' C code s0 H1 fp pn hr => (sE elt (ok.gen hh hr) h6).1) (genFold_of h4 h3 _)).imp fun σ H Q w => gen_imp hP σ H Q w) h0 rfl
    | false =>
      subst b1
      exact dT ((SKG.pe_anyG (ok.calm hh) (ok.room1 h2 hh) b2 b5 (by first | rfl | decide) TB hcode S0 (sI it ok h4) (fun A' C code s0 H1 fp pn hr => (sE elt (ok.gen hh hr) h6).1) (genFold_of h4 h3 _)).imp fun σ H Q w => gen_imp hP σ H Q w) h0 rfl
  | .lc elt own g it cond, X, k, H0, WT, n, e, ok, h => by
    cases e <;> first | (exact absurd h Bool.false_ne_true) | skip
    rename_i e gs scope pos
    rcases gs with _ | ⟨⟨tg, iter, ifs, asy⟩, _ | ⟨g2, r⟩⟩ <;> first | (exact absurd h Bool.false_ne_true) | skip
    have h0 := h
    simp only [chkE, Bool.and_eq_true, decide_eq_true_eq] at h
    obtain ⟨⟨⟨⟨⟨⟨⟨hz, h1⟩, h2⟩, h3⟩, h4⟩, h5⟩, h6⟩, h7⟩ := h
    obtain ⟨hz, hh⟩ := hz
    have hh : n.hot = false := by simpa using hh
    subst hz
    have hgs : ∀ i ∈ g.slots, i ∈ own := fun i hi => by
      have z := List.all_eq_true.mp h4 i hi
      simpa using z
    have p := pe_lc (own := ownOf n.N own) (g := gV X.K g) (tt := upT S X.K H0 WF (wpC M cond)) (te := upE S X.K H0 WF (wpE M elt)) (ok.calm hh) ok.nd (sI it ok h1) (blkOk_by (by rw [ok.N, ok.sc]; exact h2))
      (fun s H C cl fp => tg_of (ok.blk hh s H scope C cl fp).sto h5) (fun s H C cl fp => sIf cond (ok.blk hh s H scope C cl fp) h7) (fun s H C cl fp => (sE elt (ok.blk hh s H scope C cl fp) h6).1) (foldSet_of h1 X.env) (pos := pos)
    rw [h3] at p
    exact dT (p.imp fun σ H Q w => lc_imp hgs σ H Q w) h0 rfl
theorem sEs : ∀ (c : Es) {X : Cx} {k : Nat} {H0 : Hp} {WT : Sl → XT} {n : Nm} {es : List Expr}, Ok X S M k H0 WT n → chkEs c n es = true → PA X es (upA S X.K H0 WT c.len (wpEs M c))
  | .nil, X, k, H0, WT, n, es, ok, h => by
    cases es <;> first | (exact absurd h Bool.false_ne_true) | exact r_nil
  | .cons e r, X, k, H0, WT, n, es, ok, h => by
    cases es <;> first | (exact absurd h Bool.false_ne_true) | skip
    simp only [chkEs, Bool.and_eq_true] at h
    exact r_cons (chkE_star h.1) (sE e ok h.1).1 (sEs r ok h.2)
theorem sPps : ∀ (c : Es) {ks : List String} {X : Cx} {k : Nat} {H0 : Hp} {WT : Sl → XT} {n : Nm} {keys : List (Option Expr)} {vals : List Expr} {pos : Pos}, Ok X S M k H0 WT n → keysOk ks keys = true → chkEs c n vals = true → ks.length = c.len →
    PPs X pos keys vals (trsOf S X.K M H0 WT ks c)
  | .nil, ks, X, k, H0, WT, n, keys, vals, pos, ok, h1, h2, h3 => by
    cases ks <;> first | (simp [Es.len] at h3; done) | skip
    cases keys <;> first | (simp [keysOk] at h1; done) | skip
    cases vals <;> first | (exact absurd h2 Bool.false_ne_true) | skip
    exact pps_nil
  | .cons e r, ks, X, k, H0, WT, n, keys, vals, pos, ok, h1, h2, h3 => by
    cases ks <;> first | (simp [Es.len] at h3; done) | skip
    rename_i kk ks
    cases vals <;> first | (exact absurd h2 Bool.false_ne_true) | skip
    simp only [chkEs, Bool.and_eq_true] at h2
    cases keys <;> first | (simp [keysOk] at h1; done) | skip
    rename_i ke keys
    cases ke <;> first | (simp [keysOk] at h1; done) | skip
    rename_i ke
    cases ke <;> first | (simp [keysOk] at h1; done) | skip
    rename_i cst _ _
    cases cst <;> first | (simp [keysOk] at h1; done) | skip
    simp only [keysOk, Bool.and_eq_true, decide_eq_true_eq] at h1
    obtain ⟨e1, h1⟩ := h1
    subst e1
    exact pps_cons pe_str (sE e ok h2.1).1 (sPps r ok h1 h2.2 (by simpa [Es.len] using h3))
theorem sAnd : ∀ (c : Es) {X : Cx} {k : Nat} {H0 : Hp} {WT : Sl → XT} {n : Nm} {xs : List Expr} {pos : Pos}, Ok X S M k H0 WT n → chkEs c n xs = true → 0 < c.len → PE X (.BoolOp .And xs pos) (upE S X.K H0 WT (wpAnd M c))
  | .nil, X, k, H0, WT, n, xs, pos, ok, h, h0 => by simp [Es.len] at h0
  | .cons e .nil, X, k, H0, WT, n, xs, pos, ok, h, h0 => by
    rcases xs with _ | ⟨x, _ | ⟨y, r⟩⟩ <;> first | (simp [chkEs] at h; done) | skip
    simp only [chkEs, Bool.and_eq_true] at h
    exact r_and1 (sE e ok h.1).1
  | .cons e (.cons f r), X, k, H0, WT, n, xs, pos, ok, h, h0 => by
    rcases xs with _ | ⟨x, _ | ⟨y, l⟩⟩ <;> first | (simp [chkEs] at h; done) | skip
    have h' := h
    rw [chkEs, Bool.and_eq_true] at h'
    exact r_and2 (sE e ok h'.1).1 (sAnd (.cons f r) ok h'.2 (by simp [Es.len]))
theorem sOr : ∀ (c : Es) {X : Cx} {k : Nat} {H0 : Hp} {WT : Sl → XT} {n : Nm} {xs : List Expr} {pos : Pos}, Ok X S M k H0 WT n → chkEs c n xs = true → 0 < c.len → PE X (.BoolOp .Or xs pos) (upE S X.K H0 WT (wpOr M c))
  | .nil, X, k, H0, WT, n, xs, pos, ok, h, h0 => by simp [Es.len] at h0
  | .cons e .nil, X, k, H0, WT, n, xs, pos, ok, h, h0 => by
    rcases xs with _ | ⟨x, _ | ⟨y, r⟩⟩ <;> first | (simp [chkEs] at h; done) | skip
    simp only [chkEs, Bool.and_eq_true] at h
    exact r_or1 (sE e ok h.1).1
  | .cons e (.cons f r), X, k, H0, WT, n, xs, pos, ok, h, h0 => by
    rcases xs with _ | ⟨x, _ | ⟨y, l⟩⟩ <;> first | (simp [chkEs] at h; done) | skip
    have h' := h
    rw [chkEs, Bool.and_eq_true] at h'
    exact r_or2 (sE e ok h'.1).1 (sOr (.cons f r) ok h'.2 (by simp [Es.len]))
theorem sAndT : ∀ (c : Es) {X : Cx} {k : Nat} {H0 : Hp} {WT : Sl → XT} {n : Nm} {xs : List Expr} {pos : Pos}, Ok X S M k H0 WT n → chkEs c n xs = true → tstB.tstBs c = true → 0 < c.len → PW X (.BoolOp .And xs pos) (upT S X.K H0 WT (wpAnd M c))
  | .nil, X, k, H0, WT, n, xs, pos, ok, h, ht, h0 => by simp [Es.len] at h0
  | .cons e .nil, X, k, H0, WT, n, xs, pos, ok, h, ht, h0 => by
    rcases xs with _ | ⟨x, _ | ⟨y, r⟩⟩ <;> first | (simp [chkEs] at h; done) | skip
    simp only [chkEs, Bool.and_eq_true] at h
    simp only [tstB.tstBs, Bool.and_eq_true] at ht
    exact r_and1T ((sE e ok h.1).2 ht.1)
  | .cons e (.cons f r), X, k, H0, WT, n, xs, pos, ok, h, ht, h0 => by
    rcases xs with _ | ⟨x, _ | ⟨y, l⟩⟩ <;> first | (simp [chkEs] at h; done) | skip
    have h' := h
    rw [chkEs, Bool.and_eq_true] at h'
    rw [tstB.tstBs, Bool.and_eq_true] at ht
    exact r_and2T ((sE e ok h'.1).2 ht.1) (sAndT (.cons f r) ok h'.2 ht.2 (by simp [Es.len]))
theorem sOrT : ∀ (c : Es) {X : Cx} {k : Nat} {H0 : Hp} {WT : Sl → XT} {n : Nm} {xs : List Expr} {pos : Pos}, Ok X S M k H0 WT n → chkEs c n xs = true → tstB.tstBs c = true → 0 < c.len → PW X (.BoolOp .Or xs pos) (upT S X.K H0 WT (wpOr M c))
  | .nil, X, k, H0, WT, n, xs, pos, ok, h, ht, h0 => by simp [Es.len] at h0
  | .cons e .nil, X, k, H0, WT, n, xs, pos, ok, h, ht, h0 => by
    rcases xs with _ | ⟨x, _ | ⟨y, r⟩⟩ <;> first | (simp [chkEs] at h; done) | skip
    simp only [chkEs, Bool.and_eq_true] at h
    simp only [tstB.tstBs, Bool.and_eq_true] at ht
    exact r_or1T ((sE e ok h.1).2 ht.1)
  | .cons e (.cons f r), X, k, H0, WT, n, xs, pos, ok, h, ht, h0 => by
    rcases xs with _ | ⟨x, _ | ⟨y, l⟩⟩ <;> first | (simp [chkEs] at h; done) | skip
    have h' := h
    rw [chkEs, Bool.and_eq_true] at h'
    rw [tstB.tstBs, Bool.and_eq_true] at ht
    exact r_or2T ((sE e ok h'.1).2 ht.1) (sOrT (.cons f r) ok h'.2 ht.2 (by simp [Es.len]))
theorem sIf : ∀ (c : E) {X : Cx} {k : Nat} {H0 : Hp} {WT : Sl → XT} {n : Nm} {es : List Expr}, Ok X S M k H0 WT n → chkIf c n es = true → PTs X es (upT S X.K H0 WT (wpC M c))
  | .no, X, k, H0, WT, n, es, ok, h => by
    cases es <;> first | (exact absurd h Bool.false_ne_true) | skip
    exact ⟨fun pins s σ H Q I ⟨ss, G, Q', a, w, c⟩ => by
      simp only [wpC] at w
      obtain ⟨b, e, q⟩ := c _ G H (HX.refl _) a.sim w
      cases e
      exact pts_nil.run pins s σ H Q I q⟩
  | .var i, X, k, H0, WT, n, es, ok, h => by
    simp only [chkIf, Bool.and_eq_true] at h
    obtain ⟨e, rfl⟩ := one1_of h.1
    have h' : chkE (.var i) n e = true := by rw [← chkVar_eq]; exact h.2
    cases e <;> first | (exact absurd h' Bool.false_ne_true) | skip
    have p := pts_one ((dT (r_var (S := S) (M := M) ok h') h' rfl).2 rfl)
    exact ⟨fun pins s σ H Q I ⟨ss, G, Q', a, w, c⟩ => p.run pins s σ H Q I ⟨ss, G, Q', a, by simp only [wpC] at w; exact w, c⟩⟩
  | .cmp o a b, X, k, H0, WT, n, es, ok, h => by
    simp only [chkIf, Bool.and_eq_true] at h
    obtain ⟨l, op, r, pos, rfl⟩ := cmp1_of h.1.1.1
    have p := pts_one (r_cmp' (S := S) (M := M) (pos := pos) ok h.1.1.2 h.2 (sE a ok h.1.2).1 (sE b ok h.2).1).2
    exact ⟨fun pins s σ H Q I ⟨ss, G, Q', a, w, c⟩ => p.run pins s σ H Q I ⟨ss, G, Q', a, by simp only [wpC] at w; simp only [wpE]; exact w, c⟩⟩
  | .isi a ty, X, k, H0, WT, n, es, ok, h => by
    simp only [chkIf, Bool.and_eq_true] at h
    obtain ⟨fid, fpos, x, yid, ypos, pos, rfl⟩ := isi1_of h.1.1.1
    have h2 : chkE (.isi a ty) n (.Call (.Name fid fpos) [x, .Name yid ypos] [] pos) = true := by
      simp only [chkE, Bool.and_eq_true]
      exact ⟨⟨h.1.1.2, h.1.2⟩, h.2⟩
    have q : PE X (.Call (.Name fid fpos) [x, .Name yid ypos] [] pos) (upE S X.K H0 WT (wpE M (.isi a ty))) := r_isi ok h.1.1.2 h.1.2 (chkE_star h.2) (sE a ok h.2).1
    have p := pts_one (r_tst q (isTrue_pl h2 rfl _))
    exact ⟨fun pins s σ H Q I ⟨ss, G, Q', a, w, c⟩ => p.run pins s σ H Q I ⟨ss, G, Q', a, by simp only [wpC] at w; simp only [wpE]; exact w, c⟩⟩
  | .kc _, _, _, _, _, _, es, _, h => by simp [chkIf] at h
  | .gl _, _, _, _, _, _, es, _, h => by simp [chkIf] at h
  | .tup _, _, _, _, _, _, es, _, h => by simp [chkIf] at h
  | .lst _, _, _, _, _, _, es, _, h => by simp [chkIf] at h
  | .dct _ _, _, _, _, _, _, es, _, h => by simp [chkIf] at h
  | .bin _ _ _, _, _, _, _, _, es, _, h => by simp [chkIf] at h
  | .neg _, _, _, _, _, _, es, _, h => by simp [chkIf] at h
  | .land _, _, _, _, _, _, es, _, h => by simp [chkIf] at h
  | .lor _, _, _, _, _, _, es, _, h => by simp [chkIf] at h
  | .lnot _, _, _, _, _, _, es, _, h => by simp [chkIf] at h
  | .ife _ _ _, _, _, _, _, _, es, _, h => by simp [chkIf] at h
  | .ix _ _, _, _, _, _, _, es, _, h => by simp [chkIf] at h
  | .dx _ _, _, _, _, _, _, es, _, h => by simp [chkIf] at h
  | .sl _ _ _, _, _, _, _, _, es, _, h => by simp [chkIf] at h
  | .fld _ _, _, _, _, _, _, es, _, h => by simp [chkIf] at h
  | .call _ _, _, _, _, _, _, es, _, h => by simp [chkIf] at h
  | .meth _ _ _, _, _, _, _, _, es, _, h => by simp [chkIf] at h
  | .make _ _, _, _, _, _, _, es, _, h => by simp [chkIf] at h
  | .callv _ _, _, _, _, _, _, es, _, h => by simp [chkIf] at h
  | .bi _ _, _, _, _, _, _, es, _, h => by simp [chkIf] at h
  | .bm _ _ _, _, _, _, _, _, es, _, h => by simp [chkIf] at h
  | .isx _ _, _, _, _, _, _, es, _, h => by simp [chkIf] at h
  | .xf _ _, _, _, _, _, _, es, _, h => by simp [chkIf] at h
  | .lc _ _ _ _ _, _, _, _, _, _, es, _, h => by simp [chkIf] at h
  | .gen _ _ _ _, _, _, _, _, _, es, _, h => by simp [chkIf] at h
theorem sO : ∀ (c : E) {X : Cx} {k : Nat} {H0 : Hp} {WT : Sl → XT} {n : Nm} {e : Option Expr}, Ok X S M k H0 WT n → chkO c n e = true → PO X e (upO S X.K H0 WT (wpO M c))
  | .no, X, k, H0, WT, n, e, ok, h => by
    cases e <;> first | (exact absurd h Bool.false_ne_true) | exact r_oN
  | .var i, X, k, H0, WT, n, e, ok, h => by
    cases e <;> first | (exact absurd h Bool.false_ne_true) | skip
    rename_i e
    have h' : chkE (.var i) n e = true := by simpa [chkO, chkVar_eq] using h
    cases e <;> first | (exact absurd h' Bool.false_ne_true) | skip
    exact r_oS (r_var ok h') fun ss G X' Q w => by
      simp only [wpO] at w
      simp only [wpE]
      obtain ⟨j, e, q⟩ := w
      exact ⟨_, e, j, rfl, q⟩
  | .kc t, X, k, H0, WT, n, e, ok, h => by
    cases e <;> first | (exact absurd h Bool.false_ne_true) | skip
    rename_i e
    have h' : chkE (.kc t) n e = true := by simpa [chkO, chkKc_eq (n := n)] using h
    cases e <;> first | (exact absurd h' Bool.false_ne_true) | skip
    rename_i cc _ _
    have hc : chkC t cc = true := by simpa [chkE] using h'
    exact r_oS (r_kc (M := M) hc) fun ss G X' Q w => by
      simp only [wpO] at w
      simp only [wpE]
      exact w
  | .neg a, X, k, H0, WT, n, e, ok, h => by
    rcases e with _ | e <;> first | (exact absurd h Bool.false_ne_true) | skip
    cases e <;> first | (exact absurd h Bool.false_ne_true) | skip
    rename_i op _ _
    cases op <;> first | (exact absurd h Bool.false_ne_true) | skip
    exact r_oS (r_neg (sE a ok (by simpa [chkO] using h)).1) fun ss G X' Q w => by
      simp only [wpO] at w
      simp only [wpE]
      exact w
  | .bin o a b, X, k, H0, WT, n, e, ok, h => by
    rcases e with _ | e <;> first | (exact absurd h Bool.false_ne_true) | skip
    cases e <;> first | (exact absurd h Bool.false_ne_true) | skip
    simp only [chkO, Bool.and_eq_true] at h
    exact r_oS (r_bin ok h.1.1 (sE a ok h.1.2).1 (sE b ok h.2).1) fun ss G X' Q w => by
      simp only [wpO] at w
      simp only [wpE]
      exact w
  | .ix a b, X, k, H0, WT, n, e, ok, h => by
    rcases e with _ | e <;> first | (exact absurd h Bool.false_ne_true) | skip
    cases e <;> first | (exact absurd h Bool.false_ne_true) | skip
    simp only [chkO, Bool.and_eq_true] at h
    exact r_oS (r_ix h.2 (sE a ok h.1).1 (sE b ok h.2).1) fun ss G X' Q w => by
      simp only [wpO] at w
      simp only [wpE]
      exact w
  | .call f es, X, k, H0, WT, n, e, ok, h => by
    rcases e with _ | e <;> first | (exact absurd h Bool.false_ne_true) | skip
    cases e <;> first | (exact absurd h Bool.false_ne_true) | skip
    rename_i fn args kws pos
    cases fn <;> cases kws <;> first | (exact absurd h Bool.false_ne_true) | skip
    simp only [chkO, Bool.and_eq_true, decide_eq_true_eq] at h
    cases args with
    | nil => have z := chkEs_len h.1.2; simp at z; omega
    | cons x xs =>
      exact r_oS (r_call ok h.1.1 (chkEs_star h.1.2) (sEs es ok h.1.2)) fun ss G X' Q w => by
        simp only [wpO] at w
        simp only [wpE]
        exact w
  | .gl _, _, _, _, _, _, e, _, h => by cases e <;> exact absurd h Bool.false_ne_true
  | .tup _, _, _, _, _, _, e, _, h => by cases e <;> exact absurd h Bool.false_ne_true
  | .lst _, _, _, _, _, _, e, _, h => by cases e <;> exact absurd h Bool.false_ne_true
  | .dct _ _, _, _, _, _, _, e, _, h => by cases e <;> exact absurd h Bool.false_ne_true
  | .cmp _ _ _, _, _, _, _, _, e, _, h => by cases e <;> exact absurd h Bool.false_ne_true
  | .land _, _, _, _, _, _, e, _, h => by cases e <;> exact absurd h Bool.false_ne_true
  | .lor _, _, _, _, _, _, e, _, h => by cases e <;> exact absurd h Bool.false_ne_true
  | .lnot _, _, _, _, _, _, e, _, h => by cases e <;> exact absurd h Bool.false_ne_true
  | .ife _ _ _, _, _, _, _, _, e, _, h => by cases e <;> exact absurd h Bool.false_ne_true
  | .dx _ _, _, _, _, _, _, e, _, h => by cases e <;> exact absurd h Bool.false_ne_true
  | .sl _ _ _, _, _, _, _, _, e, _, h => by cases e <;> exact absurd h Bool.false_ne_true
  | .fld _ _, _, _, _, _, _, e, _, h => by cases e <;> exact absurd h Bool.false_ne_true
  | .meth _ _ _, _, _, _, _, _, e, _, h => by cases e <;> exact absurd h Bool.false_ne_true
  | .make _ _, _, _, _, _, _, e, _, h => by cases e <;> exact absurd h Bool.false_ne_true
  | .callv _ _, _, _, _, _, _, e, _, h => by cases e <;> exact absurd h Bool.false_ne_true
  | .bi _ _, _, _, _, _, _, e, _, h => by cases e <;> exact absurd h Bool.false_ne_true
  | .bm _ _ _, _, _, _, _, _, e, _, h => by cases e <;> exact absurd h Bool.false_ne_true
  | .isi _ _, _, _, _, _, _, e, _, h => by cases e <;> exact absurd h Bool.false_ne_true
  | .isx _ _, _, _, _, _, _, e, _, h => by cases e <;> exact absurd h Bool.false_ne_true
  | .xf _ _, _, _, _, _, _, e, _, h => by cases e <;> exact absurd h Bool.false_ne_true
  | .lc _ _ _ _ _, _, _, _, _, _, e, _, h => by cases e <;> exact absurd h Bool.false_ne_true
  | .gen _ _ _ _, _, _, _, _, _, e, _, h => by cases e <;> exact absurd h Bool.false_ne_true
theorem sI : ∀ (c : It) {X : Cx} {k : Nat} {H0 : Hp} {WT : Sl → XT} {n : Nm} {e tg : Expr}, Ok X S M k H0 WT n → chkI c n e = true → PI X tg e (upI S X.K H0 WT (wpI M c))
  | .tup c, X, k, H0, WT, n, e, tg, ok, h => r_itup (sE c ok (by simpa [chkI] using h)).1
  | .lst c, X, k, H0, WT, n, e, tg, ok, h => r_ilst (sE c ok (by simpa [chkI] using h)).1
  | .str c, X, k, H0, WT, n, e, tg, ok, h => r_istr (sE c ok (by simpa [chkI] using h)).1
  | .rng es, X, k, H0, WT, n, e, tg, ok, h => by
    cases e <;> first | (exact absurd h Bool.false_ne_true) | skip
    rename_i fn args kws pos
    cases fn <;> cases kws <;> first | (exact absurd h Bool.false_ne_true) | skip
    simp only [chkI, Bool.and_eq_true, decide_eq_true_eq] at h
    exact r_irng ok h.1.1.1 (chkEs_star h.1.1.2) h.1.2 h.2 (chkEs_len h.1.1.2).symm (sEs es ok h.1.1.2)
  | .revl c, X, k, H0, WT, n, e, tg, ok, h => by cases e <;> exact absurd h Bool.false_ne_true
  | .revt c, X, k, H0, WT, n, e, tg, ok, h => by
    cases e <;> first | (exact absurd h Bool.false_ne_true) | skip
    rename_i fn args kws pos
    cases fn <;> first | (exact absurd h Bool.false_ne_true) | skip
    rcases args with _ | ⟨x, _ | ⟨y, r⟩⟩ <;> first | (exact absurd h Bool.false_ne_true) | skip
    cases kws <;> first | (exact absurd h Bool.false_ne_true) | skip
    simp only [chkI, Bool.and_eq_true] at h
    exact r_irevt ok h.1 (chkE_star h.2) (sE c ok h.2).1
  | .revr c, X, k, H0, WT, n, e, tg, ok, h => by
    cases e <;> first | (exact absurd h Bool.false_ne_true) | skip
    rename_i fn args kws pos
    cases fn <;> first | (exact absurd h Bool.false_ne_true) | skip
    rcases args with _ | ⟨x, r1⟩ <;> first | (exact absurd h Bool.false_ne_true) | skip
    cases x <;> first | (exact absurd h Bool.false_ne_true) | skip
    rename_i fn2 args2 kws2 pos2
    cases fn2 <;> first | (exact absurd h Bool.false_ne_true) | skip
    rcases args2 with _ | ⟨y, _ | ⟨z, r⟩⟩ <;> first | (exact absurd h Bool.false_ne_true) | skip
    cases kws2 <;> first | (exact absurd h Bool.false_ne_true) | skip
    cases r1 <;> first | (exact absurd h Bool.false_ne_true) | skip
    cases kws <;> first | (exact absurd h Bool.false_ne_true) | skip
    simp only [chkI, Bool.and_eq_true] at h
    exact r_irevr ok h.1.1 h.1.2 (chkE_star h.2) (sE c ok h.2).1
end
end
end SK

set_option Elab.async false
set_option linter.all false
set_option maxRecDepth 100000
set_option maxHeartbeats 1000000
/-! SK10: statements are sound. -/
namespace SK
open PySem PySem.Spec PyProof.Rows L2
structure ContD (S : Stc) (K : PySem.W.Frag) (H0 H : Hp) (D' : En) (D : Ends) : Prop where
  nx : ∀ ss G σ H', HX H H' → At S K H0 ss G σ H' → D'.nx ss G → D.nx σ H'
  rt : Cont S K H D'.rt D.rt
  bk : ∀ ss G σ H', HX H H' → At S K H0 ss G σ H' → D'.bk ss G → D.bk σ H'
  ct : ∀ ss G σ H', HX H H' → At S K H0 ss G σ H' → D'.ct ss G → D.ct σ H'
theorem ContD.step {S : Stc} {K : PySem.W.Frag} {H0 H H1 : Hp} {D' : En} {D : Ends} (c : ContD S K H0 H D' D) (x : HX H H1) : ContD S K H0 H1 D' D :=
  ⟨fun ss G σ H' y => c.nx ss G σ H' (x.trans y), c.rt.step x, fun ss G σ H' y => c.bk ss G σ H' (x.trans y), fun ss G σ H' y => c.ct ss G σ H' (x.trans y)⟩
def upS (S : Stc) (K : PySem.W.Frag) (H0 : Hp) (WT : Sl → XT) (p : Sl → Gp → En → Prop) : TS := fun D σ H => ∃ ss G D', At S K H0 ss G σ H ∧ D'.ex = WT ∧ p ss G D' ∧ ContD S K H0 H D' D
section
variable {X : Cx} {S : Stc} {M : Gm} {k : Nat} {H0 : Hp} {WT : Sl → XT} {n : Nm}
theorem sw_false {c : E} {v : Expr} (h : chkE c n v = true) (hl : isLc c = false) (t : Option Expr) (l : Nat) (env : Env) : swapsWith v t l env = pure false := by
  cases v <;> first | rfl | (cases c <;> first | (cases hl; done) | (exact absurd h Bool.false_ne_true))
theorem asg_sub {c : E} {o i : Expr} {pos : Pos} {env : Env} (h : chkE c n i = true) : ∀ v, assign (.Subscript o i pos) env v = (do
      let ov ← holding [v] (eval o env)
      let iv ← holding [v, ov] (eval i env)
      standAt pos
      holding [v, ov, iv] (setItem ov iv v)
      release [v, ov, iv] []) := by
  intro v
  cases i <;> first | rfl | (cases c <;> exact absurd h Bool.false_ne_true)
theorem sS_asgW {i : Nat} {e : E} {te : TE} (p : ∀ σ H Q, upE S X.K H0 WT (wpE M e) σ H Q → te σ H Q) (D : Ends) (σ : L2.St) (H : Hp) (w : upS S X.K H0 WT (wpS (.asg i e) M) D σ H) : tAsg te (gName i) D σ H := by
  obtain ⟨ss, G, D', a, rfl, w, c⟩ := w
  unfold wpS at w
  exact p _ _ _ ⟨ss, G, _, a, w, fun t G' v H' hx r sm q => c.nx _ _ _ _ hx ⟨(a.rs.mono hx).set r i, sm, a.hx.trans hx⟩ q⟩
theorem s_asg (ok : Ok X S M k H0 WT n) {i : Nat} {e : E} {st : Stmt} (h : chkS (.asg i e) n st = true) : PS X st (upS S X.K H0 WT (wpS (.asg i e) M)) := by
  cases st <;> first | (exact absurd h Bool.false_ne_true) | skip
  rename_i tgs v pos
  simp only [chkS] at h
  rcases tgs with _ | ⟨tg, _ | ⟨_, _⟩⟩ <;> first | (exact absurd h Bool.false_ne_true) | (cases tg <;> exact absurd h Bool.false_ne_true; done) | skip
  cases tg <;> first | (exact absurd h Bool.false_ne_true) | skip
  rename_i x py
  simp only [chkAsg, Bool.and_eq_true, decide_eq_true_eq] at h
  obtain ⟨⟨⟨h1, h2⟩, h3⟩, h4⟩ := h
  obtain ⟨hl, hf⟩ := ok.loc h2
  by_cases hlc : isLc e = true
  · cases e <;> first | (cases hlc; done) | skip
    rename_i elt own g it cond
    cases v <;> first | (exact absurd h3 Bool.false_ne_true) | skip
    rename_i e gs scope pos'
    rcases gs with _ | ⟨⟨tg, iter, ifs, asy⟩, _ | ⟨g2, r⟩⟩ <;> first | (exact absurd h3 Bool.false_ne_true) | skip
    simp only [chkE, Bool.and_eq_true, decide_eq_true_eq] at h3
    obtain ⟨⟨⟨⟨⟨⟨⟨hz, k1⟩, k2⟩, k3⟩, k4⟩, k5⟩, k6⟩, k7⟩ := h3
    obtain ⟨hz, hh⟩ := hz
    have hh : n.hot = false := by simpa using hh
    subst hz
    simp only [lcOk, Bool.and_eq_true, decide_eq_true_eq, Bool.not_eq_true'] at h4
    have hgs : ∀ i ∈ g.slots, i ∈ own := fun i hi => by
      have z := List.all_eq_true.mp k4 i hi
      simpa using z
    have p := ps_setLc (i := i) (py := py) (spos := pos) (own := ownOf n.N own) (g := gV X.K g) (tt := upT S X.K H0 WF (wpC M cond)) (te := upE S X.K H0 WF (wpE M elt)) (ok.calm hh) ok.nd (by rw [ok.N]; exact h1) (by rw [ok.sc]; exact h4.1.1.2)
      (sw_true (by rw [ok.sc]; exact h4.1.1.1) (by rw [ok.sc]; exact h4.1.1.2) h4.1.2 h4.2) (sI it ok k1) (blkOk_by (by rw [ok.N, ok.sc]; exact k2))
      (fun s H C cl fp => tg_of (ok.blk hh s H scope C cl fp).sto k5) (fun s H C cl fp => sIf cond (ok.blk hh s H scope C cl fp) k7) (fun s H C cl fp => (sE elt (ok.blk hh s H scope C cl fp) k6).1) (foldSet_of k1 X.env) (pos := pos')
    rw [k3] at p
    exact p.imp (sS_asgW fun σ H Q w => lc_imp hgs σ H Q w)
  · exact (ps_set ok.nd (by rw [ok.N]; exact h1) hl (sE e ok h3).1 (sw_false h3 (by simpa using hlc) _ _ _) hf).imp (sS_asgW fun _ _ _ w => w)
theorem s_ast (ok : Ok X S M k H0 WT n) {is : List Nat} {e : E} {st : Stmt} (h : chkS (.ast is e) n st = true) : PS X st (upS S X.K H0 WT (wpS (.ast is e) M)) := by
  cases st <;> first | (exact absurd h Bool.false_ne_true) | skip
  rename_i tgs v pos
  simp only [chkS] at h
  rcases tgs with _ | ⟨tg, _ | ⟨_, _⟩⟩ <;> first | (exact absurd h Bool.false_ne_true) | skip
  simp only [chkAst, Bool.and_eq_true, Bool.not_eq_true'] at h
  obtain ⟨⟨⟨h1, h2⟩, h3⟩, h4⟩ := h
  have hsole : swapsWithSole [tg] v pos.line X.env = pure false := sw_false h2 h3 _ _ _
  have hst : swappedStores [tg] v X.env = pure none := by
    cases v <;> first | (cases h4; done) | (cases tg <;> rfl)
  have has : (assignEach [tg] X.env).map (·.2) = [assign tg X.env] := by
    cases tg <;> first | rfl | (simp [chkG] at h1)
  refine (ps_asg (sE e ok h2).1 (tg_of ok.sto h1) hsole hst has).imp fun D σ H ⟨ss, G, D', a, ex, w, c⟩ => ?_
  subst ex
  unfold wpS at w
  exact ⟨ss, G, _, a, w, fun t G' v H' hx r sm q => gV_of r (a.rs.mono hx) q fun s1 σ1 r1 q1 _ => c.nx _ _ _ _ hx ⟨r1, sm, a.hx.trans hx⟩ q1⟩
theorem gCh_unl {K : PySem.W.Frag} {H : Hp} {is : List Nat} {a : Addr} {xs : List T} {vs : List V} {ss : Sl} {σ : L2.St} {kk : Sl → Prop} {Q : L2.St → Hp → Prop} (hv : H a = some (.lst vs)) (rv : RTs K H xs vs) (rs : RS K H ss σ) (w : tgW (.tp is) (.tup xs) ss kk)
    (q : ∀ s1 σ1, RS K H s1 σ1 → kk s1 → Q σ1 H) : gUnl K is.length (gCh is) (.ref a) σ H Q := by
  obtain ⟨s1, e, w⟩ := w
  have z := ch_of (Q := Q) rv rs e fun σ1 r1 _ => q s1 σ1 r1 w
  exact ⟨a, vs, rfl, .inl (.inl hv), z.2, z.1⟩
theorem s_astl (ok : Ok X S M k H0 WT n) {is : List Nat} {e : E} {st : Stmt} (h : chkS (.astl is e) n st = true) : PS X st (upS S X.K H0 WT (wpS (.astl is e) M)) := by
  cases st <;> first | (exact absurd h Bool.false_ne_true) | skip
  rename_i tgs v pos
  simp only [chkS] at h
  rcases tgs with _ | ⟨tg, _ | ⟨_, _⟩⟩ <;> first | (exact absurd h Bool.false_ne_true) | skip
  simp only [chkAst, Bool.and_eq_true, Bool.not_eq_true'] at h
  obtain ⟨⟨⟨h1, h2⟩, h3⟩, h4⟩ := h
  have hsole : swapsWithSole [tg] v pos.line X.env = pure false := sw_false h2 h3 _ _ _
  have hst : swappedStores [tg] v X.env = pure none := by
    cases v <;> first | (cases h4; done) | (cases tg <;> rfl)
  have has : (assignEach [tg] X.env).map (·.2) = [assign tg X.env] := by
    cases tg <;> first | rfl | (simp [chkG] at h1)
  have hg : PG X tg (gUnl X.K is.length (gCh is)) := by
    cases tg <;> first | (exact absurd h1 Bool.false_ne_true) | skip
    simp only [chkG, Bool.and_eq_true, Bool.not_eq_true'] at h1
    obtain ⟨z1, z2, z3⟩ := chs_of ok.sto (show chkG.go n is _ = true from h1.2)
    exact pg_unl (ok.calm h1.1) z1 z2 z3
  refine (ps_asg (sE e ok h2).1 hg hsole hst has).imp fun D σ H ⟨ss, G, D', a, ex, w, c⟩ => ?_
  subst ex
  unfold wpS at w
  exact ⟨ss, G, _, a, w, fun t G' v H' hx r sm ⟨p, xs, e1, e2, q⟩ => by
    subst e1
    cases of_ref r
    obtain ⟨vs, h6, h8⟩ := sm.lst e2
    exact gCh_unl h6 h8 (a.rs.mono hx) q fun s1 σ1 r1 q1 => c.nx _ _ _ _ hx ⟨r1, sm, a.hx.trans hx⟩ q1⟩
theorem s_asf (ok : Ok X S M k H0 WT n) {o e : E} {f : String} {st : Stmt} (h : chkS (.asf o f e) n st = true) : PS X st (upS S X.K H0 WT (wpS (.asf o f e) M)) := by
  cases st <;> first | (exact absurd h Bool.false_ne_true) | skip
  rename_i tgs v pos
  simp only [chkS] at h
  rcases tgs with _ | ⟨tg, _ | ⟨_, _⟩⟩ <;> first | (exact absurd h Bool.false_ne_true) | (cases tg <;> exact absurd h Bool.false_ne_true; done) | skip
  cases tg <;> first | (exact absurd h Bool.false_ne_true) | skip
  rename_i x m py
  simp only [chkAsf, Bool.and_eq_true, decide_eq_true_eq, Bool.not_eq_true'] at h
  obtain ⟨⟨⟨⟨h1, h2⟩, h3⟩, h4⟩, h5⟩ := h
  subst h1
  refine (ps_fld (sE o ok h3).1 (sE e ok h4).1 (sw_false h4 h5 _ _ _)).imp fun D σ H ⟨ss, G, D', a, ex, w, c⟩ => ?_
  subst ex
  unfold wpS at w
  refine ⟨ss, G, _, a, w, fun t G1 v H1 hx r sm q => ⟨ss, G1, _, a.next hx sm, q, ?_⟩⟩
  rintro t2 G2 v2 H2 hx2 r2 sm2 ⟨p, C, fs, rfl, e1, hl, hf, q2⟩
  obtain ⟨ca, dx, l, h6, h7, h8, h9⟩ := sm2.ins e1
  obtain ⟨cl, na⟩ := ok.md.cls C ca h7
  have hn := na f (ok.md.fld C f hf)
  refine ⟨p, ca, dx, l, r2, h6, cl, hn, by rw [← h8.length]; exact hl, ?_⟩
  have rf := h8.put (f := f) (r.mono hx2)
  exact c.nx _ _ _ _ ((hx.trans hx2).trans (HX.put h6 trivial)) (((a.next hx sm).next hx2 sm2).next (HX.put h6 trivial) (sm2.put h6 trivial (show RO S X.K _ (.ins C _) (.ins ca _ _) from ⟨ca, dx, _, rfl, h7, RF.mono (HX.put h6 trivial) _ _ rf, fPut_names (P := fun g => S.fld C g = true) (ok.md.fld C f hf) h9⟩))) q2
theorem s_asi (ok : Ok X S M k H0 WT n) {o i e : E} {st : Stmt} (h : chkS (.asi o i e) n st = true) : PS X st (upS S X.K H0 WT (wpS (.asi o i e) M)) := by
  cases st <;> first | (exact absurd h Bool.false_ne_true) | skip
  rename_i tgs v pos
  simp only [chkS] at h
  rcases tgs with _ | ⟨tg, _ | ⟨_, _⟩⟩ <;> first | (exact absurd h Bool.false_ne_true) | (cases tg <;> exact absurd h Bool.false_ne_true; done) | skip
  cases tg <;> first | (exact absurd h Bool.false_ne_true) | skip
  rename_i x y py
  simp only [chkAsi, Bool.and_eq_true, Bool.not_eq_true'] at h
  obtain ⟨⟨⟨h2, h3⟩, h4⟩, h5⟩ := h
  have hsole : swapsWithSole [.Subscript x y py] v pos.line X.env = pure false := by
    rw [swapsWithSole]
    exact sw_false h4 h5 _ _ _
  have hst : swappedStores [.Subscript x y py] v X.env = pure none := by cases v <;> rfl
  refine (ps_asg (sE e ok h4).1 (pg_sub (sE o ok h2).1 (sE i ok h3).1 set_list (asg_sub h3)) hsole hst).imp fun D σ H ⟨ss, G, D', a, ex, w, c⟩ => ?_
  subst ex
  unfold wpS at w
  refine ⟨ss, G, _, a, w, fun t G1 v H1 hx r sm q => ⟨ss, G1, _, a.next hx sm, q, fun t2 G2 v2 H2 hx2 r2 sm2 q2 => ⟨ss, G2, _, (a.next hx sm).next hx2 sm2, q2, ?_⟩⟩⟩
  rintro t3 G3 v3 H3 hx3 r3 sm3 ⟨p, xs, kk, j, rfl, rfl, e1, hj, q3⟩
  obtain ⟨vs, h6, h8⟩ := sm3.lst e1
  refine ⟨p, vs, kk, j, r2, r3, h6, by rw [← h8.length]; exact hj, ?_⟩
  exact c.nx _ _ _ _ (((hx.trans hx2).trans hx3).trans (HX.put h6 trivial)) ((((a.next hx sm).next hx2 sm2).next hx3 sm3).next (HX.put h6 trivial) (sm3.put h6 trivial (show RO S X.K _ (.lst _) (.lst _) from ⟨_, rfl, (h8.set j (r.mono (hx2.trans hx3))).mono (HX.put h6 trivial)⟩))) q3
theorem s_asd (ok : Ok X S M k H0 WT n) {o i e : E} {st : Stmt} (h : chkS (.asd o i e) n st = true) : PS X st (upS S X.K H0 WT (wpS (.asd o i e) M)) := by
  cases st <;> first | (exact absurd h Bool.false_ne_true) | skip
  rename_i tgs v pos
  simp only [chkS] at h
  rcases tgs with _ | ⟨tg, _ | ⟨_, _⟩⟩ <;> first | (exact absurd h Bool.false_ne_true) | (cases tg <;> exact absurd h Bool.false_ne_true; done) | skip
  cases tg <;> first | (exact absurd h Bool.false_ne_true) | skip
  rename_i x y py
  simp only [chkAsi, Bool.and_eq_true, Bool.not_eq_true'] at h
  obtain ⟨⟨⟨h2, h3⟩, h4⟩, h5⟩ := h
  refine (ps_dput ok.hu1 (sE o ok h2).1 (sE i ok h3).1 (sE e ok h4).1 (sw_false h4 h5 _ _ _)).imp fun D σ H ⟨ss, G, D', a, ex, w, c⟩ => ?_
  subst ex
  unfold wpS at w
  refine ⟨ss, G, _, a, w, fun t G1 v H1 hx r sm q => ⟨ss, G1, _, a.next hx sm, q, fun t2 G2 v2 H2 hx2 r2 sm2 q2 => ⟨ss, G2, _, (a.next hx sm).next hx2 sm2, q2, ?_⟩⟩⟩
  rintro t3 G3 v3 H3 hx3 r3 sm3 ⟨p, kvs, kk, rfl, hk, e1, hl, q3⟩
  obtain ⟨l, h6, h8⟩ := sm3.dct e1
  refine ⟨p, _, r2, .inl ⟨l, kOf kk, h6, keyT_of hk r3, by rw [← h8.length]; exact lt_line hl, rfl⟩, ?_⟩
  exact c.nx _ _ _ _ (((hx.trans hx2).trans hx3).trans (HX.put h6 trivial)) ((((a.next hx sm).next hx2 sm2).next hx3 sm3).next (HX.put h6 trivial) (sm3.put h6 trivial (show RO S X.K _ (.dct _) (.dK _) from ⟨_, rfl, RK.mono (HX.put h6 trivial) _ _ (h8.put (r.mono (hx2.trans hx3)))⟩))) q3
theorem s_ex (ok : Ok X S M k H0 WT n) {e : E} {st : Stmt} (h : chkS (.ex e) n st = true) : PS X st (upS S X.K H0 WT (wpS (.ex e) M)) := by
  cases st <;> first | (exact absurd h Bool.false_ne_true) | skip
  rename_i v pos
  simp only [chkS, Bool.and_eq_true, Bool.not_eq_true'] at h
  refine (ps_expr (sE e ok h.1).1 (sw_false h.1 h.2 _ _ _)).imp fun D σ H ⟨ss, G, D', a, ex, w, c⟩ => ?_
  subst ex
  unfold wpS at w
  exact ⟨ss, G, _, a, w, fun t G' v H' hx r sm q => c.nx _ _ _ _ hx (a.next hx sm) q⟩
theorem s_ret (ok : Ok X S M k H0 WT n) {e : E} {st : Stmt} (h : chkS (.ret e) n st = true) : PS X st (upS S X.K H0 WT (wpS (.ret e) M)) := by
  cases st <;> first | (exact absurd h Bool.false_ne_true) | skip
  rename_i v pos
  cases v <;> first | (exact absurd h Bool.false_ne_true) | skip
  simp only [chkS] at h
  refine (ps_ret (sE e ok h).1).imp fun D σ H ⟨ss, G, D', a, ex, w, c⟩ => ?_
  subst ex
  unfold wpS at w
  exact ⟨ss, G, _, a, w, c.rt⟩
theorem s_retn {st : Stmt} (h : chkS .retn n st = true) : PS X st (upS S X.K H0 WT (wpS .retn M)) := by
  cases st <;> first | (exact absurd h Bool.false_ne_true) | skip
  rename_i v pos
  cases v <;> first | (exact absurd h Bool.false_ne_true) | skip
  refine ps_retN.imp fun D σ H ⟨ss, G, D', a, ex, w, c⟩ => ?_
  unfold wpS at w
  exact c.rt _ _ _ _ (HX.refl _) (by unfold RT; rfl) a.sim w
theorem s_pass {st : Stmt} (h : chkS .pass n st = true) : PS X st (upS S X.K H0 WT (wpS .pass M)) := by
  cases st <;> first | (exact absurd h Bool.false_ne_true) | skip
  refine ps_pass.imp fun D σ H ⟨ss, G, D', a, ex, w, c⟩ => ?_
  unfold wpS at w
  exact c.nx _ _ _ _ (HX.refl _) a w
theorem s_ite {c : E} {a b : Ss} {t : Expr} {x y : List Stmt} {pos : Pos} (hc : PT X t (upT S X.K H0 WT (wpE M c))) (h1 : PSs X x (upS S X.K H0 WT (wpSs a M))) (h2 : PSs X y (upS S X.K H0 WT (wpSs b M))) :
    PS X (.If t x y pos) (upS S X.K H0 WT (wpS (.ite c a b) M)) := by
  refine (ps_if hc h1 h2).imp fun D σ H ⟨ss, G, D', at0, ex, w, c⟩ => ?_
  subst ex
  unfold wpS at w
  refine ⟨ss, G, _, at0, w, fun t G' H' hx sm ⟨b, e, q⟩ => ⟨b, e, ?_⟩⟩
  cases b with
  | true => rw [if_pos rfl] at q ⊢; exact ⟨ss, G', D', at0.next hx sm, rfl, q, c.step hx⟩
  | false => rw [if_neg Bool.false_ne_true] at q ⊢; exact ⟨ss, G', D', at0.next hx sm, rfl, q, c.step hx⟩
theorem s_for (ok : Ok X S M k H0 WT n) (hh : n.hot = false) {g : Tg} {it : It} {body : Ss} {tg iter : Expr} {b : List Stmt} {pos : Pos} (hg : chkG n g tg = true) (hi : chkI it n iter = true) (hb : PSs X b (upS S X.K H0 WT (wpSs body M))) :
    PS X (.For tg iter b [] pos) (upS S X.K H0 WT (wpS (.for_ g it body) M)) := by
  refine (ps_for (ok.pass hh) (ok.calm hh) (sI it ok hi) (tg_of ok.sto hg) hb (foldSet_of hi X.env)).imp fun D σ H ⟨ss, G, D', a, ex, w, c⟩ => ?_
  subst ex
  unfold wpS at w
  refine ⟨ss, G, _, a, w, fun sq G1 J H1 hx sm jo q => ?_⟩
  refine ⟨fun i m σ2 H2 => m = sq.items.length - i ∧ i ≤ sq.items.length ∧ ∃ ss2 G2, HX H1 H2 ∧ At S X.K H0 ss2 G2 σ2 H2 ∧ forW sq.stay g (fun s2 G2 D2 => wpSs body M s2 G2 D2) D' (sq.items.drop i) ss2 G2,
    ⟨sq.items.length, rfl, Nat.zero_le _, ss, G1, HX.refl _, a.next hx sm, q⟩, ?_⟩
  rintro i m σ2 H2 ⟨rfl, hi, ss2, G2, hx2, a2, w2⟩
  by_cases hlt : i < sq.items.length
  · rw [List.drop_eq_getElem_cons hlt] at w2
    unfold forW at w2
    obtain ⟨st, w2⟩ := w2
    refine .inr ⟨jo.go i H2 G2 hx2 a2.sim st hlt, fun σ3 H3 => ∃ ss3 G3, HX H1 H3 ∧ At S X.K H0 ss3 G3 σ3 H3 ∧ forW sq.stay g (fun s2 G2 D2 => wpSs body M s2 G2 D2) D' (sq.items.drop (i + 1)) ss3 G3,
      fun σ3 H3 ⟨ss3, G3, z1, z2, z3⟩ => ⟨sq.items.length - (i + 1), by omega, rfl, hlt, ss3, G3, z1, z2, z3⟩, fun x H3 y => ?_⟩
    obtain ⟨rfl, t, e1, rt⟩ := jo.yld i x H2 G2 H3 hx2 a2.sim st hlt y
    rw [List.getElem?_eq_getElem hlt] at e1
    cases e1
    refine gV_of rt a2.rs w2 fun s1 σ1 rs1 w3 _ => ?_
    refine ⟨s1, G2, _, ⟨rs1, a2.sim, a2.hx⟩, ?_, w3, ⟨fun ss4 G4 σ4 H4 y a4 q4 => ⟨ss4, G4, hx2.trans y, a4, q4⟩, c.rt.step (hx.trans hx2), fun ss4 G4 σ4 H4 y a4 q4 => c.nx _ _ _ _ ((hx.trans hx2).trans y) a4 q4, fun ss4 G4 σ4 H4 y a4 q4 => ⟨ss4, G4, hx2.trans y, a4, q4⟩⟩⟩
    rfl
  · have e : i = sq.items.length := by omega
    subst e
    rw [List.drop_length] at w2
    unfold forW at w2
    obtain ⟨st, w2⟩ := w2
    exact .inl ⟨jo.stop _ H2 G2 hx2 a2.sim st (Nat.le_refl _), c.nx _ _ _ _ (hx.trans hx2) a2 w2⟩
theorem s_whl (ok : Ok X S M k H0 WT n) (hh : n.hot = false) {c : E} {body : Ss} {t : Expr} {b : List Stmt} {pos : Pos} (hc : PT X t (upT S X.K H0 WT (wpE M c))) (hb : PSs X b (upS S X.K H0 WT (wpSs body M))) :
    PS X (.While t b [] pos) (upS S X.K H0 WT (wpS (.whl c body) M)) := by
  refine (ps_while (ok.pass hh) hc hb).imp fun D σ H ⟨ss, G, D', a, ex, w, c⟩ => ?_
  subst ex
  unfold wpS whlW at w
  obtain ⟨W, ⟨m0, w0⟩, turn⟩ := w
  refine ⟨fun m σ2 H2 => ∃ ss2 G2, HX H H2 ∧ At S X.K H0 ss2 G2 σ2 H2 ∧ W m ss2 G2, ⟨m0, ss, G, HX.refl _, a, w0⟩, ?_⟩
  rintro m σ2 H2 ⟨ss2, G2, hx2, a2, w2⟩
  refine ⟨ss2, G2, _, a2, turn m ss2 G2 w2, fun t G3 H3 hx3 sm3 ⟨b, e, q⟩ => ⟨b, e, ?_⟩⟩
  cases b with
  | true =>
    rw [if_pos rfl] at q ⊢
    refine ⟨fun σ4 H4 => ∃ ss4 G4, HX H H4 ∧ At S X.K H0 ss4 G4 σ4 H4 ∧ ∃ m', m' < m ∧ W m' ss4 G4, fun σ4 H4 ⟨ss4, G4, z1, z2, m', z3, z4⟩ => ⟨m', z3, ss4, G4, z1, z2, z4⟩, ?_⟩
    refine ⟨ss2, G3, _, a2.next hx3 sm3, ?_, q, ⟨fun ss4 G4 σ4 H4 y a4 q4 => ⟨ss4, G4, (hx2.trans hx3).trans y, a4, q4⟩, c.rt.step (hx2.trans hx3), fun ss4 G4 σ4 H4 y a4 q4 => c.nx _ _ _ _ ((hx2.trans hx3).trans y) a4 q4, fun ss4 G4 σ4 H4 y a4 q4 => ⟨ss4, G4, (hx2.trans hx3).trans y, a4, q4⟩⟩⟩
    rfl
  | false => rw [if_neg Bool.false_ne_true] at q ⊢; exact c.nx _ _ _ _ (hx2.trans hx3) (a2.next hx3 sm3) q
theorem s_cons {s : SK.S} {r : Ss} {st : Stmt} {sts : List Stmt} (h1 : PS X st (upS S X.K H0 WT (wpS s M))) (h2 : PSs X sts (upS S X.K H0 WT (wpSs r M))) : PSs X (st :: sts) (upS S X.K H0 WT (wpSs (.cons s r) M)) := by
  refine (pss_cons h1 h2).imp fun D σ H ⟨ss, G, D', a, ex, w, c⟩ => ?_
  subst ex
  unfold wpSs at w
  refine ⟨ss, G, _, a, ?_, w, ⟨fun ss4 G4 σ4 H4 y a4 q4 => ⟨ss4, G4, D', a4, rfl, q4, c.step y⟩, c.rt, c.bk, c.ct⟩⟩
  rfl
theorem s_nil : PSs X [] (upS S X.K H0 WT (wpSs .nil M)) := by
  refine pss_nil.imp fun D σ H ⟨ss, G, D', a, ex, w, c⟩ => ?_
  unfold wpSs at w
  exact c.nx _ _ _ _ (HX.refl _) a w
/-- C(), C an own error class without own __init__ -/
theorem pmk_own0 {X : Cx} {C : Addr} {bmB : List Value} {B newId initId : String} {x : Str} {p pos : Pos} (F : ExcBaseFacts B newId initId bmB) (q : PySem.W.excIn X.K C bmB newId = true) (gC : X.mg x = some (.ref C))
    (kC : PySem.W.keepIn X.K (.ref C) = true) (r : Raises X (.ref C)) (hg : Gl X x) (hdb : (x == ("__debug__" : Str)) = false) : PMk X (.Call (.Name x p) [] [] pos) (fun _ H Q => Q (.ref C) none H) := by
  intro pins s σ H Q I h
  refine wpAny_Call_Name_kw (ld_glob I hg gC ?_ hdb)
  refine PySem.W.callWith_K0 I.kIn kC ?_
  obtain ⟨bm, N, nm, qn, bs, hdct, sn, sub, ab, col, dd, k0, k1, k2, k3, k5, mN, hC, hN, hni, T⟩ := exc_obj I.kIn q
  refine wpAny_call_exc_subT F T hC hN hni (fun h' e hm => ?_) (by decide)
  exact mk_of I hm r h (I.hok.gone hm.new)
theorem s_raise (ok : Ok X S M k H0 WT n) {C : String} {es : Es} {st : Stmt} (h : chkS (.raise C es) n st = true) : PS X st (upS S X.K H0 WT (wpS (.raise C es) M)) := by
  cases st <;> first | (exact absurd h Bool.false_ne_true) | skip
  rename_i ex cause pos
  cases ex <;> first | (exact absurd h Bool.false_ne_true) | skip
  rename_i e
  cases e <;> first | (exact absurd h Bool.false_ne_true) | skip
  rename_i fn args kws p1
  cases fn <;> first | (exact absurd h Bool.false_ne_true) | skip
  cases args <;> first | (exact absurd h Bool.false_ne_true) | skip
  cases kws <;> first | (exact absurd h Bool.false_ne_true) | skip
  cases cause <;> first | (exact absurd h Bool.false_ne_true) | skip
  simp only [chkS, Bool.and_eq_true, decide_eq_true_eq] at h
  obtain ⟨h1, h2⟩ := h
  obtain ⟨h1, hh⟩ := chkFn_of h1
  obtain ⟨hx, hg, hd, _⟩ := ok.gl h1
  subst hx
  cases es with
  | cons e r => simp [Es.len] at h2
  | nil =>
    refine ⟨fun pins s σ H D I ⟨ss, G, D', a, ex, w, c⟩ => ?_⟩
    subst ex
    simp only [wpS, wpEs] at w
    obtain ⟨fs, e1, e2, w⟩ := w
    have e3 : fs = [] := List.length_eq_zero_iff.mp (by simpa using e2)
    subst e3
    obtain ⟨ca, k1, k2, ⟨bmB, newId, initId, B, F, q⟩, kp, sb, ty⟩ := ok.md.xc C e1
    exact (ps_raise (ok.calm hh) ok.tk (pmk_own0 F q k2 kp (raises_own sb ty) hg hd)).run pins s σ H D I ⟨ss, C, [], G, a, ⟨ca, rfl, k1, .inl ⟨rfl, rfl⟩⟩, w⟩
/-- the body's wish -/
def tbT (S : Stc) (K : PySem.W.Frag) (M : Gm) (body : Ss) : WX → TS := fun W D σ H => ∃ WT' : Sl → XT, (∀ cls d σ' H', upX S K H WT' cls d σ' H' → W cls d σ' H') ∧ upS S K H WT' (wpSs body M) D σ H
def tsT (S : Stc) (K : PySem.W.Frag) (M : Gm) (suite : Ss) : Addr → Value → Option Addr → TS := fun p cls d D σ H => ∃ c fs, ExR S K H c fs cls d ∧ upS S K H WF (wpSs suite { M with xc := some (c, fs, p) }) D σ H
theorem MdOk.exc {P : Program} {w : World} {K : PySem.W.Frag} {mg : Str → Option Value} {base : Heap} {S : Stc} {M : Gm} {k : Nat} {use blt : List String} (md : MdOk P w K mg base S M k use blt) (x : Option (String × List (String × T) × Addr)) : MdOk P w K mg base S { M with xc := x } k use blt :=
  ⟨md.fn, md.me, md.cr, md.cst, md.blt, md.fld, md.xc, md.xn, md.xi, md.cls, md.fv⟩
theorem s_try (ok : Ok X S M k H0 WT n) {body suite : Ss} {C : String} {i : Nat} {x y : Str} {b sr : List Stmt} {s0 : Stmt} {p1 p2 pos : Pos} (h1 : chkFn n x C = true) (hc : n.cellOk = true) (h2 : n.N[i]? = some y) (h3 : n.sc.names.lookup y = some .local)
    (hb : ∀ {X : Cx} {H0 : Hp} {WT : Sl → XT}, Ok X S M k H0 WT n → PSs X b (upS S X.K H0 WT (wpSs body M)))
    (hsu : ∀ {X : Cx} {H0 : Hp} {WT : Sl → XT} {M' : Gm}, Ok X S M' k H0 WT { n with hot := true } → PSs X (s0 :: sr) (upS S X.K H0 WT (wpSs suite M'))) :
    PS X (.Try b [.ExceptHandler (some (.Name x p1)) (some y) (s0 :: sr) p2] [] [] pos) (upS S X.K H0 WT (wpS (.try_ body C i suite) M)) := by
  obtain ⟨h1, hh⟩ := chkFn_of h1
  obtain ⟨hx, hg, hd, hnn⟩ := ok.gl h1
  subst hx
  refine ⟨fun pins s σ H D I ⟨ss, G, D', a, ex, w, c⟩ => ?_⟩
  subst ex
  simp only [wpS] at w
  obtain ⟨hC, w⟩ := w
  obtain ⟨cv, v, r1, r2, r3, r4⟩ := ok.md.xn C hC
  have nm : Names X (Str.ofString C) cv := ⟨hg, hd, r3.imp id fun z => ⟨z.1, z.2, hnn⟩⟩
  refine (ps_try_as (c := cv) (i := i) (tb := tbT S X.K M body) (ts := tsT S X.K M suite) (ok.stk hc) (ok.frm hc) ok.nd (by rw [ok.N]; exact h2) (show X.env.scope.names.lookup y = some .local by rw [ok.sc]; exact h3) nm ok.tk
    (fun W pn xe tk pa => ⟨fun pins s σ H D I ⟨WT', him, w⟩ => ?_⟩) (fun p oe cls d pn hz hf => ⟨fun pins s σ H D I ⟨c, fs, er, w⟩ => ?_⟩)).run pins s σ H D I ?_
  · have ok' : Ok (X.tr pn xe) S M k H WT' n := ⟨ok.N, ok.sc, ok.nd, ok.calm, ok.hu, ok.room, tk.imp him, ok.fn, fun _ => pa, ok.md, ok.stk, ok.frm, ok.room1, ok.tb, fun z => absurd (hh.symm.trans z) Bool.false_ne_true⟩
    exact (hb ok').run pins s σ H D I w
  · obtain ⟨ca, ec, xc, ed⟩ := er
    subst ec
    have ok' : Ok (X.suite p ((p, oe) :: pn)) S { M with xc := some (c, fs, p) } k H WF { n with hot := true } :=
      ⟨ok.N, ok.sc, ok.nd, fun z => (by cases z), ok.hu, fun z => (by cases z), takes0.imp fun c d σ H ⟨_, _, _, _, _, _, z⟩ => z, ok.fn, fun z => (by cases z), ok.md.exc _, ok.stk, ok.frm, (fun _ z => by cases z), ok.tb, fun _ c' fs' p' e => by
        cases e
        refine ⟨ca, xc, fun e0 => ?_⟩
        rcases ed with ⟨_, e1⟩ | ⟨e1, _⟩
        · subst e1
          exact call_isE (ok.md.xi c ca xc) hz hf
        · exact absurd e0 e1⟩
    exact (hsu ok').run pins s σ H D I w
  · refine ⟨_, fun cls d σ' H' ⟨s1, c1, fs, G1, a1, er, w1⟩ => ?_, ss, G, _, ⟨a.rs, a.sim, HX.refl H⟩, rfl, w, ⟨fun s2 G2 σ2 H2 y a2 q => c.nx _ _ _ _ y ⟨a2.rs, a2.sim, a.hx.trans y⟩ q, c.rt, fun s2 G2 σ2 H2 y a2 q => c.bk _ _ _ _ y ⟨a2.rs, a2.sim, a.hx.trans y⟩ q, fun s2 G2 σ2 H2 y a2 q => c.ct _ _ _ _ y ⟨a2.rs, a2.sim, a.hx.trans y⟩ q⟩⟩
    obtain ⟨ca, ec, xc, ed⟩ := id er
    subst ec
    refine ⟨M.sub c1 C, (r4 c1 ca xc).1, fun hy p hp => ?_, fun hn => ?_⟩
    · refine ⟨c1, fs, er, s1.set i (some (.ref p)), G1, _, ⟨a1.rs.set rt_ref i, a1.sim, HX.refl H'⟩, rfl, w1.1 hy p (a1.sim.free hp), ⟨fun s2 G2 σ2 H2 y a2 q => ?_, ?_, fun s2 G2 σ2 H2 y a2 q => ?_, fun s2 G2 σ2 H2 y a2 q => ?_⟩⟩
      · exact c.nx _ _ _ _ (a1.hx.trans y) ⟨a2.rs.forget i, a2.sim, (a.hx.trans a1.hx).trans y⟩ q
      · exact c.rt.step a1.hx
      · exact c.bk _ _ _ _ (a1.hx.trans y) ⟨a2.rs.forget i, a2.sim, (a.hx.trans a1.hx).trans y⟩ q
      · exact c.ct _ _ _ _ (a1.hx.trans y) ⟨a2.rs.forget i, a2.sim, (a.hx.trans a1.hx).trans y⟩ q
    · exact ⟨s1, c1, fs, G1, ⟨a1.rs, a1.sim, a.hx.trans a1.hx⟩, er, w1.2 hn⟩
end
section
variable {S : Stc}
mutual
theorem sS : ∀ (c : SK.S) {M : Gm} {X : Cx} {k : Nat} {H0 : Hp} {WT : Sl → XT} {n : Nm} {st : Stmt}, Ok X S M k H0 WT n → chkS c n st = true → PS X st (upS S X.K H0 WT (wpS c M))
  | .asg i e, _, _, _, _, _, _, _, ok, h => s_asg ok h
  | .ast is e, _, _, _, _, _, _, _, ok, h => s_ast ok h
  | .astl is e, _, _, _, _, _, _, _, ok, h => s_astl ok h
  | .asf o f e, _, _, _, _, _, _, _, ok, h => s_asf ok h
  | .asi o i e, _, _, _, _, _, _, _, ok, h => s_asi ok h
  | .asd o i e, _, _, _, _, _, _, _, ok, h => s_asd ok h
  | .ex e, _, _, _, _, _, _, _, ok, h => s_ex ok h
  | .ret e, _, _, _, _, _, _, _, ok, h => s_ret ok h
  | .retn, _, _, _, _, _, _, _, ok, h => s_retn h
  | .pass, _, _, _, _, _, _, _, ok, h => s_pass h
  | .ite c a b, _, X, _, _, _, n, st, ok, h => by
    cases st <;> first | (exact absurd h Bool.false_ne_true) | skip
    simp only [chkS, Bool.and_eq_true] at h
    exact s_ite ((sE c ok h.1.1.1).2 h.1.1.2) (sSs a ok h.1.2) (sSs b ok h.2)
  | .for_ g it body, _, X, _, _, _, n, st, ok, h => by
    cases st <;> first | (exact absurd h Bool.false_ne_true) | skip
    rename_i tg iter b o pos
    cases o <;> first | (exact absurd h Bool.false_ne_true) | skip
    simp only [chkS, Bool.and_eq_true] at h
    exact s_for ok (by simpa using h.1.2.2) h.1.1 h.1.2.1 (sSs body ok h.2)
  | .whl c body, _, X, _, _, _, n, st, ok, h => by
    cases st <;> first | (exact absurd h Bool.false_ne_true) | skip
    rename_i t b o pos
    cases o <;> first | (exact absurd h Bool.false_ne_true) | skip
    simp only [chkS, Bool.and_eq_true] at h
    exact s_whl ok (by simpa using h.1.2.2) ((sE c ok h.1.1).2 h.1.2.1) (sSs body ok h.2)
  | .raise _ _, _, _, _, _, _, _, st, ok, h => s_raise ok h
  | .try_ body C i suite, M, X, _, _, _, n, st, ok, h => by
    cases st <;> first | (exact absurd h Bool.false_ne_true) | skip
    rename_i b hs o f pos
    rcases hs with _ | ⟨h0, hr⟩ <;> first | (exact absurd h Bool.false_ne_true) | skip
    cases h0
    rename_i ty nm sb p2
    cases ty <;> first | (exact absurd h Bool.false_ne_true) | skip
    rename_i ty
    cases ty <;> first | (exact absurd h Bool.false_ne_true) | skip
    cases nm <;> first | (exact absurd h Bool.false_ne_true) | skip
    cases sb <;> first | (exact absurd h Bool.false_ne_true) | skip
    cases hr <;> first | (exact absurd h Bool.false_ne_true) | skip
    cases o <;> first | (exact absurd h Bool.false_ne_true) | skip
    cases f <;> first | (exact absurd h Bool.false_ne_true) | skip
    simp only [chkS, Bool.and_eq_true, decide_eq_true_eq] at h
    obtain ⟨⟨⟨⟨⟨h1, h2⟩, h3⟩, h4⟩, h5⟩, h6⟩ := h
    exact s_try ok h1 h2 h3 h4 (fun ok' => sSs body ok' h5) (fun ok' => sSs suite ok' h6)
theorem sSs : ∀ (c : Ss) {M : Gm} {X : Cx} {k : Nat} {H0 : Hp} {WT : Sl → XT} {n : Nm} {st : List Stmt}, Ok X S M k H0 WT n → chkSs c n st = true → PSs X st (upS S X.K H0 WT (wpSs c M))
  | .nil, _, _, _, _, _, _, st, ok, h => by
    cases st <;> first | (exact absurd h Bool.false_ne_true) | exact s_nil
  | .cons s r, _, _, _, _, _, _, st, ok, h => by
    cases st <;> first | (exact absurd h Bool.false_ne_true) | skip
    simp only [chkSs, Bool.and_eq_true] at h
    exact s_cons (sS s ok h.1) (sSs r ok h.2)
end
end
end SK

set_option Elab.async false
set_option linter.all false
set_option maxRecDepth 100000
/-! SK11: defs, modules, the law's end. -/
namespace SK
open PySem PySem.Spec PyProof.Rows L2
section
variable {P : Program} {w : World} {K : PySem.W.Frag} {mg : Str → Option Value} {base : Heap} {S : Stc} {M : Gm} {k : Nat} {use blt : List String}
/-- the frame's slots at the entry -/
def slots0 (n : Nat) (ts : List T) : Sl := ts.map some ++ List.replicate (n - ts.length) none
theorem rs_start {H : Hp} : ∀ {ts : List T} {vs : List V} (N : List Str), RTs K H ts vs → RS K H (slots0 N.length ts) (L2.start N vs) := by
  intro ts vs N h
  unfold slots0 L2.start
  have hl := h.length
  refine ⟨by simp [hl], fun i t e => ?_⟩
  by_cases hi : i < ts.length
  · rw [List.getElem?_append_left (by simpa using hi), List.getElem?_map] at e
    cases e1 : ts[i]? with
    | none => rw [e1] at e; cases e
    | some u =>
      rw [e1] at e
      cases e
      obtain ⟨v, h1, h2⟩ := h.get e1
      refine ⟨v, ?_, h2⟩
      rw [List.getElem?_append_left (by simpa [← hl] using hi), List.getElem?_map, h1]
      rfl
  · rw [List.getElem?_append_right (by simpa using Nat.le_of_not_lt hi), List.getElem?_replicate] at e
    split at e <;> cases e
theorem Room.units64 {k : Nat} {A : Around} (r : Room k A) : A.units + 64 < cLine := r.units
/-- THE RULE for a def -/
theorem fn_rule {x qual : Str} {st : Stmt} {f : Addr} {fd : FuncData} {N ps : List Str} {code : Ss} {sp : Pr} (F : Fun K x qual st f fd) (sc : FnScope N ps (defScope st))
    (hc : chkSs code ⟨N, defScope st, true, use, blt, false, false⟩ (defBody st) = true) (md : MdOk P w K mg base S M k use blt) (len : ∀ ts G Q X, sp ts G Q X → ts.length = ps.length)
    (hb : ∀ ts G Q X, sp ts G Q X → wpSs code M (slots0 N.length ts) G { nx := fun _ G' => Q .non G', rt := Q, ex := fun _ => X }) :
    FnOk P w K mg base (L2.CX P w) (k + 1) f fd ps (upSp S K sp) := by
  refine F.okX sc (fun vs H Q E h => ?_) (fun cdv A outer s H vs Q E hr h => ?_)
  · obtain ⟨ts, G, Q', X', rt, _, h, _⟩ := h
    rw [← rt.length]
    exact len _ _ _ _ h
  · obtain ⟨ts, G, Q', X', rt, sm, h, c, cx⟩ := h
    have tk : Takes (cxOf (L2.CX P w) P w K mg base N qual (defScope st) f cdv A outer s H E) (upX S K H fun _ => X') :=
      (takes_of rfl rfl rfl rfl).imp fun cls d σ H' ⟨ss, c, fs, G', a, er, wx⟩ => cx c fs G' cls d H' a.hx er a.sim wx
    have ok : Ok (cxOf (L2.CX P w) P w K mg base N qual (defScope st) f cdv A outer s H E) S M k H (fun _ => X') ⟨N, defScope st, true, use, blt, false, false⟩ :=
      ⟨rfl, rfl, sc.nd, fun _ => rfl, Room.units64 hr, fun _ => hr, tk, fun _ _ => rfl, fun _ => passes_of rfl, md, fun _ => rfl, fun _ => rfl, (fun z => by cases z), (fun z => by cases z), fun z => by cases z⟩
    refine ⟨_, sSs code ok hc, slots0 N.length ts, G, _, ⟨rs_start N rt, sm, HX.refl H⟩, ?_, hb ts G Q' X' h, ⟨fun ss G' σ H' hx a q => c .non G' .non H' hx (by unfold RT; rfl) a.sim q, c, fun _ _ _ _ _ _ z => z, fun _ _ _ _ _ _ z => z⟩⟩
    rfl
/-- .. for a def with generator expressions -/
theorem fn_ruleG {x qual : Str} {st : Stmt} {f : Addr} {fd : FuncData} {N ps : List Str} {code : Ss} {sp : Pr} {c Pt : Addr} (F : Fun K x qual st f fd) (hcode : fd.code = .ref c) (TB : GxR.TabB base mg c Pt) (hP : Pt ∈ S.tabs) (sc : FnScope N ps (defScope st))
    (hc : chkSs code ⟨N, defScope st, true, use, blt, false, true⟩ (defBody st) = true) (md : MdOk P w K mg base S M k use blt) (len : ∀ ts G Q X, sp ts G Q X → ts.length = ps.length)
    (hb : ∀ ts G Q X, sp ts G Q X → wpSs code M (slots0 N.length ts) G { nx := fun _ G' => Q .non G', rt := Q, ex := fun _ => X }) :
    FnOk P w K mg base (L2.CX P w) (k + 2) f fd ps (upSp S K sp) := by
  obtain ⟨oc, od, kV, doc, pm, an, cdv, ct, osl, rfl, lk, hcd⟩ := F.ex
  have hcode : cdv = .ref c := hcode
  subst hcode
  refine fn_of (k := k + 1) lk hcd sc (fun vs H Q E h => ?_) (fun A outer s H vs Q E hr h => ?_)
  · obtain ⟨ts, G, Q', X', rt, _, h, _⟩ := h
    rw [← rt.length]
    exact len _ _ _ _ h
  · obtain ⟨ts, G, Q', X', rt, sm, h, c', cx⟩ := h
    have tk : Takes (cxOf (L2.CX P w) P w K mg base N qual (defScope st) f (.ref c) A outer s H E) (upX S K H fun _ => X') :=
      (takes_of rfl rfl rfl rfl).imp fun cls d σ H' ⟨ss, c, fs, G', a, er, wx⟩ => cx c fs G' cls d H' a.hx er a.sim wx
    have ok : Ok (cxOf (L2.CX P w) P w K mg base N qual (defScope st) f (.ref c) A outer s H E) S M k H (fun _ => X') ⟨N, defScope st, true, use, blt, false, true⟩ :=
      ⟨rfl, rfl, sc.nd, fun _ => rfl, Room.units64 hr, fun _ => hr.mono (Nat.le_succ k), tk, fun _ _ => rfl, fun _ => passes_of rfl, md, fun _ => rfl, fun _ => rfl, fun _ _ => hr, fun _ => ⟨c, Pt, TB, rfl, hP⟩, fun z => by cases z⟩
    refine ⟨_, sSs code ok hc, slots0 N.length ts, G, _, ⟨rs_start N rt, sm, HX.refl H⟩, ?_, hb ts G Q' X' h, ⟨fun ss G' σ H' hx a q => c' .non G' .non H' hx (by unfold RT; rfl) a.sim q, c', fun _ _ _ _ _ _ z => z, fun _ _ _ _ _ _ z => z⟩⟩
    rfl

/-! ### a module by a list -/
/-- a def of the module keeps its promise -/
def Dn (P : Program) (w : World) (K : PySem.W.Frag) (mg : Str → Option Value) (base : Heap) (S : Stc) (k : Nat) (f : String) (sp : Pr) : Prop :=
  ∃ fa fd ps, FnOk P w K mg base (L2.CX P w) k fa fd ps (upSp S K sp) ∧ mg (Str.ofString f) = some (.ref fa) ∧ PySem.W.keepIn K (.ref fa) = true ∧ Binds K fd ps []
theorem Dn.mono {j : Nat} {f : String} {sp : Pr} (d : Dn P w K mg base S j f sp) (h : j ≤ k) : Dn P w K mg base S k f sp :=
  let ⟨fa, fd, ps, F, r⟩ := d
  ⟨fa, fd, ps, F.mono h, r⟩
def plainGm (l : List (String × Pr)) : Gm where
  fn := fun C f => if C = "" then l.lookup f else none
  cst := fun _ => none
  sub := fun _ _ => false
  xfs := fun _ => none
  fld := fun _ _ => false
def plainS : Stc := ⟨fun _ => none, fun _ => none, fun _ _ => false, []⟩
theorem look_mem {α : Type} : ∀ {l : List (String × α)} {f : String} {a : α}, l.lookup f = some a → (f, a) ∈ l
  | [], _, _, h => by cases h
  | (g, b) :: r, f, a, h => by
    rw [List.lookup_cons] at h
    by_cases e : f = g
    · subst e
      simp at h
      subst h
      exact List.mem_cons_self
    · have e' : (f == g) = false := by simpa using e
      rw [e'] at h
      exact List.mem_cons_of_mem _ (look_mem h)
theorem plain_md {l : List (String × Pr)} (hi : l.lookup "__init__" = none) (h : ∀ p ∈ l, Dn P w K mg base plainS k p.1 p.2) (hb : ∀ x ∈ blt, mg (Str.ofString x) = none) : MdOk P w K mg base plainS (plainGm l) k use blt where
  fn := fun f sp e => by
    have e' : l.lookup f = some sp := by simpa [plainGm] using e
    exact h _ (look_mem e')
  me := fun C m sp e ca z => by cases z
  cr := fun C sp e => by
    by_cases hC : C = ""
    · subst hC
      have e' : l.lookup "__init__" = some sp := by simpa [plainGm] using e
      rw [hi] at e'
      cases e'
    · simp [plainGm, hC] at e
  cst := fun x t _ e => by cases e
  blt := hb
  fld := fun C f e => by cases e
  xc := fun C e => by cases e
  xn := fun C e => by cases e
  xi := fun c ca z => by cases z
  cls := fun C ca z => by cases z
  fv := fun p sp e => by cases e
/-- what a def's facts give -/
theorem Dn.of {x qual : Str} {f : String} {st : Stmt} {fa : Addr} {fd : FuncData} {N ps : List Str} {code : Ss} {sp : Pr} (F : Fun K x qual st fa fd) (hm : mg (Str.ofString f) = some (.ref fa)) (hb : Binds K fd ps []) (sc : FnScope N ps (defScope st))
    (hc : chkSs code ⟨N, defScope st, true, use, blt, false, false⟩ (defBody st) = true) (md : MdOk P w K mg base S M k use blt) (len : ∀ ts G Q X, sp ts G Q X → ts.length = ps.length)
    (hw : ∀ ts G Q X, sp ts G Q X → wpSs code M (slots0 N.length ts) G { nx := fun _ G' => Q .non G', rt := Q, ex := fun _ => X }) : Dn P w K mg base S (k + 1) f sp :=
  ⟨fa, fd, ps, fn_rule F sc hc md len hw, hm, F.kp, hb⟩
theorem Dn.ofG {x qual : Str} {f : String} {st : Stmt} {fa : Addr} {fd : FuncData} {N ps : List Str} {code : Ss} {sp : Pr} {c Pt : Addr} (F : Fun K x qual st fa fd) (hcode : fd.code = .ref c) (TB : GxR.TabB base mg c Pt) (hP : Pt ∈ S.tabs) (hm : mg (Str.ofString f) = some (.ref fa)) (hb : Binds K fd ps []) (sc : FnScope N ps (defScope st))
    (hc : chkSs code ⟨N, defScope st, true, use, blt, false, true⟩ (defBody st) = true) (md : MdOk P w K mg base S M k use blt) (len : ∀ ts G Q X, sp ts G Q X → ts.length = ps.length)
    (hw : ∀ ts G Q X, sp ts G Q X → wpSs code M (slots0 N.length ts) G { nx := fun _ G' => Q .non G', rt := Q, ex := fun _ => X }) : Dn P w K mg base S (k + 2) f sp :=
  ⟨fa, fd, ps, fn_ruleG F hcode TB hP sc hc md len hw, hm, F.kp, hb⟩
end
/-! ### the law's end -/
/-- law's promise: for every script up to n, True comes out, nothing is let out -/
def LawPr (n : Nat) : Pr := fun ts G Q X => ∃ ns : List Int, ts = [.frl (ns.map T.int)] ∧ ns.length ≤ n ∧ (∀ a, G a = none) ∧ ∀ G', Q (.bl true) G'
theorem law_sp {S : Stc} {K : PySem.W.Frag} {n : Nat} (hS : S.tabs = []) {H : Hp} {a : Addr} {ns : List Int} (hl : ns.length ≤ n) (o : Only H) (hs : SqL K H a (ns.map V.int)) :
    upSp S K (LawPr n) [.ref a] H (fun v _ => v = .bl true) fun _ _ _ => False := by
  refine ⟨[.frl (ns.map T.int)], fun _ => none, fun t _ => t = .bl true, fun _ _ _ => False, ?_, ⟨fun a o e => absurd e (by simp), fun p hp => absurd hp (by simp [hS])⟩, ⟨ns, rfl, hl, fun _ => rfl, fun _ => rfl⟩, fun t G' v H' _ r _ e => ?_, fun _ _ _ _ _ _ _ _ _ z => z⟩
  · refine RTs.one ?_
    unfold RT
    refine ⟨a, ns.map V.int, rfl, ?_, RTs.ints ns⟩
    rcases hs with (h | h) | h
    · rcases o a with z | ⟨u, xs, z⟩
      · rw [h] at z
        cases z
      · rw [h] at z
        cases z
    · exact .inl h
    · exact .inr h
  · subst e
    unfold RT at r
    exact r
theorem law_spT {S : Stc} {K : PySem.W.Frag} {n : Nat} {H : Hp} {a : Addr} {ns : List Int} (hl : ns.length ≤ n) (hT : ∀ p ∈ S.tabs, GxR.TabG H p) (hs : FL K H a (ns.map V.int)) :
    upSp S K (LawPr n) [.ref a] H (fun v _ => v = .bl true) fun _ _ _ => False := by
  refine ⟨[.frl (ns.map T.int)], fun _ => none, fun t _ => t = .bl true, fun _ _ _ => False, ?_, ⟨fun a o e => absurd e (by simp), hT⟩, ⟨ns, rfl, hl, fun _ => rfl, fun _ => rfl⟩, fun t G' v H' _ r _ e => ?_, fun _ _ _ _ _ _ _ _ _ z => z⟩
  · refine RTs.one ?_
    unfold RT
    exact ⟨a, ns.map V.int, rfl, hs, RTs.ints ns⟩
  · subst e
    unfold RT at r
    exact r
/-- a promise, or it with a tracked list taken as frozen -/
def frzSp (sp : Sp) : Sp := fun vs H Q E => sp vs H Q E ∨ ∃ a xs, vs = [.ref a] ∧ H a = some (.lst xs) ∧ (∀ c d H', ¬ E c d H') ∧ ∀ o, sp vs (upd H a (.frz o (.lst xs))) Q E
theorem fn_frz {P : Program} {w : World} {K : PySem.W.Frag} {mg : Str → Option Value} {base : Heap} {k : Nat} {fa : Addr} {fd : FuncData} {ps : List Str} {sp : Sp} (F : FnOk P w K mg base (L2.CX P w) k fa fd ps sp) : FnOk P w K mg base (L2.CX P w) k fa fd ps (frzSp sp) := by
  refine ⟨fun vs H Q E h => ?_, fun A outer s H args us vs Q E hr e0 hb r h => ?_⟩
  · rcases h with h | ⟨a, xs, e1, e2, e3, h⟩
    · exact F.len _ _ _ _ h
    · exact F.len _ _ _ _ (h (PySem.W.instObj 0 0))
  · rcases h with h | ⟨a, xs, e1, e2, e3, h⟩
    · exact F.run A outer s H args us vs Q E hr e0 hb r h
    · have ha := e0.hok a _ e2
      obtain ⟨z, its, n, rv, eo⟩ := id ha
      have H1 : ∀ b, b ≠ a → upd H a (.frz { cls := .type "list", data := .seq its.toArray n } (.lst xs)) b = H b := fun b hb => upd_ne hb
      have hn : ∀ b, H b = none → b ≠ a := fun b e q => by rw [q, e2] at e; cases e
      have stay : ∀ b o, ObjOk P w H s.heap b o → ObjOk P w (upd H a (.frz { cls := .type "list", data := .seq its.toArray n } (.lst xs))) s.heap b o := fun b o q =>
        q.stay (fun _ _ _ e => e) (fun d e => by rw [H1 d (fun z => by rw [z, e2] at e; cases e)]; exact e) (fun d xs e => by rw [H1 d (fun z => by rw [z, e2] at e; cases e)]; exact e)
      have e1' : Env0 P w K mg base A outer s (upd H a (.frz { cls := .type "list", data := .seq its.toArray n } (.lst xs))) :=
        ⟨e0.frames, e0.mod, fun b o e => ⟨(e0.bs b o e).1, by rw [H1 b (hn b (e0.bs b o e).2)]; exact (e0.bs b o e).2⟩, e0.bsz, e0.funs, fun b hb => by rw [H1 b (hn b (e0.frf b hb))]; exact e0.frf b hb, fun b o e => by
          by_cases hb : b = a
          · subst hb
            rw [upd_same] at e
            cases e
            exact ⟨eo, stay _ _ ha⟩
          · rw [H1 b hb] at e
            exact stay _ _ (e0.hok b o e), e0.bare⟩
      refine codeAny_mono (F.run A outer s _ args us vs Q E hr e1' hb r (h _)) fun rr s' hq => ?_
      cases rr with
      | error e =>
        obtain ⟨_, _, H', c, d, _, _, _, _, _, _, _, q⟩ := hq
        exact absurd q (e3 c d H')
      | ok fl =>
        cases fl with
        | ret u =>
          obtain ⟨v, H', q1, q2, q3, q4, q5, q6⟩ := hq
          refine ⟨v, H', q1, q2, ⟨fun b o e n => q3.keep b o e (by rw [H1 b (hn b n)]; exact n), fun b o e n => q3.slot b o e (by rw [H1 b (hn b n)]; exact n), fun b o e n => q3.free b o e (by rw [H1 b (hn b n)]; exact n), q3.there, fun b xs e => q3.tups b xs (by rw [H1 b (fun z => by rw [z, e2] at e; cases e)]; exact e), fun b o u e => q3.frzs b o u (by rw [H1 b (fun z => by rw [z, e2] at e; cases e)]; exact e), fun b ps e => q3.tbls b ps (by rw [H1 b (fun z => by rw [z, e2] at e; cases e)]; exact e)⟩, q4, q5, q6⟩
        | next => exact hq
        | brk => exact hq
        | cont => exact hq
theorem law_spF {S : Stc} {K : PySem.W.Frag} {n : Nat} {H : Hp} {a : Addr} {ns : List Int} (hl : ns.length ≤ n) (hT : ∀ p ∈ S.tabs, GxR.TabG H p) (hs : SqL K H a (ns.map V.int)) :
    frzSp (upSp S K (LawPr n)) [.ref a] H (fun v _ => v = .bl true) fun _ _ _ => False := by
  rcases hs with (h | h) | h
  · refine .inr ⟨a, _, rfl, h, fun _ _ _ z => z, fun o => law_spT hl (fun p hp => ?_) (.inl ⟨o, upd_same⟩)⟩
    obtain ⟨q, e1, e2⟩ := hT p hp
    exact ⟨q, by rw [upd_ne (fun z => by rw [z, h] at e1; cases e1)]; exact e1, e2⟩
  · exact .inl (law_spT hl hT (.inl h))
  · exact .inl (law_spT hl hT (.inr h))
theorem cx_no {w : World} {P : Program} {H : Hp} {s : Shared} {e : Value} {s' : Shared} (h : L2.CX P w [] H s (fun _ _ _ => False) e s') : False := by
  obtain ⟨_, _, _, _, _, _, _, _, _, _, _, _, z⟩ := h
  exact z
end SK

set_option Elab.async false
set_option linter.all false
set_option maxRecDepth 100000
/-! SK12: the wp by rewriting. -/
namespace SK
open PySem PySem.Spec PyProof.Rows L2
/-- a thing that rewriting leaves as it is -/
inductive Frz {α : Sort u} (a : α) : Type
  | mk
def KB (P : Prop) (f : Frz P := .mk) : Prop := P
theorem KB.of {P : Prop} {f : Frz P} (h : P) : KB P f := h
theorem KBo {P : Prop} {f : Frz P} : KB P f = P := rfl
/-- both ways -/
def cnd (b : Bool) (A B : Prop) (f : Frz A := .mk) (g : Frz B := .mk) : Prop := if b = true then A else B
def PrB (sp : Pr) (ts : List T) (G : Gp) (Q : QT) (X : XT) (f : Frz Q := .mk) : Prop := sp ts G Q X
theorem PrB.of {sp : Pr} {ts : List T} {G : Gp} {Q : QT} {X : XT} {f : Frz Q} (h : sp ts G Q X) : PrB sp ts G Q X f := h
def forB (M : Gm) (st : Gp → Prop) (g : Tg) (body : Ss) (D : En) (xs : List T) (ss : Sl) (G : Gp) (f1 : Frz st := .mk) (f2 : Frz body := .mk) (f : Frz D := .mk) : Prop := forW st g (fun s2 G2 D2 => wpSs body M s2 G2 D2) D xs ss G
def lcB (M : Gm) (st : Gp → Prop) (g : Tg) (own : List Nat) (cond elt : E) (A : Addr) (xs : List T) (ss : Sl) (G : Gp) (Q : QT) (f : Frz Q := .mk) (f1 : Frz st := .mk) : Prop :=
  lcW st g own (fun s1 G2 Q2 => wpC M cond s1 G2 (fun _ _ _ => False) Q2) (fun s1 G2 Q2 => wpE M elt s1 G2 (fun _ _ _ => False) Q2) A ss Q xs G
def whlB (M : Gm) (c : E) (body : Ss) (D : En) (ss : Sl) (G : Gp) (f : Frz D := .mk) : Prop := whlW (fun s2 G2 X Q => wpE M c s2 G2 X Q) (fun s2 G2 D2 => wpSs body M s2 G2 D2) D ss G
def asB (x : T) (K : Bool → Prop) : Prop := ∃ b, x = .bl b ∧ K b
def asI (x : T) (K : Int → Prop) : Prop := ∃ i, x = .int i ∧ K i
def asT (x : T) (K : List T → Prop) : Prop := ∃ i, x = .tup i ∧ K i
def asS (x : T) (K : String → Prop) : Prop := ∃ i, x = .str i ∧ K i
def asR (x : T) (K : Addr → Prop) : Prop := ∃ i, x = .ref i ∧ K i
@[simp ↓] theorem asB1 {b : Bool} {K : Bool → Prop} : asB (.bl b) K = K b := by simp [asB]
@[simp ↓] theorem asI1 {b : Int} {K : Int → Prop} : asI (.int b) K = K b := by simp [asI]
@[simp ↓] theorem asT1 {b : List T} {K : List T → Prop} : asT (.tup b) K = K b := by simp [asT]
@[simp ↓] theorem asS1 {b : String} {K : String → Prop} : asS (.str b) K = K b := by simp [asS]
@[simp ↓] theorem asR1 {b : Addr} {K : Addr → Prop} : asR (.ref b) K = K b := by simp [asR]
theorem cnd_t {A B : Prop} {f : Frz A} {g : Frz B} : cnd true A B f g = A := if_pos rfl
theorem cnd_f {A B : Prop} {f : Frz A} {g : Frz B} : cnd false A B f g = B := if_neg Bool.false_ne_true
theorem cnd_dec {p : Prop} [Decidable p] {A B : Prop} {f : Frz A} {g : Frz B} (h1 : p → A) (h2 : ¬ p → B) : cnd (decide p) A B f g := by
  unfold cnd
  by_cases h : p
  · rw [if_pos (decide_eq_true h)]; exact h1 h
  · rw [if_neg (by simpa using h)]; exact h2 h
theorem cnd_of {b : Bool} {A B : Prop} {f : Frz A} {g : Frz B} (h1 : b = true → A) (h2 : b = false → B) : cnd b A B f g := by
  cases b
  · exact h2 rfl
  · exact h1 rfl

@[simp] theorem cndT {A B : Prop} {f : Frz A} {g : Frz B} : cnd true A B f g = A := cnd_t
@[simp] theorem cndF {A B : Prop} {f : Frz A} {g : Frz B} : cnd false A B f g = B := cnd_f
section
variable {M : Gm} {ss : Sl} {G : Gp} {D : En} {X : XT} {Q : QT} {QL : List T → Gp → Prop} {QO : Option Int → Gp → Prop} {R : Sq → Gp → Prop}
theorem asiEq {M : Gm} {ss : Sl} {G : Gp} {D : En} {o i e : E} : wpS (.asi o i e) M ss G D = wpE M e ss G (D.ex ss) fun x G1 => wpE M o ss G1 (D.ex ss) fun y G2 => wpE M i ss G2 (D.ex ss) fun z G3 => asR y fun a => asI z fun k => ∃ xs, G3 a = some (.lst xs) ∧ ∃ j, ixN xs.length k = some j ∧ KB (D.nx ss (gu G3 a (.lst (xs.set j x)))) := by
  show (wpE M e ss G (D.ex ss) fun x G1 => wpE M o ss G1 (D.ex ss) fun y G2 => wpE M i ss G2 (D.ex ss) fun z G3 => ∃ a xs k j, y = .ref a ∧ z = .int k ∧ G3 a = some (.lst xs) ∧ ixN xs.length k = some j ∧ D.nx ss (gu G3 a (.lst (xs.set j x)))) = _
  congr; funext x G1; congr; funext y G2; congr; funext z G3
  exact propext ⟨fun ⟨a, xs, k, j, h1, h2, h3, h4, h5⟩ => ⟨a, h1, k, h2, xs, h3, j, h4, h5⟩, fun ⟨a, h1, k, h2, xs, h3, j, h4, h5⟩ => ⟨a, xs, k, j, h1, h2, h3, h4, h5⟩⟩
theorem asdEq {M : Gm} {ss : Sl} {G : Gp} {D : En} {o i e : E} : wpS (.asd o i e) M ss G D = wpE M e ss G (D.ex ss) fun x G1 => wpE M o ss G1 (D.ex ss) fun y G2 => wpE M i ss G2 (D.ex ss) fun z G3 => asR y fun a => ∃ k, keyT z = some k ∧ ∃ kvs, G3 a = some (.dct kvs) ∧ kvs.length < line ∧ KB (D.nx ss (gu G3 a (.dct (dPut kvs k x)))) := by
  show (wpE M e ss G (D.ex ss) fun x G1 => wpE M o ss G1 (D.ex ss) fun y G2 => wpE M i ss G2 (D.ex ss) fun z G3 => ∃ a kvs k, y = .ref a ∧ keyT z = some k ∧ G3 a = some (.dct kvs) ∧ kvs.length < line ∧ D.nx ss (gu G3 a (.dct (dPut kvs k x)))) = _
  congr; funext x G1; congr; funext y G2; congr; funext z G3
  exact propext ⟨fun ⟨a, kvs, k, h1, h2, h3, h4, h5⟩ => ⟨a, h1, k, h2, kvs, h3, h4, h5⟩, fun ⟨a, h1, k, h2, kvs, h3, h4, h5⟩ => ⟨a, kvs, k, h1, h2, h3, h4, h5⟩⟩
theorem dxEq {a : Addr} {y : T} {G : Gp} {Q : QT} : dxW (.ref a) y G Q = ∃ k, keyT y = some k ∧ ∃ kvs, G a = some (.dct kvs) ∧ ∃ v, dGet kvs k = some v ∧ KB (Q v G) :=
  propext ⟨fun ⟨kvs, k, v, h1, h2, h3, h4⟩ => ⟨k, h2, kvs, h1, v, h3, h4⟩, fun ⟨k, h2, kvs, h1, v, h3, h4⟩ => ⟨kvs, k, v, h1, h2, h3, h4⟩⟩
theorem getEq {a : Addr} {x y : T} {G : Gp} {Q : QT} : bmW .get (.ref a) [x, y] G Q = ∃ k, keyT x = some k ∧ ∃ kvs, G a = some (.dct kvs) ∧ KB (Q ((dGet kvs k).getD y) G) :=
  propext ⟨fun ⟨kvs, k, h1, h2, h4⟩ => ⟨k, h2, kvs, h1, h4⟩, fun ⟨k, h2, kvs, h1, h4⟩ => ⟨kvs, k, h1, h2, h4⟩⟩
@[simp ↓] theorem Wnil  : wpSs .nil M ss G D = D.nx ss G := propext Iff.rfl
@[simp ↓] theorem Wcons {s : SK.S} {r : Ss} : wpSs (.cons s r) M ss G D = wpS s M ss G ⟨fun s1 G1 => wpSs r M s1 G1 D, D.rt, D.bk, D.ct, D.ex⟩ := propext Iff.rfl
@[simp ↓] theorem Wasg {i : Nat} {e : E} : wpS (.asg i e) M ss G D = wpE M e ss G (D.ex ss) fun x G1 => D.nx (ss.set i (some x)) G1 := propext Iff.rfl
@[simp ↓] theorem Wast {is : List Nat} {e : E} : wpS (.ast is e) M ss G D = wpE M e ss G (D.ex ss) fun x G1 => tgW (.tp is) x ss fun s1 => D.nx s1 G1 := propext Iff.rfl
@[simp ↓] theorem Wastl {is : List Nat} {e : E} : wpS (.astl is e) M ss G D = wpE M e ss G (D.ex ss) fun x G1 => asR x fun a => ∃ xs, G1 a = some (.lst xs) ∧ tgW (.tp is) (.tup xs) ss fun s1 => KB (D.nx s1 G1) := by simp [wpS, asR, KB]
@[simp ↓] theorem Wasf {o e : E} {f : String} : wpS (.asf o f e) M ss G D = wpE M e ss G (D.ex ss) fun x G1 => wpE M o ss G1 (D.ex ss) fun y G2 => asR y fun a => ∃ C fs, G2 a = some (.ins C fs) ∧ fs.length < 1000 ∧ M.fld C f = true ∧ KB (D.nx ss (gu G2 a (.ins C (fPut f x fs)))) := by simp [wpS, asR, KB]
@[simp ↓] theorem Wasi {o i e : E} : wpS (.asi o i e) M ss G D = wpE M e ss G (D.ex ss) fun x G1 => wpE M o ss G1 (D.ex ss) fun y G2 => wpE M i ss G2 (D.ex ss) fun z G3 => asR y fun a => asI z fun k => ∃ xs, G3 a = some (.lst xs) ∧ ∃ j, ixN xs.length k = some j ∧ KB (D.nx ss (gu G3 a (.lst (xs.set j x)))) := asiEq
@[simp ↓] theorem Wasd {o i e : E} : wpS (.asd o i e) M ss G D = wpE M e ss G (D.ex ss) fun x G1 => wpE M o ss G1 (D.ex ss) fun y G2 => wpE M i ss G2 (D.ex ss) fun z G3 => asR y fun a => ∃ k, keyT z = some k ∧ ∃ kvs, G3 a = some (.dct kvs) ∧ kvs.length < line ∧ KB (D.nx ss (gu G3 a (.dct (dPut kvs k x)))) := asdEq
@[simp ↓] theorem Wex {e : E} : wpS (.ex e) M ss G D = wpE M e ss G (D.ex ss) fun _ G1 => D.nx ss G1 := propext Iff.rfl
@[simp ↓] theorem Wret {e : E} : wpS (.ret e) M ss G D = wpE M e ss G (D.ex ss) D.rt := propext Iff.rfl
@[simp ↓] theorem Wretn  : wpS .retn M ss G D = D.rt .non G := propext Iff.rfl
theorem Wraise {C : String} (h : M.xfs C = some []) : wpS (.raise C .nil) M ss G D = D.ex ss C [] G := by
  show (∃ fs, M.xfs C = some fs ∧ fs.length = 0 ∧ D.ex ss C (fs.zip []) G) = _
  rw [h]
  refine propext ⟨fun ⟨fs, e1, _, e3⟩ => ?_, fun z => ⟨[], rfl, rfl, z⟩⟩
  cases e1
  exact e3
def tryX (M : Gm) (D : En) (C : String) (i : Nat) (suite : Ss) (f : Frz D := .mk) (f2 : Frz M := .mk) (f3 : Frz suite := .mk) : Sl → XT := fun s1 c fs G1 => (M.sub c C = true → ∀ p, G1 p = none → wpSs suite { M with xc := some (c, fs, p) } (s1.set i (some (.ref p))) G1 { nx := fun s2 G2 => D.nx (s2.set i none) G2, rt := D.rt, bk := fun s2 G2 => D.bk (s2.set i none) G2, ct := fun s2 G2 => D.ct (s2.set i none) G2, ex := fun _ _ _ _ => False }) ∧ (M.sub c C = false → D.ex s1 c fs G1)
theorem tryX_of {C : String} {i : Nat} {suite : Ss} {s1 : Sl} {c : String} {fs : List (String × T)} {G1 : Gp} {f f2 f3} (h : M.sub c C = true) (w : ∀ p, G1 p = none → wpSs suite { M with xc := some (c, fs, p) } (s1.set i (some (.ref p))) G1 { nx := fun s2 G2 => D.nx (s2.set i none) G2, rt := D.rt, bk := fun s2 G2 => D.bk (s2.set i none) G2, ct := fun s2 G2 => D.ct (s2.set i none) G2, ex := fun _ _ _ _ => False }) : tryX M D C i suite f f2 f3 s1 c fs G1 := ⟨fun _ => w, fun z => by rw [h] at z; cases z⟩
theorem Wisx {a : E} {C : String} {c : String} {p : Addr} (h : M.xc = some (c, [], p)) (hC : M.xnm C = true) : wpE M (.isx a C) ss G X Q = wpE M a ss G X fun x G1 => x = .ref p ∧ KB (Q (.bl (M.sub c C)) G1) := by
  show (∃ c p, M.xc = some (c, [], p) ∧ M.xnm C = true ∧ wpE M a ss G X fun x G1 => x = .ref p ∧ Q (.bl (M.sub c C)) G1) = _
  rw [h]
  refine propext ⟨fun ⟨c', p', e1, _, e3⟩ => ?_, fun z => ⟨c, p, rfl, hC, z⟩⟩
  cases e1
  exact e3
@[simp ↓] theorem Wtry {body suite : Ss} {C : String} {i : Nat} : wpS (.try_ body C i suite) M ss G D = (M.xnm C = true ∧ wpSs body M ss G ⟨D.nx, D.rt, D.bk, D.ct, tryX M D C i suite⟩) := propext Iff.rfl
@[simp ↓] theorem Wpass  : wpS .pass M ss G D = D.nx ss G := propext Iff.rfl
@[simp ↓] theorem Wite {c : E} {a b : Ss} : wpS (.ite c a b) M ss G D = wpE M c ss G (D.ex ss) fun x G1 => asB x fun k => cnd k (wpSs a M ss G1 D) (wpSs b M ss G1 D) := propext Iff.rfl
@[simp ↓] theorem Wfor {g : Tg} {it : It} {body : Ss} : wpS (.for_ g it body) M ss G D = wpI M it ss G (D.ex ss) fun J G1 => forB M J.stay g body D J.items ss G1 := propext Iff.rfl
@[simp ↓] theorem Wwhl {c : E} {body : Ss} : wpS (.whl c body) M ss G D = whlB M c body D ss G := propext Iff.rfl
@[simp ↓] theorem Wvar0 {t : T} {r : Sl} : wpE M (.var 0) (some t :: r) G X Q = Q t G := by simp [wpE]
@[simp ↓] theorem Wovar0 {t : T} {r : Sl} : wpO M (.var 0) (some t :: r) G X QO = asI t fun j => QO (some j) G := by simp [wpO, asI]
@[simp ↓] theorem Wcvar0 {t : T} {r : Sl} : wpC M (.var 0) (some t :: r) G X Q = Q t G := by simp [wpC]
@[simp ↓] theorem Sset0 {y z : Option T} {r : Sl} : List.set (y :: r) 0 z = z :: r := rfl
@[simp ↓] theorem Wvar1 {t : T} {r : Sl} {x0 : Option T} : wpE M (.var 1) (x0 :: some t :: r) G X Q = Q t G := by simp [wpE]
@[simp ↓] theorem Wovar1 {t : T} {r : Sl} {x0 : Option T} : wpO M (.var 1) (x0 :: some t :: r) G X QO = asI t fun j => QO (some j) G := by simp [wpO, asI]
@[simp ↓] theorem Wcvar1 {t : T} {r : Sl} {x0 : Option T} : wpC M (.var 1) (x0 :: some t :: r) G X Q = Q t G := by simp [wpC]
@[simp ↓] theorem Sset1 {y z : Option T} {r : Sl} {x0 : Option T} : List.set (x0 :: y :: r) 1 z = x0 :: z :: r := rfl
@[simp ↓] theorem Wvar2 {t : T} {r : Sl} {x0 x1 : Option T} : wpE M (.var 2) (x0 :: x1 :: some t :: r) G X Q = Q t G := by simp [wpE]
@[simp ↓] theorem Wovar2 {t : T} {r : Sl} {x0 x1 : Option T} : wpO M (.var 2) (x0 :: x1 :: some t :: r) G X QO = asI t fun j => QO (some j) G := by simp [wpO, asI]
@[simp ↓] theorem Wcvar2 {t : T} {r : Sl} {x0 x1 : Option T} : wpC M (.var 2) (x0 :: x1 :: some t :: r) G X Q = Q t G := by simp [wpC]
@[simp ↓] theorem Sset2 {y z : Option T} {r : Sl} {x0 x1 : Option T} : List.set (x0 :: x1 :: y :: r) 2 z = x0 :: x1 :: z :: r := rfl
@[simp ↓] theorem Wvar3 {t : T} {r : Sl} {x0 x1 x2 : Option T} : wpE M (.var 3) (x0 :: x1 :: x2 :: some t :: r) G X Q = Q t G := by simp [wpE]
@[simp ↓] theorem Wovar3 {t : T} {r : Sl} {x0 x1 x2 : Option T} : wpO M (.var 3) (x0 :: x1 :: x2 :: some t :: r) G X QO = asI t fun j => QO (some j) G := by simp [wpO, asI]
@[simp ↓] theorem Wcvar3 {t : T} {r : Sl} {x0 x1 x2 : Option T} : wpC M (.var 3) (x0 :: x1 :: x2 :: some t :: r) G X Q = Q t G := by simp [wpC]
@[simp ↓] theorem Sset3 {y z : Option T} {r : Sl} {x0 x1 x2 : Option T} : List.set (x0 :: x1 :: x2 :: y :: r) 3 z = x0 :: x1 :: x2 :: z :: r := rfl
@[simp ↓] theorem Wvar4 {t : T} {r : Sl} {x0 x1 x2 x3 : Option T} : wpE M (.var 4) (x0 :: x1 :: x2 :: x3 :: some t :: r) G X Q = Q t G := by simp [wpE]
@[simp ↓] theorem Wovar4 {t : T} {r : Sl} {x0 x1 x2 x3 : Option T} : wpO M (.var 4) (x0 :: x1 :: x2 :: x3 :: some t :: r) G X QO = asI t fun j => QO (some j) G := by simp [wpO, asI]
@[simp ↓] theorem Wcvar4 {t : T} {r : Sl} {x0 x1 x2 x3 : Option T} : wpC M (.var 4) (x0 :: x1 :: x2 :: x3 :: some t :: r) G X Q = Q t G := by simp [wpC]
@[simp ↓] theorem Sset4 {y z : Option T} {r : Sl} {x0 x1 x2 x3 : Option T} : List.set (x0 :: x1 :: x2 :: x3 :: y :: r) 4 z = x0 :: x1 :: x2 :: x3 :: z :: r := rfl
@[simp ↓] theorem Wvar5 {t : T} {r : Sl} {x0 x1 x2 x3 x4 : Option T} : wpE M (.var 5) (x0 :: x1 :: x2 :: x3 :: x4 :: some t :: r) G X Q = Q t G := by simp [wpE]
@[simp ↓] theorem Wovar5 {t : T} {r : Sl} {x0 x1 x2 x3 x4 : Option T} : wpO M (.var 5) (x0 :: x1 :: x2 :: x3 :: x4 :: some t :: r) G X QO = asI t fun j => QO (some j) G := by simp [wpO, asI]
@[simp ↓] theorem Wcvar5 {t : T} {r : Sl} {x0 x1 x2 x3 x4 : Option T} : wpC M (.var 5) (x0 :: x1 :: x2 :: x3 :: x4 :: some t :: r) G X Q = Q t G := by simp [wpC]
@[simp ↓] theorem Sset5 {y z : Option T} {r : Sl} {x0 x1 x2 x3 x4 : Option T} : List.set (x0 :: x1 :: x2 :: x3 :: x4 :: y :: r) 5 z = x0 :: x1 :: x2 :: x3 :: x4 :: z :: r := rfl
@[simp ↓] theorem Wvar6 {t : T} {r : Sl} {x0 x1 x2 x3 x4 x5 : Option T} : wpE M (.var 6) (x0 :: x1 :: x2 :: x3 :: x4 :: x5 :: some t :: r) G X Q = Q t G := by simp [wpE]
@[simp ↓] theorem Wovar6 {t : T} {r : Sl} {x0 x1 x2 x3 x4 x5 : Option T} : wpO M (.var 6) (x0 :: x1 :: x2 :: x3 :: x4 :: x5 :: some t :: r) G X QO = asI t fun j => QO (some j) G := by simp [wpO, asI]
@[simp ↓] theorem Wcvar6 {t : T} {r : Sl} {x0 x1 x2 x3 x4 x5 : Option T} : wpC M (.var 6) (x0 :: x1 :: x2 :: x3 :: x4 :: x5 :: some t :: r) G X Q = Q t G := by simp [wpC]
@[simp ↓] theorem Sset6 {y z : Option T} {r : Sl} {x0 x1 x2 x3 x4 x5 : Option T} : List.set (x0 :: x1 :: x2 :: x3 :: x4 :: x5 :: y :: r) 6 z = x0 :: x1 :: x2 :: x3 :: x4 :: x5 :: z :: r := rfl
@[simp ↓] theorem Wvar7 {t : T} {r : Sl} {x0 x1 x2 x3 x4 x5 x6 : Option T} : wpE M (.var 7) (x0 :: x1 :: x2 :: x3 :: x4 :: x5 :: x6 :: some t :: r) G X Q = Q t G := by simp [wpE]
@[simp ↓] theorem Wovar7 {t : T} {r : Sl} {x0 x1 x2 x3 x4 x5 x6 : Option T} : wpO M (.var 7) (x0 :: x1 :: x2 :: x3 :: x4 :: x5 :: x6 :: some t :: r) G X QO = asI t fun j => QO (some j) G := by simp [wpO, asI]
@[simp ↓] theorem Wcvar7 {t : T} {r : Sl} {x0 x1 x2 x3 x4 x5 x6 : Option T} : wpC M (.var 7) (x0 :: x1 :: x2 :: x3 :: x4 :: x5 :: x6 :: some t :: r) G X Q = Q t G := by simp [wpC]
@[simp ↓] theorem Sset7 {y z : Option T} {r : Sl} {x0 x1 x2 x3 x4 x5 x6 : Option T} : List.set (x0 :: x1 :: x2 :: x3 :: x4 :: x5 :: x6 :: y :: r) 7 z = x0 :: x1 :: x2 :: x3 :: x4 :: x5 :: x6 :: z :: r := rfl
@[simp ↓] theorem Wvar8 {t : T} {r : Sl} {x0 x1 x2 x3 x4 x5 x6 x7 : Option T} : wpE M (.var 8) (x0 :: x1 :: x2 :: x3 :: x4 :: x5 :: x6 :: x7 :: some t :: r) G X Q = Q t G := by simp [wpE]
@[simp ↓] theorem Wovar8 {t : T} {r : Sl} {x0 x1 x2 x3 x4 x5 x6 x7 : Option T} : wpO M (.var 8) (x0 :: x1 :: x2 :: x3 :: x4 :: x5 :: x6 :: x7 :: some t :: r) G X QO = asI t fun j => QO (some j) G := by simp [wpO, asI]
@[simp ↓] theorem Wcvar8 {t : T} {r : Sl} {x0 x1 x2 x3 x4 x5 x6 x7 : Option T} : wpC M (.var 8) (x0 :: x1 :: x2 :: x3 :: x4 :: x5 :: x6 :: x7 :: some t :: r) G X Q = Q t G := by simp [wpC]
@[simp ↓] theorem Sset8 {y z : Option T} {r : Sl} {x0 x1 x2 x3 x4 x5 x6 x7 : Option T} : List.set (x0 :: x1 :: x2 :: x3 :: x4 :: x5 :: x6 :: x7 :: y :: r) 8 z = x0 :: x1 :: x2 :: x3 :: x4 :: x5 :: x6 :: x7 :: z :: r := rfl
@[simp ↓] theorem Wvar9 {t : T} {r : Sl} {x0 x1 x2 x3 x4 x5 x6 x7 x8 : Option T} : wpE M (.var 9) (x0 :: x1 :: x2 :: x3 :: x4 :: x5 :: x6 :: x7 :: x8 :: some t :: r) G X Q = Q t G := by simp [wpE]
@[simp ↓] theorem Wovar9 {t : T} {r : Sl} {x0 x1 x2 x3 x4 x5 x6 x7 x8 : Option T} : wpO M (.var 9) (x0 :: x1 :: x2 :: x3 :: x4 :: x5 :: x6 :: x7 :: x8 :: some t :: r) G X QO = asI t fun j => QO (some j) G := by simp [wpO, asI]
@[simp ↓] theorem Wcvar9 {t : T} {r : Sl} {x0 x1 x2 x3 x4 x5 x6 x7 x8 : Option T} : wpC M (.var 9) (x0 :: x1 :: x2 :: x3 :: x4 :: x5 :: x6 :: x7 :: x8 :: some t :: r) G X Q = Q t G := by simp [wpC]
@[simp ↓] theorem Sset9 {y z : Option T} {r : Sl} {x0 x1 x2 x3 x4 x5 x6 x7 x8 : Option T} : List.set (x0 :: x1 :: x2 :: x3 :: x4 :: x5 :: x6 :: x7 :: x8 :: y :: r) 9 z = x0 :: x1 :: x2 :: x3 :: x4 :: x5 :: x6 :: x7 :: x8 :: z :: r := rfl
@[simp ↓] theorem Wvar10 {t : T} {r : Sl} {x0 x1 x2 x3 x4 x5 x6 x7 x8 x9 : Option T} : wpE M (.var 10) (x0 :: x1 :: x2 :: x3 :: x4 :: x5 :: x6 :: x7 :: x8 :: x9 :: some t :: r) G X Q = Q t G := by simp [wpE]
@[simp ↓] theorem Wovar10 {t : T} {r : Sl} {x0 x1 x2 x3 x4 x5 x6 x7 x8 x9 : Option T} : wpO M (.var 10) (x0 :: x1 :: x2 :: x3 :: x4 :: x5 :: x6 :: x7 :: x8 :: x9 :: some t :: r) G X QO = asI t fun j => QO (some j) G := by simp [wpO, asI]
@[simp ↓] theorem Wcvar10 {t : T} {r : Sl} {x0 x1 x2 x3 x4 x5 x6 x7 x8 x9 : Option T} : wpC M (.var 10) (x0 :: x1 :: x2 :: x3 :: x4 :: x5 :: x6 :: x7 :: x8 :: x9 :: some t :: r) G X Q = Q t G := by simp [wpC]
@[simp ↓] theorem Sset10 {y z : Option T} {r : Sl} {x0 x1 x2 x3 x4 x5 x6 x7 x8 x9 : Option T} : List.set (x0 :: x1 :: x2 :: x3 :: x4 :: x5 :: x6 :: x7 :: x8 :: x9 :: y :: r) 10 z = x0 :: x1 :: x2 :: x3 :: x4 :: x5 :: x6 :: x7 :: x8 :: x9 :: z :: r := rfl
@[simp ↓] theorem Wvar11 {t : T} {r : Sl} {x0 x1 x2 x3 x4 x5 x6 x7 x8 x9 x10 : Option T} : wpE M (.var 11) (x0 :: x1 :: x2 :: x3 :: x4 :: x5 :: x6 :: x7 :: x8 :: x9 :: x10 :: some t :: r) G X Q = Q t G := by simp [wpE]
@[simp ↓] theorem Wovar11 {t : T} {r : Sl} {x0 x1 x2 x3 x4 x5 x6 x7 x8 x9 x10 : Option T} : wpO M (.var 11) (x0 :: x1 :: x2 :: x3 :: x4 :: x5 :: x6 :: x7 :: x8 :: x9 :: x10 :: some t :: r) G X QO = asI t fun j => QO (some j) G := by simp [wpO, asI]
@[simp ↓] theorem Wcvar11 {t : T} {r : Sl} {x0 x1 x2 x3 x4 x5 x6 x7 x8 x9 x10 : Option T} : wpC M (.var 11) (x0 :: x1 :: x2 :: x3 :: x4 :: x5 :: x6 :: x7 :: x8 :: x9 :: x10 :: some t :: r) G X Q = Q t G := by simp [wpC]
@[simp ↓] theorem Sset11 {y z : Option T} {r : Sl} {x0 x1 x2 x3 x4 x5 x6 x7 x8 x9 x10 : Option T} : List.set (x0 :: x1 :: x2 :: x3 :: x4 :: x5 :: x6 :: x7 :: x8 :: x9 :: x10 :: y :: r) 11 z = x0 :: x1 :: x2 :: x3 :: x4 :: x5 :: x6 :: x7 :: x8 :: x9 :: x10 :: z :: r := rfl
@[simp ↓] theorem Wvar12 {t : T} {r : Sl} {x0 x1 x2 x3 x4 x5 x6 x7 x8 x9 x10 x11 : Option T} : wpE M (.var 12) (x0 :: x1 :: x2 :: x3 :: x4 :: x5 :: x6 :: x7 :: x8 :: x9 :: x10 :: x11 :: some t :: r) G X Q = Q t G := by simp [wpE]
@[simp ↓] theorem Wovar12 {t : T} {r : Sl} {x0 x1 x2 x3 x4 x5 x6 x7 x8 x9 x10 x11 : Option T} : wpO M (.var 12) (x0 :: x1 :: x2 :: x3 :: x4 :: x5 :: x6 :: x7 :: x8 :: x9 :: x10 :: x11 :: some t :: r) G X QO = asI t fun j => QO (some j) G := by simp [wpO, asI]
@[simp ↓] theorem Wcvar12 {t : T} {r : Sl} {x0 x1 x2 x3 x4 x5 x6 x7 x8 x9 x10 x11 : Option T} : wpC M (.var 12) (x0 :: x1 :: x2 :: x3 :: x4 :: x5 :: x6 :: x7 :: x8 :: x9 :: x10 :: x11 :: some t :: r) G X Q = Q t G := by simp [wpC]
@[simp ↓] theorem Sset12 {y z : Option T} {r : Sl} {x0 x1 x2 x3 x4 x5 x6 x7 x8 x9 x10 x11 : Option T} : List.set (x0 :: x1 :: x2 :: x3 :: x4 :: x5 :: x6 :: x7 :: x8 :: x9 :: x10 :: x11 :: y :: r) 12 z = x0 :: x1 :: x2 :: x3 :: x4 :: x5 :: x6 :: x7 :: x8 :: x9 :: x10 :: x11 :: z :: r := rfl
@[simp ↓] theorem Wvar13 {t : T} {r : Sl} {x0 x1 x2 x3 x4 x5 x6 x7 x8 x9 x10 x11 x12 : Option T} : wpE M (.var 13) (x0 :: x1 :: x2 :: x3 :: x4 :: x5 :: x6 :: x7 :: x8 :: x9 :: x10 :: x11 :: x12 :: some t :: r) G X Q = Q t G := by simp [wpE]
@[simp ↓] theorem Wovar13 {t : T} {r : Sl} {x0 x1 x2 x3 x4 x5 x6 x7 x8 x9 x10 x11 x12 : Option T} : wpO M (.var 13) (x0 :: x1 :: x2 :: x3 :: x4 :: x5 :: x6 :: x7 :: x8 :: x9 :: x10 :: x11 :: x12 :: some t :: r) G X QO = asI t fun j => QO (some j) G := by simp [wpO, asI]
@[simp ↓] theorem Wcvar13 {t : T} {r : Sl} {x0 x1 x2 x3 x4 x5 x6 x7 x8 x9 x10 x11 x12 : Option T} : wpC M (.var 13) (x0 :: x1 :: x2 :: x3 :: x4 :: x5 :: x6 :: x7 :: x8 :: x9 :: x10 :: x11 :: x12 :: some t :: r) G X Q = Q t G := by simp [wpC]
@[simp ↓] theorem Sset13 {y z : Option T} {r : Sl} {x0 x1 x2 x3 x4 x5 x6 x7 x8 x9 x10 x11 x12 : Option T} : List.set (x0 :: x1 :: x2 :: x3 :: x4 :: x5 :: x6 :: x7 :: x8 :: x9 :: x10 :: x11 :: x12 :: y :: r) 13 z = x0 :: x1 :: x2 :: x3 :: x4 :: x5 :: x6 :: x7 :: x8 :: x9 :: x10 :: x11 :: x12 :: z :: r := rfl
@[simp ↓] theorem Wvar14 {t : T} {r : Sl} {x0 x1 x2 x3 x4 x5 x6 x7 x8 x9 x10 x11 x12 x13 : Option T} : wpE M (.var 14) (x0 :: x1 :: x2 :: x3 :: x4 :: x5 :: x6 :: x7 :: x8 :: x9 :: x10 :: x11 :: x12 :: x13 :: some t :: r) G X Q = Q t G := by simp [wpE]
@[simp ↓] theorem Wovar14 {t : T} {r : Sl} {x0 x1 x2 x3 x4 x5 x6 x7 x8 x9 x10 x11 x12 x13 : Option T} : wpO M (.var 14) (x0 :: x1 :: x2 :: x3 :: x4 :: x5 :: x6 :: x7 :: x8 :: x9 :: x10 :: x11 :: x12 :: x13 :: some t :: r) G X QO = asI t fun j => QO (some j) G := by simp [wpO, asI]
@[simp ↓] theorem Wcvar14 {t : T} {r : Sl} {x0 x1 x2 x3 x4 x5 x6 x7 x8 x9 x10 x11 x12 x13 : Option T} : wpC M (.var 14) (x0 :: x1 :: x2 :: x3 :: x4 :: x5 :: x6 :: x7 :: x8 :: x9 :: x10 :: x11 :: x12 :: x13 :: some t :: r) G X Q = Q t G := by simp [wpC]
@[simp ↓] theorem Sset14 {y z : Option T} {r : Sl} {x0 x1 x2 x3 x4 x5 x6 x7 x8 x9 x10 x11 x12 x13 : Option T} : List.set (x0 :: x1 :: x2 :: x3 :: x4 :: x5 :: x6 :: x7 :: x8 :: x9 :: x10 :: x11 :: x12 :: x13 :: y :: r) 14 z = x0 :: x1 :: x2 :: x3 :: x4 :: x5 :: x6 :: x7 :: x8 :: x9 :: x10 :: x11 :: x12 :: x13 :: z :: r := rfl
@[simp ↓] theorem Wvar15 {t : T} {r : Sl} {x0 x1 x2 x3 x4 x5 x6 x7 x8 x9 x10 x11 x12 x13 x14 : Option T} : wpE M (.var 15) (x0 :: x1 :: x2 :: x3 :: x4 :: x5 :: x6 :: x7 :: x8 :: x9 :: x10 :: x11 :: x12 :: x13 :: x14 :: some t :: r) G X Q = Q t G := by simp [wpE]
@[simp ↓] theorem Wovar15 {t : T} {r : Sl} {x0 x1 x2 x3 x4 x5 x6 x7 x8 x9 x10 x11 x12 x13 x14 : Option T} : wpO M (.var 15) (x0 :: x1 :: x2 :: x3 :: x4 :: x5 :: x6 :: x7 :: x8 :: x9 :: x10 :: x11 :: x12 :: x13 :: x14 :: some t :: r) G X QO = asI t fun j => QO (some j) G := by simp [wpO, asI]
@[simp ↓] theorem Wcvar15 {t : T} {r : Sl} {x0 x1 x2 x3 x4 x5 x6 x7 x8 x9 x10 x11 x12 x13 x14 : Option T} : wpC M (.var 15) (x0 :: x1 :: x2 :: x3 :: x4 :: x5 :: x6 :: x7 :: x8 :: x9 :: x10 :: x11 :: x12 :: x13 :: x14 :: some t :: r) G X Q = Q t G := by simp [wpC]
@[simp ↓] theorem Sset15 {y z : Option T} {r : Sl} {x0 x1 x2 x3 x4 x5 x6 x7 x8 x9 x10 x11 x12 x13 x14 : Option T} : List.set (x0 :: x1 :: x2 :: x3 :: x4 :: x5 :: x6 :: x7 :: x8 :: x9 :: x10 :: x11 :: x12 :: x13 :: x14 :: y :: r) 15 z = x0 :: x1 :: x2 :: x3 :: x4 :: x5 :: x6 :: x7 :: x8 :: x9 :: x10 :: x11 :: x12 :: x13 :: x14 :: z :: r := rfl
@[simp ↓] theorem Wkc {t : T} : wpE M (.kc t) ss G X Q = Q t G := propext Iff.rfl
@[simp ↓] theorem Wgl {x : String} : wpE M (.gl x) ss G X Q = ∃ t, M.cst x = some t ∧ KB (Q t G) := propext Iff.rfl
@[simp ↓] theorem Wtup {es : Es} : wpE M (.tup es) ss G X Q = wpEs M es ss G X fun ts G1 => Q (.tup ts) G1 := propext Iff.rfl
@[simp ↓] theorem Wlst {es : Es} : wpE M (.lst es) ss G X Q = wpEs M es ss G X fun ts G1 => ∀ p, G1 p = none → KB (Q (.ref p) (gu G1 p (.lst ts))) := propext Iff.rfl
@[simp ↓] theorem Wdct {ks : List String} {es : Es} : wpE M (.dct ks es) ss G X Q = ∀ p, G p = none → wpEs M es ss (gu G p (.dct [])) X fun ts G1 => G1 p = some (.dct []) ∧ ts.length = ks.length ∧ Q (.ref p) (gu G1 p (.dct ((ks.map Sum.inr).zip ts))) := propext Iff.rfl
@[simp ↓] theorem Wirevl {e : E} : wpI M (.revl e) ss G X R = wpE M e ss G X fun x G1 => asR x fun a => ∃ xs, G1 a = some (.lst xs) ∧ KB (R (.at_ a xs) G1) := by simp [wpI, asR, KB]
@[simp ↓] theorem Wbin {o : Op} {a b : E} : wpE M (.bin o a b) ss G X Q = wpE M a ss G X fun x G1 => wpE M b ss G1 X fun y G2 => binW o x y G2 Q := propext Iff.rfl
@[simp ↓] theorem Wneg {a : E} : wpE M (.neg a) ss G X Q = wpE M a ss G X fun x G1 => asI x fun i => Q (.int (-i)) G1 := propext Iff.rfl
@[simp ↓] theorem Wcmp {o : Cp} {a b : E} : wpE M (.cmp o a b) ss G X Q = wpE M a ss G X fun x G1 => wpE M b ss G1 X fun y G2 => cmpW o x y G2 Q := propext Iff.rfl
@[simp ↓] theorem Wccmp {o : Cp} {a b : E} : wpC M (.cmp o a b) ss G X Q = wpE M a ss G X fun x G1 => wpE M b ss G1 X fun y G2 => cmpW o x y G2 Q := propext Iff.rfl
@[simp ↓] theorem Wcno  : wpC M .no ss G X Q = Q (.bl true) G := propext Iff.rfl
@[simp ↓] theorem Wcisi {a : E} {ty : Ty} : wpC M (.isi a ty) ss G X Q = wpE M a ss G X fun x G1 => isiW ty x G1 Q := propext Iff.rfl
@[simp ↓] theorem Wland {es : Es} : wpE M (.land es) ss G X Q = wpAnd M es ss G X Q := propext Iff.rfl
@[simp ↓] theorem Wlor {es : Es} : wpE M (.lor es) ss G X Q = wpOr M es ss G X Q := propext Iff.rfl
@[simp ↓] theorem Wand1 {e : E} : wpAnd M (.cons e .nil) ss G X Q = wpE M e ss G X Q := propext Iff.rfl
@[simp ↓] theorem Wand2 {e f : E} {r : Es} : wpAnd M (.cons e (.cons f r)) ss G X Q = wpE M e ss G X fun x G1 => asB x fun b => cnd b (wpAnd M (.cons f r) ss G1 X Q) (Q (.bl false) G1) := propext Iff.rfl
@[simp ↓] theorem Wor1 {e : E} : wpOr M (.cons e .nil) ss G X Q = wpE M e ss G X Q := propext Iff.rfl
@[simp ↓] theorem Wor2 {e f : E} {r : Es} : wpOr M (.cons e (.cons f r)) ss G X Q = wpE M e ss G X fun x G1 => asB x fun b => cnd b (Q (.bl true) G1) (wpOr M (.cons f r) ss G1 X Q) := propext Iff.rfl
@[simp ↓] theorem Wnot {a : E} : wpE M (.lnot a) ss G X Q = wpE M a ss G X fun x G1 => asB x fun b => Q (.bl (!b)) G1 := propext Iff.rfl
@[simp ↓] theorem Wife {c a b : E} : wpE M (.ife c a b) ss G X Q = wpE M c ss G X fun x G1 => asB x fun k => cnd k (wpE M a ss G1 X Q) (wpE M b ss G1 X Q) := propext Iff.rfl
@[simp ↓] theorem Wix {a i : E} : wpE M (.ix a i) ss G X Q = wpE M a ss G X fun x G1 => wpE M i ss G1 X fun y G2 => ixW x y G2 Q := propext Iff.rfl
@[simp ↓] theorem Wdx {a i : E} : wpE M (.dx a i) ss G X Q = wpE M a ss G X fun x G1 => wpE M i ss G1 X fun y G2 => dxW x y G2 Q := propext Iff.rfl
@[simp ↓] theorem Wsl {a lo hi : E} : wpE M (.sl a lo hi) ss G X Q = wpE M a ss G X fun x G1 => wpO M lo ss G1 X fun l G2 => wpO M hi ss G2 X fun h G3 => slW x l h G3 Q := propext Iff.rfl
@[simp ↓] theorem Wfld {a : E} {f : String} : wpE M (.fld a f) ss G X Q = wpE M a ss G X fun x G1 => fldW f x G1 Q := propext Iff.rfl
theorem Wcall {sp : Pr} {f : String} {es : Es} (h : M.fn "" f = some sp) : wpE M (.call f es) ss G X Q = wpEs M es ss G X fun ts G1 => PrB sp ts G1 Q X := by
  show (∃ sp, M.fn "" f = some sp ∧ _) = _
  rw [h]
  simp [PrB]
theorem Wcallv {i : Nat} {es : Es} {p : Addr} {sp : Pr} (hi : ss[i]? = some (some (.ref p))) (h : M.fv p = some sp) : wpE M (.callv i es) ss G X Q = wpEs M es ss G X fun ts G1 => PrB sp ts G1 Q X := by
  show (∃ p sp, ss[i]? = some (some (.ref p)) ∧ M.fv p = some sp ∧ wpEs M es ss G X fun ts G1 => sp ts G1 Q X) = _
  rw [hi]
  refine propext ⟨fun ⟨p', sp', e1, e2, w⟩ => ?_, fun w => ⟨p, sp, rfl, h, w⟩⟩
  cases e1
  rw [h] at e2
  cases e2
  exact w
theorem Wmeth {a : E} {m : String} {es : Es} : wpE M (.meth a m es) ss G X Q = wpE M a ss G X fun x G1 => asR x fun p => ∃ C fs, G1 p = some (.ins C fs) ∧ fGet fs m = none ∧ ∃ sp, M.fn C m = some sp ∧ wpEs M es ss G1 X fun ts G2 => PrB sp (.ref p :: ts) G2 Q X := by
  show (wpE M a ss G X fun x G1 => ∃ p C fs sp, x = .ref p ∧ G1 p = some (.ins C fs) ∧ fGet fs m = none ∧ M.fn C m = some sp ∧ wpEs M es ss G1 X fun ts G2 => sp (.ref p :: ts) G2 Q X) = _
  congr; funext x G1
  exact propext ⟨fun ⟨p, C, fs, sp, h1, h2, h3, h4, h5⟩ => ⟨p, h1, C, fs, h2, h3, sp, h4, h5⟩, fun ⟨p, h1, C, fs, h2, h3, sp, h4, h5⟩ => ⟨p, C, fs, sp, h1, h2, h3, h4, h5⟩⟩
theorem Wmake {sp : Pr} {C : String} {es : Es} (h : M.fn C "__init__" = some sp) : wpE M (.make C es) ss G X Q = wpEs M es ss G X fun ts G1 => ∀ p, G1 p = none → PrB sp (.ref p :: ts) (gu G1 p (.ins C [])) (fun v G2 => v = .non ∧ KB (Q (.ref p) G2)) X := by
  show (∃ sp, M.fn C "__init__" = some sp ∧ _) = _
  rw [h]
  simp [PrB, KB]
theorem Wisx2 {a : E} {C : String} {c : String} {p : Addr} (hC : M.xnm C = true) : wpE { M with xc := some (c, [], p) } (.isx a C) ss G X Q = wpE { M with xc := some (c, [], p) } a ss G X fun x G1 => x = .ref p ∧ KB (Q (.bl (M.sub c C)) G1) := Wisx rfl hC
def genB (M : Gm) (st : Gp → Prop) (all : Bool) (x : Nat) (elt : E) (ss : Sl) (Q : QT) (xs : List T) (G : Gp) (f : Frz Q := .mk) (f1 : Frz st := .mk) : Prop := genW st all x (fun s1 G2 Q2 => wpE M elt s1 G2 (fun _ _ _ => False) Q2) ss Q xs G
@[simp ↓] theorem Wgen {all : Bool} {elt : E} {x : Nat} {it : It} : wpE M (.gen all elt x it) ss G X Q = wpI M it ss G X fun J G1 => genB M J.stay all x elt ss Q J.items G1 := propext Iff.rfl
@[simp ↓] theorem Gnil {st : Gp → Prop} {all : Bool} {x : Nat} {elt : E} {f : Frz Q} {f1 : Frz st} : genB M st all x elt ss Q [] G f f1 = (st G ∧ Q (.bl all) G) := propext Iff.rfl
theorem Gcons {st : Gp → Prop} {all : Bool} {x : Nat} {elt : E} {y : T} {r : List T} {f : Frz Q} {f1 : Frz st} : genB M st all x elt ss Q (y :: r) G f f1 = (st G ∧ wpE M elt (ss.set x (some y)) G (fun _ _ _ => False) fun v G2 => ∃ b, v = .bl b ∧ if b = all then genB M st all x elt ss Q r G2 else Q (.bl (!all)) G2) := rfl
theorem gen_inv {st : Gp → Prop} {x : Nat} {elt : E} (R : Gp → Prop) (hst : ∀ G, R G → st G) (p : T → Bool) : ∀ {xs : List T} {all : Bool} {G : Gp} {Q : QT} {f : Frz Q} {f1 : Frz st}, R G → (∀ y ∈ xs, ∀ G, R G → ∀ Q' : QT, (∀ G', R G' → Q' (.bl (p y)) G') → wpE M elt (ss.set x (some y)) G (fun _ _ _ => False) Q') →
    (∀ G', R G' → Q (.bl (if all = true then xs.all p else xs.any p)) G') → genB M st all x elt ss Q xs G f f1
  | [], all, G, Q, f, f1, r, h, q => by
    rw [Gnil]
    refine ⟨hst G r, ?_⟩
    have := q G r
    cases all <;> exact this
  | y :: ys, all, G, Q, f, f1, r, h, q => by
    rw [Gcons]
    refine ⟨hst G r, h y List.mem_cons_self G r _ fun G' r' => ⟨p y, rfl, ?_⟩⟩
    by_cases hp : p y = all
    · rw [if_pos hp]
      refine gen_inv R hst p r' (fun z hz => h z (List.mem_cons_of_mem _ hz)) fun G2 r2 => ?_
      have := q G2 r2
      cases all <;> simp [hp] at this ⊢ <;> exact this
    · rw [if_neg hp]
      have := q G' r'
      cases all <;> simp at hp <;> simp [hp] at this ⊢ <;> exact this
@[simp ↓] theorem Wbi {f : Bi} {es : Es} : wpE M (.bi f es) ss G X Q = wpEs M es ss G X fun ts G1 => biW f ts G1 Q := propext Iff.rfl
@[simp ↓] theorem Wbm {a : E} {m : Bm} {es : Es} : wpE M (.bm a m es) ss G X Q = wpE M a ss G X fun x G1 => bmT m x G1 ∧ wpEs M es ss G1 X fun ts G2 => bmW m x ts G2 Q := propext Iff.rfl
@[simp ↓] theorem Wisi {a : E} {ty : Ty} : wpE M (.isi a ty) ss G X Q = wpE M a ss G X fun x G1 => isiW ty x G1 Q := propext Iff.rfl
@[simp ↓] theorem Wlc {elt cond : E} {own : List Nat} {g : Tg} {it : It} : wpE M (.lc elt own g it cond) ss G X Q = wpI M it ss G X fun J G1 => ∀ A, G1 A = none → lcB M J.stay g own cond elt A J.items ss (gu G1 A (.lst [])) Q := propext Iff.rfl
@[simp ↓] theorem Wono  : wpO M .no ss G X QO = QO none G := propext Iff.rfl
@[simp ↓] theorem Wokc {j : Int} : wpO M (.kc (.int j)) ss G X QO = QO (some j) G := by simp [wpO]
@[simp ↓] theorem Woneg {a : E} : wpO M (.neg a) ss G X QO = wpE M a ss G X fun x G1 => asI x fun i => QO (some (-i)) G1 := by simp [wpO, asI]
@[simp ↓] theorem Wobin {o : Op} {a b : E} : wpO M (.bin o a b) ss G X QO = wpE M a ss G X fun x G1 => wpE M b ss G1 X fun y G2 => binW o x y G2 fun z G3 => asI z fun j => QO (some j) G3 := propext Iff.rfl
@[simp ↓] theorem Woix {a b : E} : wpO M (.ix a b) ss G X QO = wpE M a ss G X fun x G1 => wpE M b ss G1 X fun y G2 => ixW x y G2 fun z G3 => asI z fun j => QO (some j) G3 := propext Iff.rfl
@[simp ↓] theorem Wenil  : wpEs M .nil ss G X QL = QL [] G := propext Iff.rfl
@[simp ↓] theorem Wecons {e : E} {r : Es} : wpEs M (.cons e r) ss G X QL = wpE M e ss G X fun x G1 => wpEs M r ss G1 X fun xs G2 => QL (x :: xs) G2 := propext Iff.rfl
@[simp ↓] theorem Witup {e : E} : wpI M (.tup e) ss G X R = wpE M e ss G X fun x G1 => asT x fun xs => R (.fix xs) G1 := propext Iff.rfl
@[simp ↓] theorem Wilst {e : E} : wpI M (.lst e) ss G X R = wpE M e ss G X fun x G1 => asR x fun a => ∃ xs, G1 a = some (.lst xs) ∧ KB (R (.at_ a xs) G1) := by simp [wpI, asR, KB]
@[simp ↓] theorem Wistr {e : E} : wpI M (.str e) ss G X R = wpE M e ss G X fun x G1 => asS x fun s => R (.fix (s.toList.map fun c => .str (String.singleton c))) G1 := propext Iff.rfl
@[simp ↓] theorem Wirng {es : Es} : wpI M (.rng es) ss G X R = wpEs M es ss G X fun ts G1 => rngW ts G1 R := propext Iff.rfl
@[simp ↓] theorem Wirevt {e : E} : wpI M (.revt e) ss G X R = wpE M e ss G X fun x G1 => asT x fun xs => R (.fix xs.reverse) G1 := propext Iff.rfl
@[simp ↓] theorem Wirevr {e : E} : wpI M (.revr e) ss G X R = wpE M e ss G X fun x G1 => asI x fun n => (0 ≤ n ∧ n < 2 ^ 40) ∧ R (.fix (upto (n - 1) (-1) n.toNat)) G1 := propext Iff.rfl
@[simp ↓] theorem Vadd {i j : Int} : binW .add (.int i) (.int j) G Q = Q (.int (i + j)) G := propext Iff.rfl
@[simp ↓] theorem Vadds {s t : String} : binW .add (.str s) (.str t) G Q = (s.length + t.length ≤ line ∧ Q (.str (s ++ t)) G) := propext Iff.rfl
@[simp ↓] theorem Vaddt {xs ys : List T} : binW .add (.tup xs) (.tup ys) G Q = (xs.length + ys.length ≤ line ∧ Q (.tup (xs ++ ys)) G) := propext Iff.rfl
@[simp ↓] theorem Vaddl {a b : Addr} : binW .add (.ref a) (.ref b) G Q = ∃ xs ys, G a = some (.lst xs) ∧ G b = some (.lst ys) ∧ xs.length + ys.length ≤ line ∧ ∀ p, G p = none → KB (Q (.ref p) (gu G p (.lst (xs ++ ys)))) := propext Iff.rfl
@[simp ↓] theorem Vsub {i j : Int} : binW .sub (.int i) (.int j) G Q = Q (.int (i - j)) G := propext Iff.rfl
@[simp ↓] theorem Vmul {i j : Int} : binW .mul (.int i) (.int j) G Q = (CMul i j ∧ Q (.int (i * j)) G) := propext Iff.rfl
@[simp ↓] theorem Vmult {xs : List T} {k : Int} : binW .mul (.tup xs) (.int k) G Q = (xs ≠ [] ∧ xs.length ≤ 1000 ∧ 2 ≤ k ∧ k ≤ 1000 ∧ Q (.tup (List.replicate k.toNat xs).flatten) G) := propext Iff.rfl
@[simp ↓] theorem Vmull {a : Addr} {k : Int} : binW .mul (.ref a) (.int k) G Q = ∃ xs, G a = some (.lst xs) ∧ -(2 ^ 63) ≤ k ∧ k < 2 ^ 63 ∧ xs.length * k.toNat ≤ line ∧ ∀ p, G p = none → KB (Q (.ref p) (gu G p (.lst (List.replicate k.toNat xs).flatten))) := propext Iff.rfl
@[simp ↓] theorem Vfdv {i j : Int} : binW .fdv (.int i) (.int j) G Q = ((0 < j ∧ j < 1073741824) ∧ Q (.int (i / j)) G) := propext Iff.rfl
@[simp ↓] theorem Vmod {i j : Int} : binW .mod (.int i) (.int j) G Q = (0 < j ∧ Q (.int (i % j)) G) := propext Iff.rfl
@[simp ↓] theorem Vpow {i j : Int} : binW .pow (.int i) (.int j) G Q = ((0 ≤ j ∧ j ≤ 1000000 ∧ i.natAbs < 2 ^ 64) ∧ Q (.int (i ^ j.toNat)) G) := propext Iff.rfl
@[simp ↓] theorem Clt {i j : Int} : cmpW .lt (.int i) (.int j) G Q = Q (.bl (decide (i < j))) G := propext Iff.rfl
@[simp ↓] theorem Cle {i j : Int} : cmpW .le (.int i) (.int j) G Q = Q (.bl (decide (i ≤ j))) G := propext Iff.rfl
@[simp ↓] theorem Cgt {i j : Int} : cmpW .gt (.int i) (.int j) G Q = Q (.bl (decide (j < i))) G := propext Iff.rfl
@[simp ↓] theorem Cge {i j : Int} : cmpW .ge (.int i) (.int j) G Q = Q (.bl (decide (j ≤ i))) G := propext Iff.rfl
@[simp ↓] theorem Ceqi {i j : Int} : cmpW .eq (.int i) (.int j) G Q = Q (.bl (decide (i = j))) G := by simp [cmpW, isD, teq]; exact Iff.rfl
@[simp ↓] theorem Cnei {i j : Int} : cmpW .ne (.int i) (.int j) G Q = Q (.bl (decide (i ≠ j))) G := by simp [cmpW, isD, teq]; exact Iff.rfl
@[simp ↓] theorem Ceqs {a b : String} : cmpW .eq (.str a) (.str b) G Q = Q (.bl (decide (a = b))) G := by simp [cmpW, isD, teq]; exact Iff.rfl
@[simp ↓] theorem Cnes {a b : String} : cmpW .ne (.str a) (.str b) G Q = Q (.bl (decide (a ≠ b))) G := by simp [cmpW, isD, teq]; exact Iff.rfl
@[simp ↓] theorem Ceqb {a b : Bool} : cmpW .eq (.bl a) (.bl b) G Q = Q (.bl (decide (a = b))) G := by simp [cmpW, isD, teq]; exact Iff.rfl
@[simp ↓] theorem CisN {x : T} : cmpW .isN x .non G Q = Q (.bl (isNT x)) G := by simp [cmpW]
@[simp ↓] theorem CntN {x : T} : cmpW .ntN x .non G Q = Q (.bl (!isNT x)) G := by simp [cmpW]
@[simp ↓] theorem CinS {x y : T} : cmpW .inS x y G Q = inW false x y G Q := propext Iff.rfl
@[simp ↓] theorem CniS {x y : T} : cmpW .niS x y G Q = inW true x y G Q := propext Iff.rfl
@[simp ↓] theorem CinD {x y : T} : cmpW .inD x y G Q = inDW false x y G Q := propext Iff.rfl
@[simp ↓] theorem CniD {x y : T} : cmpW .niD x y G Q = inDW true x y G Q := propext Iff.rfl
@[simp] theorem isNT_non  : isNT .non = true := rfl
@[simp] theorem isNT_bl {b : Bool} : isNT (.bl b) = false := rfl
@[simp] theorem isNT_int {i : Int} : isNT (.int i) = false := rfl
@[simp] theorem isNT_str {s : String} : isNT (.str s) = false := rfl
@[simp] theorem isNT_tup {ts : List T} : isNT (.tup ts) = false := rfl
@[simp] theorem isNT_ref {a : Addr} : isNT (.ref a) = false := rfl
@[simp ↓] theorem Xtup {xs : List T} {i : Int} : ixW (.tup xs) (.int i) G Q = ∃ v, tAt xs i = some v ∧ KB (Q v G) := propext Iff.rfl
@[simp ↓] theorem Xfrl {xs : List T} {i : Int} : ixW (.frl xs) (.int i) G Q = ∃ v, tAt xs i = some v ∧ KB (Q v G) := propext Iff.rfl
@[simp ↓] theorem Xref {a : Addr} {i : Int} : ixW (.ref a) (.int i) G Q = ∃ xs, G a = some (.lst xs) ∧ ∃ v, tAt xs i = some v ∧ KB (Q v G) := by simp [ixW, KB]
@[simp ↓] theorem Xdx {a : Addr} {y : T} : dxW (.ref a) y G Q = ∃ k, keyT y = some k ∧ ∃ kvs, G a = some (.dct kvs) ∧ ∃ v, dGet kvs k = some v ∧ KB (Q v G) := dxEq
@[simp ↓] theorem Xslt {xs : List T} {lo hi : Option Int} : slW (.tup xs) lo hi G Q = Q (.tup (cutT xs lo hi)) G := propext Iff.rfl
@[simp ↓] theorem Xslr {a : Addr} {lo hi : Option Int} : slW (.ref a) lo hi G Q = ∃ xs, G a = some (.lst xs) ∧ ∀ p, G p = none → KB (Q (.ref p) (gu G p (.lst (cutT xs lo hi)))) := propext Iff.rfl
@[simp ↓] theorem Xfld {a : Addr} {f : String} : fldW f (.ref a) G Q = ∃ C fs v, G a = some (.ins C fs) ∧ fGet fs f = some v ∧ KB (Q v G) := propext Iff.rfl
@[simp ↓] theorem Bkey1 {i : Int} : keyT (.int i) = some (.inl i) := rfl
@[simp ↓] theorem Bkey2 {s : String} : keyT (.str s) = some (.inr s) := rfl
@[simp ↓] theorem Blens {s : String} : biW .len [.str s] G Q = (s.length ≤ line ∧ Q (.int s.length) G) := propext Iff.rfl
@[simp ↓] theorem Blent {xs : List T} : biW .len [.tup xs] G Q = Q (.int xs.length) G := propext Iff.rfl
@[simp ↓] theorem Blenf {xs : List T} : biW .len [.frl xs] G Q = Q (.int xs.length) G := propext Iff.rfl
@[simp ↓] theorem Blenr {a : Addr} : biW .len [.ref a] G Q = ∃ xs, G a = some (.lst xs) ∧ KB (Q (.int xs.length) G) := propext Iff.rfl
@[simp ↓] theorem Bint {i : Int} : biW .int [.int i] G Q = Q (.int i) G := propext Iff.rfl
@[simp ↓] theorem Bstr {i : Int} : biW .str [.int i] G Q = (i.natAbs.log2 < 1920 ∧ Q (.str (toString i)) G) := propext Iff.rfl
@[simp ↓] theorem Btupt {xs : List T} : biW .tuple [.tup xs] G Q = Q (.tup xs) G := propext Iff.rfl
@[simp ↓] theorem Btupr {a : Addr} : biW .tuple [.ref a] G Q = ∃ xs, G a = some (.lst xs) ∧ KB (Q (.tup xs) G) := propext Iff.rfl
@[simp ↓] theorem Blistt {xs : List T} : biW .list [.tup xs] G Q = ∀ p, G p = none → KB (Q (.ref p) (gu G p (.lst xs))) := propext Iff.rfl
@[simp ↓] theorem Blistr {a : Addr} : biW .list [.ref a] G Q = ∃ xs, G a = some (.lst xs) ∧ ∀ p, G p = none → KB (Q (.ref p) (gu G p (.lst xs))) := propext Iff.rfl
@[simp ↓] theorem Bdictr {a : Addr} : biW .dict [.ref a] G Q = ∃ kvs, G a = some (.dct kvs) ∧ ∀ p, G p = none → KB (Q (.ref p) (gu G p (.dct kvs))) := propext Iff.rfl
@[simp ↓] theorem Bmax {i j : Int} : biW .max [.int i, .int j] G Q = Q (.int (if j > i then j else i)) G := propext Iff.rfl
@[simp ↓] theorem Bmin {i j : Int} : biW .min [.int i, .int j] G Q = Q (.int (if j < i then j else i)) G := propext Iff.rfl
@[simp ↓] theorem Bmaxr {a : Addr} : biW .max [.ref a] G Q = ∃ ns : List Int, G a = some (.lst (ns.map T.int)) ∧ 0 < ns.length ∧ ∀ m, m ∈ ns → (∀ y, y ∈ ns → y ≤ m) → KB (Q (.int m) G) := propext Iff.rfl
@[simp ↓] theorem Bmaxt {ts : List T} : biW .max [.tup ts] G Q = ∃ ns : List Int, ts = ns.map T.int ∧ 0 < ns.length ∧ ∀ m, m ∈ ns → (∀ y, y ∈ ns → y ≤ m) → KB (Q (.int m) G) := propext Iff.rfl
@[simp ↓] theorem Mjoin {s : String} {a : Addr} : bmW .join (.str s) [.ref a] G Q = ∃ ws : List String, G a = some (.lst (ws.map T.str)) ∧ (ws.map String.length).sum + ws.length * s.length ≤ 16777216 ∧ KB (Q (.str (joinS s ws)) G) := propext Iff.rfl
@[simp ↓] theorem Mindex {a : Addr} {y : T} : bmW .index (.ref a) [y] G Q = ∃ xs j z, G a = some (.lst xs) ∧ flT y = true ∧ xs.all flT = true ∧ xs[j]? = some z ∧ teq z y = true ∧ (∀ m z', m < j → xs[m]? = some z' → teq z' y = false) ∧ KB (Q (.int (j : Nat)) G) := propext Iff.rfl
@[simp ↓] theorem Tjoin {s : String} : bmT .join (.str s) G = True := propext Iff.rfl
@[simp ↓] theorem Tindex {a : Addr} : bmT .index (.ref a) G = ∃ xs, G a = some (.lst xs) := propext Iff.rfl
@[simp ↓] theorem Bsum {a : Addr} : biW .sum [.ref a] G Q = ∃ ns : List Int, G a = some (.lst (ns.map T.int)) ∧ KB (Q (.int ns.sum) G) := propext Iff.rfl
@[simp ↓] theorem Ball {a : Addr} : biW .all [.ref a] G Q = ∃ bs : List Bool, G a = some (.lst (bs.map T.bl)) ∧ KB (Q (.bl (bs.all id)) G) := propext Iff.rfl
@[simp ↓] theorem Bany {a : Addr} : biW .any [.ref a] G Q = ∃ bs : List Bool, G a = some (.lst (bs.map T.bl)) ∧ KB (Q (.bl (bs.any id)) G) := propext Iff.rfl
@[simp ↓] theorem Mapp {a : Addr} {y : T} : bmW .append (.ref a) [y] G Q = ∃ xs, G a = some (.lst xs) ∧ xs.length < line ∧ KB (Q .non (gu G a (.lst (xs ++ [y])))) := propext Iff.rfl
@[simp ↓] theorem Mpop {a : Addr} : bmW .pop (.ref a) [] G Q = ∃ xs y, G a = some (.lst xs) ∧ xs[xs.length - 1]? = some y ∧ KB (Q y (gu G a (.lst xs.dropLast))) := propext Iff.rfl
@[simp ↓] theorem Mget {a : Addr} {x y : T} : bmW .get (.ref a) [x, y] G Q = ∃ k, keyT x = some k ∧ ∃ kvs, G a = some (.dct kvs) ∧ KB (Q ((dGet kvs k).getD y) G) := getEq
@[simp ↓] theorem Tapp {a : Addr} : bmT .append (.ref a) G = ∃ xs, G a = some (.lst xs) := propext Iff.rfl
@[simp ↓] theorem Tpop {a : Addr} : bmT .pop (.ref a) G = ∃ xs, G a = some (.lst xs) := propext Iff.rfl
@[simp ↓] theorem Tget {a : Addr} : bmT .get (.ref a) G = ∃ kvs, G a = some (.dct kvs) := propext Iff.rfl
@[simp ↓] theorem Itup_non  : isiW .tup .non G Q = Q (.bl false) G := propext Iff.rfl
@[simp ↓] theorem Itup_bl {b : Bool} : isiW .tup (.bl b) G Q = Q (.bl false) G := propext Iff.rfl
@[simp ↓] theorem Itup_int {i : Int} : isiW .tup (.int i) G Q = Q (.bl false) G := propext Iff.rfl
@[simp ↓] theorem Itup_str {s : String} : isiW .tup (.str s) G Q = Q (.bl false) G := propext Iff.rfl
@[simp ↓] theorem Itup_tup {xs : List T} : isiW .tup (.tup xs) G Q = Q (.bl true) G := propext Iff.rfl
@[simp ↓] theorem Ibl_non  : isiW .bl .non G Q = Q (.bl false) G := propext Iff.rfl
@[simp ↓] theorem Ibl_bl {b : Bool} : isiW .bl (.bl b) G Q = Q (.bl true) G := propext Iff.rfl
@[simp ↓] theorem Ibl_int {i : Int} : isiW .bl (.int i) G Q = Q (.bl false) G := propext Iff.rfl
@[simp ↓] theorem Ibl_str {s : String} : isiW .bl (.str s) G Q = Q (.bl false) G := propext Iff.rfl
@[simp ↓] theorem Ibl_tup {xs : List T} : isiW .bl (.tup xs) G Q = Q (.bl false) G := propext Iff.rfl
@[simp ↓] theorem Iint_non  : isiW .int .non G Q = Q (.bl false) G := propext Iff.rfl
@[simp ↓] theorem Iint_bl {b : Bool} : isiW .int (.bl b) G Q = Q (.bl true) G := propext Iff.rfl
@[simp ↓] theorem Iint_int {i : Int} : isiW .int (.int i) G Q = Q (.bl true) G := propext Iff.rfl
@[simp ↓] theorem Iint_str {s : String} : isiW .int (.str s) G Q = Q (.bl false) G := propext Iff.rfl
@[simp ↓] theorem Iint_tup {xs : List T} : isiW .int (.tup xs) G Q = Q (.bl false) G := propext Iff.rfl
@[simp ↓] theorem Istr_non  : isiW .str .non G Q = Q (.bl false) G := propext Iff.rfl
@[simp ↓] theorem Istr_bl {b : Bool} : isiW .str (.bl b) G Q = Q (.bl false) G := propext Iff.rfl
@[simp ↓] theorem Istr_int {i : Int} : isiW .str (.int i) G Q = Q (.bl false) G := propext Iff.rfl
@[simp ↓] theorem Istr_str {s : String} : isiW .str (.str s) G Q = Q (.bl true) G := propext Iff.rfl
@[simp ↓] theorem Istr_tup {xs : List T} : isiW .str (.tup xs) G Q = Q (.bl false) G := propext Iff.rfl
@[simp ↓] theorem Rn1 {n : Int} : rngW [.int n] G R = ((-(2 ^ 62) ≤ n ∧ n < 2 ^ 62) ∧ R (.fix (upto 0 1 n.toNat)) G) := propext Iff.rfl
@[simp ↓] theorem Rn2 {a b : Int} : rngW [.int a, .int b] G R = (((-(2 ^ 62) ≤ a ∧ a < 2 ^ 62) ∧ -(2 ^ 62) ≤ b ∧ b < 2 ^ 62) ∧ R (.fix (upto a 1 (b - a).toNat)) G) := propext Iff.rfl
@[simp ↓] theorem Rn3 {a b : Int} : rngW [.int a, .int b, .int (-1)] G R = (((-(2 ^ 62) ≤ a ∧ a < 2 ^ 62) ∧ -(2 ^ 62) ≤ b ∧ b < 2 ^ 62) ∧ R (.fix (upto a (-1) (a - b).toNat)) G) := propext Iff.rfl
@[simp] theorem Sqi1 {xs : List T} : (Sq.fix xs).items = xs := rfl
@[simp] theorem Sqi2 {a : Addr} {xs : List T} : (Sq.at_ a xs).items = xs := rfl
@[simp] theorem Sqs1 {xs : List T} {G : Gp} : (Sq.fix xs).stay G = True := rfl
@[simp] theorem Sqs2 {a : Addr} {xs : List T} {G : Gp} : (Sq.at_ a xs).stay G = (G a = some (.lst xs)) := rfl
@[simp ↓] theorem Tnm {i : Nat} {x : T} {k : Sl → Prop} : tgW (.nm i) x ss k = k (ss.set i (some x)) := propext Iff.rfl
@[simp ↓] theorem Ttp {is : List Nat} {xs : List T} {k : Sl → Prop} : tgW (.tp is) (.tup xs) ss k = ∃ s1, setTp is xs ss = some s1 ∧ k s1 := propext Iff.rfl
@[simp] theorem Tset0 {ss : Sl} : setTp [] [] ss = some ss := rfl
@[simp] theorem Tset1 {i : Nat} {is : List Nat} {x : T} {xs : List T} {ss : Sl} : setTp (i :: is) (x :: xs) ss = setTp is xs (ss.set i (some x)) := rfl
@[simp ↓] theorem Fnil {st : Gp → Prop} {g : Tg} {body : Ss} {f1 : Frz st} {f2 : Frz body} {f : Frz D} : forB M st g body D [] ss G f1 f2 f = (st G ∧ D.nx ss G) := propext Iff.rfl
theorem Fcons {st : Gp → Prop} {g : Tg} {body : Ss} {x : T} {r : List T} {f1 : Frz st} {f2 : Frz body} {f : Frz D} : forB M st g body D (x :: r) ss G f1 f2 f = (st G ∧ tgW g x ss fun s1 => wpSs body M s1 G ⟨fun s2 G2 => forB M st g body D r s2 G2, D.rt, D.nx, fun s2 G2 => forB M st g body D r s2 G2, D.ex⟩) := rfl
@[simp ↓] theorem Lnil {st : Gp → Prop} {g : Tg} {own : List Nat} {cond elt : E} {A : Addr} {f : Frz Q} {f1 : Frz st} : lcB M st g own cond elt A [] ss G Q f f1 = (st G ∧ Q (.ref A) G) := propext Iff.rfl
theorem Lcons {st : Gp → Prop} {g : Tg} {own : List Nat} {cond elt : E} {A : Addr} {x : T} {r : List T} {f : Frz Q} {f1 : Frz st} : lcB M st g own cond elt A (x :: r) ss G Q f f1 = (st G ∧ tgW g x (wipeT ss own) fun s1 => wpC M cond s1 G (fun _ _ _ => False) fun c G1 => ∃ b, c = .bl b ∧ cnd b (wpE M elt s1 G1 (fun _ _ _ => False) fun y G2 => ∃ acc, G2 A = some (.lst acc) ∧ acc.length < line ∧ lcB M st g own cond elt A r ss (gu G2 A (.lst (acc ++ [y]))) Q) (lcB M st g own cond elt A r ss G1 Q)) := rfl
@[simp] theorem Wipe0 {ss : Sl} : wipeT ss [] = ss := rfl
@[simp] theorem Wipe1 {v : Nat} {vs : List Nat} {ss : Sl} : wipeT ss (v :: vs) = (wipeT ss vs).set v none := rfl
end

theorem gu_gu {G : Gp} {p : Addr} {a b : GO} : gu (gu G p a) p b = gu G p b := by
  funext q
  unfold gu
  split <;> rfl
theorem tAt0 {α : Type} {x : α} {r : List α} : tAt (x :: r) 0 = some x := rfl
theorem tAt1 {α : Type} {x y : α} {r : List α} : tAt (x :: y :: r) 1 = some y := rfl
theorem tAt2 {α : Type} {x y z : α} {r : List α} : tAt (x :: y :: z :: r) 2 = some z := rfl
theorem tAt_get {α : Type} {xs : List α} {k : Int} (h0 : 0 ≤ k) (h : k < xs.length) : ∃ v, tAt xs k = some v ∧ xs[k.toNat]? = some v := by
  have hk : k.toNat < xs.length := by omega
  refine ⟨xs[k.toNat], ?_, List.getElem?_eq_getElem hk⟩
  unfold tAt
  rw [if_pos h0, List.getElem?_eq_getElem hk]
theorem dGet_put {kvs : List (DK × T)} {k k' : DK} {v : T} : dGet (dPut kvs k v) k' = if k' = k then some v else dGet kvs k' := by
  unfold dPut
  split
  · rename_i h
    induction kvs with
    | nil => simp at h
    | cons p r ih =>
      simp only [List.any_cons, Bool.or_eq_true, decide_eq_true_eq] at h
      simp only [List.map_cons]
      unfold dGet at ih ⊢
      by_cases e : p.1 = k
      · subst e
        rw [if_pos rfl]
        by_cases e2 : k' = p.1
        · subst e2; simp
        · rw [if_neg e2]
          have e3 : ¬ p.1 = k' := fun z => e2 z.symm
          simp only [List.find?_cons, e3, decide_false]
          clear ih h
          induction r with
          | nil => rfl
          | cons q r ih2 =>
            simp only [List.map_cons]
            by_cases e4 : q.1 = p.1
            · rw [if_pos e4]
              have e5 : ¬ q.1 = k' := fun z => e3 (e4.symm.trans z)
              simp only [List.find?_cons, e5, decide_false]
              exact ih2
            · rw [if_neg e4]
              by_cases e5 : q.1 = k'
              · simp [List.find?_cons, e5]
              · simp only [List.find?_cons, e5, decide_false]
                exact ih2
      · rw [if_neg e]
        have h' : (r.any fun kv => decide (kv.1 = k)) = true := by
          rcases h with h | h
          · exact absurd h e
          · simpa using h
        by_cases e2 : p.1 = k'
        · have e3 : ¬ k' = k := fun z => e (e2.trans z)
          rw [if_neg e3]
          simp [List.find?_cons, e2]
        · simp only [List.find?_cons, e2, decide_false]
          exact ih h'
  · rename_i h
    unfold dGet
    rw [List.find?_append]
    by_cases e : k' = k
    · subst e
      rw [if_pos rfl]
      have hn : (kvs.find? fun kv => decide (kv.1 = k')) = none := by
        rw [List.find?_eq_none]
        intro x hx hk
        exact h (List.any_eq_true.mpr ⟨x, hx, hk⟩)
      rw [hn]
      simp
    · rw [if_neg e]
      have e2 : ¬ k = k' := fun z => e z.symm
      cases kvs.find? fun kv => decide (kv.1 = k') with
      | none => simp [e2]
      | some p => simp
end SK
set_option Elab.async false
set_option linter.all false
set_option maxRecDepth 100000
/-! SK13: a module's defs as the top has made them. -/
namespace SK
open PySem PySem.Spec PyProof.Rows L2
/-- a def of the module as the top has made it -/
def Df (K : PySem.W.Frag) (mg : Str → Option Value) (nm : Str) (st : Stmt) (ps : List Str) : Prop := ∃ fa fd, Fun K nm nm st fa fd ∧ mg nm = some (.ref fa) ∧ Binds K fd ps []
theorem df_mk {K : PySem.W.Frag} {h : Heap} {mg : Str → Option Value} (X : K.In h) (G : h.Ns mainGlobals mg) {nm : Str} {st : Stmt} {ps : List Str} {f : Addr} {oc : Value} {od an : Option Addr} {sl : Array (Option Value)} {kV dc pm cd ct : Value}
    (hb : ∀ (kV doc pm : Value) (an : Option Addr) (cdv ct : Value) (us : List Value), us.length = ps.length → bindArgs (PySem.W.fnOf nm nm (defArgs st) (defBody st) (defScope st) .none kV doc pm an cdv ct) ⟨us, []⟩ = pure (ps.zip us))
    (a : PySem.W.nsIn K mainGlobals nm = some (some (.ref f))) (l : K.lookup f = some ⟨oc, od, .func (PySem.W.fnOf nm nm (defArgs st) (defBody st) (defScope st) .none kV dc pm an cd ct), sl⟩) (c : PySem.W.codeIn K cd nm = true) (k : PySem.W.keepIn K (.ref f) = true) : Df K mg nm st ps := by
  have F := fun_mk (st := st) l c k
  exact ⟨f, _, F, PySem.W.mg_of X G a, F.binds hb⟩
section
variable {P : Program} {w : World} {K : PySem.W.Frag} {mg : Str → Option Value} {base : Heap} {k : Nat} {use blt : List String} {S : Stc}
theorem dn {M : Gm} {f : String} {st : Stmt} {N ps : List Str} {code : Ss} {sp : Pr} (d : Df K mg (Str.ofString f) st ps) (sc : FnScope N ps (defScope st)) (hc : chkSs code ⟨N, defScope st, true, use, blt, false, false⟩ (defBody st) = true) (md : MdOk P w K mg base S M k use blt)
    (len : ∀ ts G Q X, sp ts G Q X → ts.length = ps.length) (hw : ∀ ts G Q X, sp ts G Q X → wpSs code M (slots0 N.length ts) G { nx := fun _ G' => Q .non G', rt := Q, ex := fun _ => X }) : Dn P w K mg base S (k + 1) f sp :=
  let ⟨_, _, F, hm, hb⟩ := d
  Dn.of F hm hb sc hc md len hw
theorem dn0 {f : String} {st : Stmt} {ps : List Str} {sp : Pr} (d : Df K mg (Str.ofString f) st ps) (no : ∀ ts G Q X, ¬ sp ts G Q X) : Dn P w K mg base S k f sp :=
  let ⟨fa, fd, F, hm, hb⟩ := d
  ⟨fa, fd, ps, ⟨fun vs H Q E ⟨_, _, _, _, _, _, h, _⟩ => (no _ _ _ _ h).elim, fun A outer s H args us vs Q E hr e0 bb r ⟨_, _, _, _, _, _, h, _⟩ => (no _ _ _ _ h).elim⟩, hm, F.kp, hb⟩
theorem Dn.imp {f : String} {sp sp' : Pr} (d : Dn P w K mg base S k f sp) (h : ∀ ts G Q X, sp' ts G Q X → sp ts G Q X) : Dn P w K mg base S k f sp' :=
  let ⟨fa, fd, ps, F, hm, kp, hb⟩ := d
  ⟨fa, fd, ps, F.imp fun vs H Q E ⟨ts, G, Q', X', h1, h2, h3, h4, h5⟩ => ⟨ts, G, Q', X', h1, h2, h _ _ _ _ h3, h4, h5⟩, hm, kp, hb⟩
/-! ### modules with error classes and constants -/
/-- an own error class over ValueError -/
structure XF (K : PySem.W.Frag) (mg : Str → Option Value) (C : String) (ca : Addr) : Prop where
  gm : mg (Str.ofString C) = some (.ref ca)
  q : PySem.W.excIn K ca [.type "ValueError", .type "Exception", .type "BaseException", .type "object"] "ValueError.__new__" = true
  kp : PySem.W.keepIn K (.ref ca) = true
  sb : PySem.W.subIn K (.ref ca) (.type "BaseException") = some true
  ty : PySem.W.typeIn K (.ref ca) = some (.type "type")
  ec : ExcC K ca
def exS (xl : List (String × Addr)) : Stc := ⟨fun _ => none, fun C => xl.lookup C, fun _ _ => false, []⟩
def exGm (l : List (String × Pr)) (xs : List String) (sub : String → String → Bool) (cst : List (String × T)) : Gm where
  fn := fun C f => if C = "" then l.lookup f else none
  cst := fun x => cst.lookup x
  sub := sub
  xfs := fun C => if xs.contains C = true then some [] else none
  fld := fun _ _ => false
  xnm := fun C => xs.contains C
theorem ex_md {l : List (String × Pr)} {xl : List (String × Addr)} {xs : List String} {sub : String → String → Bool} {cst : List (String × T)} (hi : l.lookup "__init__" = none) (h : ∀ p ∈ l, Dn P w K mg base (exS xl) k p.1 p.2)
    (hx : ∀ p ∈ xl, XF K mg p.1 p.2) (hs : ∀ p ∈ xl, ∀ q ∈ xl, PySem.W.exmOne K (.ref p.2) (.ref q.2) = some (sub p.1 q.1) ∧ PySem.W.kitOne K (.ref p.2) (.ref q.2) = some (sub p.1 q.1)) (hxs : ∀ C, xs.contains C = true → ∃ ca, xl.lookup C = some ca)
    (hc : ∀ p ∈ cst, ∃ u v, mg (Str.ofString p.1) = some u ∧ RelV v u ∧ ∀ H, RT K H p.2 v) (hb : ∀ x ∈ blt, mg (Str.ofString x) = none) : MdOk P w K mg base (exS xl) (exGm l xs sub cst) k use blt where
  fn := fun f sp e => by
    have e' : l.lookup f = some sp := by simpa [exGm] using e
    exact h _ (look_mem e')
  me := fun C m sp e ca z => by cases z
  cr := fun C sp e => by
    by_cases hC : C = ""
    · subst hC
      have e' : l.lookup "__init__" = some sp := by simpa [exGm] using e
      rw [hi] at e'
      cases e'
    · simp [exGm, hC] at e
  cst := fun x t _ e => hc _ (look_mem e)
  blt := hb
  fld := fun C f e => by cases e
  xc := fun C e => by
    have hC : xs.contains C = true := by
      by_cases z : xs.contains C = true
      · exact z
      · have e2 : (if xs.contains C = true then some ([] : List String) else none) = some [] := e
        rw [if_neg z] at e2
        cases e2
    obtain ⟨ca, e1⟩ := hxs C hC
    have f := hx _ (look_mem e1)
    exact ⟨ca, e1, f.gm, ⟨⟨_, _, _, _, PySem.F.excBase_ValueError, f.q⟩, f.kp, f.sb, f.ty⟩⟩
  xn := fun C e => by
    obtain ⟨ca, e1⟩ := hxs C e
    have f := hx _ (look_mem e1)
    exact ⟨.ref ca, .ref ca, rfl, fun u z => z, .inl f.gm, fun c cb z => hs _ (look_mem z) _ (look_mem e1)⟩
  xi := fun c ca z => (hx _ (look_mem z)).ec
  cls := fun C ca z => by cases z
  fv := fun p sp e => by cases e
end
/-- what a def's promise asks of its code -/
def Ob (code : Ss) (n : Nat) (M : Gm) (sp : Pr) : Prop := ∀ ts G Q X, sp ts G Q X → wpSs code M (slots0 n ts) G { nx := fun _ G' => Q .non G', rt := Q, ex := fun _ => X }
theorem Ob.imp {code : Ss} {n : Nat} {M : Gm} {sp sp' : Pr} (h : Ob code n M sp) (i : ∀ ts G Q X, sp' ts G Q X → sp ts G Q X) : Ob code n M sp' := fun ts G Q X w => h ts G Q X (i ts G Q X w)
end SK

set_option Elab.async false
set_option linter.all false
set_option maxRecDepth 100000
/-! SK14: modules with classes, error classes, constants. -/
namespace SK
open PySem PySem.Spec PyProof.Rows L2
/-- a method as the top has made it -/
def DfM (K : PySem.W.Frag) (ca : Addr) (m q : Str) (st : Stmt) (ps : List Str) : Prop := ∃ fa fd, Fun K m q st fa fd ∧ Meth K ca m fa ∧ Binds K fd ps []
theorem dfm_mk {K : PySem.W.Frag} {ca : Addr} {m q : Str} {st : Stmt} {ps : List Str} {f : Addr} {oc : Value} {od an : Option Addr} {sl : Array (Option Value)} {kV dc pm cd ct : Value}
    (hb : ∀ (kV doc pm : Value) (an : Option Addr) (cdv ct : Value) (us : List Value), us.length = ps.length → bindArgs (PySem.W.fnOf m q (defArgs st) (defBody st) (defScope st) .none kV doc pm an cdv ct) ⟨us, []⟩ = pure (ps.zip us))
    (a : PySem.W.findIn K (.ref ca) m = some (some (.ref f))) (i : PySem.W.isFn K (.ref f) = true) (l : K.lookup f = some ⟨oc, od, .func (PySem.W.fnOf m q (defArgs st) (defBody st) (defScope st) .none kV dc pm an cd ct), sl⟩) (c : PySem.W.codeIn K cd q = true) (k : PySem.W.keepIn K (.ref f) = true) : DfM K ca m q st ps := by
  have F := fun_mk (st := st) l c k
  exact ⟨f, _, F, ⟨a, i, k⟩, F.binds hb⟩
/-- a class as the top has made it -/
structure ClsF (K : PySem.W.Frag) (mg : Str → Option Value) (C : String) (ca : Addr) : Prop where
  cl : Cls K ca
  made : PySem.W.makesIn K ca = true
  kp : PySem.W.keepIn K (.ref ca) = true
  gm : mg (Str.ofString C) = some (.ref ca)
def gS (cl xl : List (String × Addr)) (fl : List (String × String)) (tabs : List Addr) : Stc := ⟨fun C => cl.lookup C, fun C => xl.lookup C, fun C f => fl.contains (C, f), tabs⟩
def gM (l : List ((String × String) × Pr)) (xs : List String) (sub : String → String → Bool) (cst : List (String × T)) (fl : List (String × String)) : Gm where
  fn := fun C f => l.lookup (C, f)
  cst := fun x => cst.lookup x
  sub := sub
  xfs := fun C => if xs.contains C = true then some [] else none
  fld := fun C f => fl.contains (C, f)
  xnm := fun C => xs.contains C
section
variable {P : Program} {w : World} {K : PySem.W.Frag} {mg : Str → Option Value} {base : Heap} {S : Stc} {j k : Nat} {use blt : List String}
def Dme (P : Program) (w : World) (K : PySem.W.Frag) (mg : Str → Option Value) (base : Heap) (S : Stc) (j : Nat) (C m : String) (sp : Pr) : Prop :=
  ∃ ca fa fd ps, S.cls C = some ca ∧ Meth K ca (Str.ofString m) fa ∧ FnOk P w K mg base (L2.CX P w) j fa fd ps (upSp S K sp) ∧ Binds K fd ps [] ∧ (m = "__init__" → ClsF K mg C ca)
theorem Dme.mono {C m : String} {sp : Pr} (d : Dme P w K mg base S j C m sp) (h : j ≤ k) : Dme P w K mg base S k C m sp :=
  let ⟨ca, fa, fd, ps, h1, h2, F, r⟩ := d
  ⟨ca, fa, fd, ps, h1, h2, F.mono h, r⟩
theorem Dme.imp {C m : String} {sp sp' : Pr} (d : Dme P w K mg base S k C m sp) (h : ∀ ts G Q X, sp' ts G Q X → sp ts G Q X) : Dme P w K mg base S k C m sp' :=
  let ⟨ca, fa, fd, ps, h1, h2, F, r⟩ := d
  ⟨ca, fa, fd, ps, h1, h2, F.imp fun vs H Q E ⟨ts, G, Q', X', e1, e2, e3, e4, e5⟩ => ⟨ts, G, Q', X', e1, e2, h _ _ _ _ e3, e4, e5⟩, r⟩
theorem dme {M : Gm} {C m : String} {ca : Addr} {q : Str} {st : Stmt} {N ps : List Str} {code : Ss} {sp : Pr} (d : DfM K ca (Str.ofString m) q st ps) (hC : S.cls C = some ca) (ini : m = "__init__" → ClsF K mg C ca) (sc : FnScope N ps (defScope st)) (hc : chkSs code ⟨N, defScope st, true, use, blt, false, false⟩ (defBody st) = true) (md : MdOk P w K mg base S M k use blt)
    (len : ∀ ts G Q X, sp ts G Q X → ts.length = ps.length) (hw : ∀ ts G Q X, sp ts G Q X → wpSs code M (slots0 N.length ts) G { nx := fun _ G' => Q .non G', rt := Q, ex := fun _ => X }) : Dme P w K mg base S (k + 1) C m sp :=
  let ⟨fa, fd, F, hm, hb⟩ := d
  ⟨ca, fa, fd, ps, hC, hm, fn_rule F sc hc md len hw, hb, ini⟩
theorem dme0 {C m : String} {ca : Addr} {q : Str} {st : Stmt} {ps : List Str} {sp : Pr} (d : DfM K ca (Str.ofString m) q st ps) (hC : S.cls C = some ca) (ini : m = "__init__" → ClsF K mg C ca) (no : ∀ ts G Q X, ¬ sp ts G Q X) : Dme P w K mg base S k C m sp :=
  let ⟨fa, fd, F, hm, hb⟩ := d
  ⟨ca, fa, fd, ps, hC, hm, ⟨fun vs H Q E ⟨_, _, _, _, _, _, h, _⟩ => (no _ _ _ _ h).elim, fun A outer s H args us vs Q E hr e0 bb r ⟨_, _, _, _, _, _, h, _⟩ => (no _ _ _ _ h).elim⟩, hb, ini⟩
/-- an entry of the table holds -/
def Ent (P : Program) (w : World) (K : PySem.W.Frag) (mg : Str → Option Value) (base : Heap) (S : Stc) (k : Nat) (p : (String × String) × Pr) : Prop :=
  (p.1.1 = "" ∧ p.1.2 ≠ "__init__" ∧ Dn P w K mg base S k p.1.2 p.2) ∨ (p.1.1 ≠ "" ∧ ∃ j, j + 1 ≤ k ∧ Dme P w K mg base S j p.1.1 p.1.2 p.2)
theorem Ent.fn {f : String} {sp : Pr} (h : f ≠ "__init__") (d : Dn P w K mg base S j f sp) (hj : j ≤ k) : Ent P w K mg base S k (("", f), sp) := .inl ⟨rfl, h, d.mono hj⟩
theorem Ent.me {C m : String} {sp : Pr} (h : C ≠ "") (d : Dme P w K mg base S j C m sp) (hj : j + 1 ≤ k) : Ent P w K mg base S k ((C, m), sp) := .inr ⟨h, j, hj, d⟩
theorem look_mem2 {α : Type} : ∀ {l : List ((String × String) × α)} {f : String × String} {a : α}, l.lookup f = some a → (f, a) ∈ l
  | [], _, _, h => by cases h
  | (g, b) :: r, f, a, h => by
    rw [List.lookup_cons] at h
    by_cases e : f = g
    · subst e
      simp at h
      subst h
      exact List.mem_cons_self
    · have e' : (f == g) = false := by simpa using e
      rw [e'] at h
      exact List.mem_cons_of_mem _ (look_mem2 h)
theorem g_md {l : List ((String × String) × Pr)} {cl xl : List (String × Addr)} {fl : List (String × String)} {xs : List String} {sub : String → String → Bool} {cst : List (String × T)} {tabs : List Addr} (hcl : cl.lookup "" = none) (h : ∀ p ∈ l, Ent P w K mg base (gS cl xl fl tabs) k p)
    (hx : ∀ p ∈ xl, XF K mg p.1 p.2) (hs : ∀ p ∈ xl, ∀ q ∈ xl, PySem.W.exmOne K (.ref p.2) (.ref q.2) = some (sub p.1 q.1) ∧ PySem.W.kitOne K (.ref p.2) (.ref q.2) = some (sub p.1 q.1)) (hxs : ∀ C, xs.contains C = true → ∃ ca, xl.lookup C = some ca)
    (hc : ∀ p ∈ cst, ∃ u v, mg (Str.ofString p.1) = some u ∧ RelV v u ∧ ∀ H, RT K H p.2 v) (hb : ∀ x ∈ blt, mg (Str.ofString x) = none)
    (hcf : ∀ p ∈ cl, Cls K p.2 ∧ ∀ f, fl.contains (p.1, f) = true → NoAttr K p.2 (Str.ofString f)) : MdOk P w K mg base (gS cl xl fl tabs) (gM l xs sub cst fl) k use blt where
  fn := fun f sp e => by
    have e' : l.lookup ("", f) = some sp := e
    rcases h _ (look_mem2 e') with ⟨_, _, d⟩ | ⟨z, _⟩
    · exact d
    · exact absurd rfl z
  me := fun C m sp e ca z => by
    have e' : l.lookup (C, m) = some sp := e
    rcases h _ (look_mem2 e') with ⟨z1, _⟩ | ⟨_, j, hj, ca', fa, fd, ps, h1, h2, F, hb, _⟩
    · have z1 : C = "" := z1
      subst z1
      have z : cl.lookup "" = some ca := z
      rw [hcl] at z
      cases z
    · have e3 := h1.symm.trans z
      cases e3
      exact ⟨fa, fd, ps, h2, F.mono (by omega), hb⟩
  cr := fun C sp e => by
    have e' : l.lookup (C, "__init__") = some sp := e
    rcases h _ (look_mem2 e') with ⟨_, z, _⟩ | ⟨_, j, hj, ca', fa, fd, ps, h1, h2, F, hb, ini⟩
    · exact absurd rfl z
    · have c := ini rfl
      exact ⟨ca', fa, fd, ps, j, h1, c.gm, ⟨c.made, h2.at_, h2.fn, c.kp⟩, F, hj, hb⟩
  cst := fun x t _ e => hc _ (look_mem e)
  blt := hb
  fld := fun C f e => e
  xc := fun C e => by
    have hC : xs.contains C = true := by
      by_cases z : xs.contains C = true
      · exact z
      · have e2 : (if xs.contains C = true then some ([] : List String) else none) = some [] := e
        rw [if_neg z] at e2
        cases e2
    obtain ⟨ca, e1⟩ := hxs C hC
    have f := hx _ (look_mem e1)
    exact ⟨ca, e1, f.gm, ⟨⟨_, _, _, _, PySem.F.excBase_ValueError, f.q⟩, f.kp, f.sb, f.ty⟩⟩
  xn := fun C e => by
    obtain ⟨ca, e1⟩ := hxs C e
    have f := hx _ (look_mem e1)
    exact ⟨.ref ca, .ref ca, rfl, fun u z => z, .inl f.gm, fun c cb z => hs _ (look_mem z) _ (look_mem e1)⟩
  xi := fun c ca z => (hx _ (look_mem z)).ec
  cls := fun C ca z => hcf _ (look_mem z)
  fv := fun p sp e => by cases e
end
end SK

set_option Elab.async false
set_option linter.all false
set_option maxRecDepth 100000
/-! SK15: a law's end by facts by name, tables of code objects. -/
namespace SK
open PySem PySem.Spec PyProof.Rows L2
/-- a def of the top, a method, as data -/
def ddF (f : Str) (st : Stmt) : He.DefD := ⟨(f, none), f, f, defArgs st, defBody st, defScope st, [], []⟩
def ddM (C m q : Str) (st : Stmt) : He.DefD := ⟨(C, some m), m, q, defArgs st, defBody st, defScope st, [], []⟩
/-- a def with its code object and table -/
def DfT (K : PySem.W.Frag) (mg : Str → Option Value) (nm : Str) (st : Stmt) (ps : List Str) (c : Addr) : Prop := ∃ fa fd, Fun K nm nm st fa fd ∧ fd.code = .ref c ∧ mg nm = some (.ref fa) ∧ Binds K fd ps []
section
variable {K : PySem.W.Frag} {h : Heap} {mg : Str → Option Value} {fa : List He.Fa} {fn : List He.DefD}
theorem funD_fun {x qual : Str} {st : Stmt} {f : Addr} {fd : FuncData} (F : FunD K x qual (defArgs st) (defBody st) (defScope st) [] [] f fd) : Fun K x qual st f fd := by
  obtain ⟨oc, od, dV, kV, doc, pm, an, cdv, ct, osl, e, lk, hcd, hD, _⟩ := F.ex
  rcases hD with ⟨_, e0⟩ | ⟨z, _⟩
  · subst e0
    exact ⟨⟨oc, od, kV, doc, pm, an, cdv, ct, osl, e, lk, hcd⟩, F.kp⟩
  · exact absurd rfl z
theorem df_d (X : K.In h) (G : h.Ns mainGlobals mg) (c : He.SaysD fa fn K) (i j : Nat) {nm : Str} {st : Stmt} {ps : List Str} (hi : fn[i]? = some (ddF nm st)) (hj : fa[j]? = some (.glo nm))
    (hb : ∀ (kV doc pm : Value) (an : Option Addr) (cdv ct : Value) (us : List Value), us.length = ps.length → bindArgs (PySem.W.fnOf nm nm (defArgs st) (defBody st) (defScope st) .none kV doc pm an cdv ct) ⟨us, []⟩ = pure (ps.zip us)) : Df K mg nm st ps := by
  obtain ⟨fd, F⟩ := c.def_ i hi
  have F' := funD_fun (st := st) F
  exact ⟨_, fd, F', He.glo_ok X G (c.fact j hj), F'.binds hb⟩
theorem dft_d (X : K.In h) (G : h.Ns mainGlobals mg) (c : He.SaysD fa fn K) (i j : Nat) {nm : Str} {st : Stmt} {ps : List Str} (hi : fn[i]? = some (ddF nm st)) (hj : fa[j]? = some (.glo nm))
    (hb : ∀ (kV doc pm : Value) (an : Option Addr) (cdv ct : Value) (us : List Value), us.length = ps.length → bindArgs (PySem.W.fnOf nm nm (defArgs st) (defBody st) (defScope st) .none kV doc pm an cdv ct) ⟨us, []⟩ = pure (ps.zip us)) : DfT K mg nm st ps (He.codeOf K (nm, none)) := by
  obtain ⟨fd, F⟩ := c.def_ i hi
  have F' := funD_fun (st := st) F
  refine ⟨_, fd, F', ?_, He.glo_ok X G (c.fact j hj), F'.binds hb⟩
  obtain ⟨oc, od, kV, doc, pm, an, cdv, ct, osl, rfl, lk, hcd⟩ := F'.ex
  obtain ⟨cc, e⟩ := He.codeIn_ref hcd
  subst e
  have q := He.codeOf_eq (K := K) (p := (nm, none)) lk rfl
  rw [q]
theorem dfm_d (c : He.SaysD fa fn K) (i j : Nat) {C m q : Str} {st : Stmt} {ps : List Str} (hi : fn[i]? = some (ddM C m q st)) (hj : fa[j]? = some (.meth C m))
    (hb : ∀ (kV doc pm : Value) (an : Option Addr) (cdv ct : Value) (us : List Value), us.length = ps.length → bindArgs (PySem.W.fnOf m q (defArgs st) (defBody st) (defScope st) .none kV doc pm an cdv ct) ⟨us, []⟩ = pure (ps.zip us)) : DfM K (He.ga K C) m q st ps := by
  obtain ⟨fd, F⟩ := c.def_ i hi
  have F' := funD_fun (st := st) F
  exact ⟨_, fd, F', He.meth_ok (c.fact j hj), F'.binds hb⟩
theorem cls_d (X : K.In h) (G : h.Ns mainGlobals mg) (c : He.SaysD fa fn K) (i j k : Nat) {C : String} (hi : fa[i]? = some (.glo (Str.ofString C))) (hj : fa[j]? = some (.cls (Str.ofString C))) (hk : fa[k]? = some (.mkr (Str.ofString C))) (kp : PySem.W.keepIn K (.ref (He.ga K (Str.ofString C))) = true) : ClsF K mg C (He.ga K (Str.ofString C)) :=
  ⟨He.cls_ok (c.fact j hj), (He.mkr_ok (c.fact k hk)).makes, kp, He.glo_ok X G (c.fact i hi)⟩
/-- an own error class: what the Hook's own facts do not tell -/
def exB (x : Str) (K : PySem.W.Frag) : Bool := He.eqO (PySem.W.findIn K (.ref (He.ga K x)) "__getattribute__") (some (some (.builtin "BaseException.__getattribute__"))) && (He.eqO (PySem.W.findIn K (.ref (He.ga K x)) "__getattr__") (some none) &&
  (PySem.W.hasDictIn K (He.ga K x) && (He.eqO (PySem.W.findIn K (.ref (He.ga K x)) "__class__") (some (some (.builtin "object.__class__"))) && (He.eqO (PySem.W.specialIn K (.builtin "object.__class__") "__get__") (some (some (.builtin "getset_descriptor.__get__"))) &&
  (decide (PySem.W.takesIn K (.builtin "object.__class__") = some true) && decide (PySem.W.mroIn K (He.ga K x) (.type "object") = some true))))))
theorem xf_d (X : K.In h) (G : h.Ns mainGlobals mg) (c : He.SaysD fa fn K) (i j : Nat) {C : String} (hi : fa[i]? = some (.glo (Str.ofString C))) (hj : fa[j]? = some (.exc (Str.ofString C))) (e : exB (Str.ofString C) K = true) : XF K mg C (He.ga K (Str.ofString C)) := by
  obtain ⟨h1, h2, h3, h4⟩ := He.exc_ok (c.fact j hj)
  obtain ⟨e1, e⟩ := He.ba e
  obtain ⟨e2, e⟩ := He.ba e
  obtain ⟨e3, e⟩ := He.ba e
  obtain ⟨e4, e⟩ := He.ba e
  obtain ⟨e5, e⟩ := He.ba e
  obtain ⟨e6, e7⟩ := He.ba e
  exact ⟨He.glo_ok X G (c.fact i hi), h1, h2, h3, h4, ⟨He.eqO_ok e1, He.eqO_ok e2, h3, e3, He.eqO_ok e4, He.eqO_ok e5, of_decide_eq_true e6, of_decide_eq_true e7⟩⟩
def kitB (x y : Str) (b : Bool) (K : PySem.W.Frag) : Bool := decide (PySem.W.kitOne K (.ref (He.ga K x)) (.ref (He.ga K y)) = some b)
theorem kit_d {x y : Str} {b : Bool} (e : kitB x y b K = true) : PySem.W.kitOne K (.ref (He.ga K x)) (.ref (He.ga K y)) = some b := of_decide_eq_true e
theorem int_d (X : K.In h) (G : h.Ns mainGlobals mg) (c : He.SaysD fa fn K) (i : Nat) {x : String} {z : Int} (hi : fa[i]? = some (.int (Str.ofString x) z)) : ∃ u v, mg (Str.ofString x) = some u ∧ RelV v u ∧ ∀ H, RT K H (.int z) v := by
  obtain ⟨t, e⟩ := He.int_ok X G (c.fact i hi)
  exact ⟨_, .int z, e, ⟨t, rfl⟩, fun H => by unfold RT; rfl⟩
theorem str_d (X : K.In h) (G : h.Ns mainGlobals mg) (c : He.SaysD fa fn K) (i : Nat) {x s : String} (hi : fa[i]? = some (.str (Str.ofString x) (Str.ofString s))) : ∃ u v, mg (Str.ofString x) = some u ∧ RelV v u ∧ ∀ H, RT K H (.str s) v := by
  obtain ⟨t, e⟩ := He.str_ok X G (c.fact i hi)
  exact ⟨_, .str (Str.ofString s), e, ⟨t, rfl⟩, fun H => by unfold RT; rfl⟩
theorem tup_d (X : K.In h) (G : h.Ns mainGlobals mg) (c : He.SaysD fa fn K) (i : Nat) {x : String} {ss : List String} (hi : fa[i]? = some (.glo (Str.ofString x))) (e : He.tupB K (Str.ofString x) (ss.map fun s => .str (Str.ofString s)) = true) : ∃ u v, mg (Str.ofString x) = some u ∧ RelV v u ∧ ∀ H, RT K H (.tup (ss.map T.str)) v := by
  refine ⟨_, .ref (He.ga K (Str.ofString x)), He.glo_ok X G (c.fact i hi), rfl, fun H => ?_⟩
  have q := He.tupB_ok e H
  unfold RT
  refine ⟨_, _, rfl, q, ?_⟩
  clear e hi q
  induction ss with
  | nil => exact RTs.nil
  | cons a r ih => exact RTs.cons (by unfold RT; rfl) ih
theorem blt_d (X : K.In h) (G : h.Ns mainGlobals mg) (c : He.SaysD fa fn K) (i : Nat) {x : String} (hi : fa[i]? = some (.free (Str.ofString x))) : mg (Str.ofString x) = none := He.free_ok X G (c.fact i hi)
end
section
variable {P : Program} {w : World} {K : PySem.W.Frag} {mg : Str → Option Value} {base : Heap} {k : Nat} {use blt : List String} {S : Stc}
theorem dnT {M : Gm} {f : String} {st : Stmt} {N ps : List Str} {code : Ss} {sp : Pr} {c Pt : Addr} (d : DfT K mg (Str.ofString f) st ps c) (TB : GxR.TabB base mg c Pt) (hP : Pt ∈ S.tabs) (sc : FnScope N ps (defScope st)) (hc : chkSs code ⟨N, defScope st, true, use, blt, false, true⟩ (defBody st) = true) (md : MdOk P w K mg base S M k use blt)
    (len : ∀ ts G Q X, sp ts G Q X → ts.length = ps.length) (hw : ∀ ts G Q X, sp ts G Q X → wpSs code M (slots0 N.length ts) G { nx := fun _ G' => Q .non G', rt := Q, ex := fun _ => X }) : Dn P w K mg base S (k + 2) f sp :=
  let ⟨_, _, F, hcd, hm, hb⟩ := d
  Dn.ofG F hcd TB hP hm hb sc hc md len hw
end
/-- the end, from the Hook's facts -/
theorem lawAt_d {l : PySem.W.OpenLaw} {w : World} {K : PySem.W.Frag} {n k : Nat} {x : Str} {mg : Str → Option Value} {fa : Addr} {h : Heap} {fas : List He.Fa} {fn : List He.DefD} {ts : List He.Tab} {tf : List He.Defn} {ex : PySem.W.Frag → Bool} {S : Stc} {fd : FuncData} (X : K.In h) (c : He.SaysX fas fn ts tf ex w h K)
    (hS : S.tabs = tf.map fun p => (He.cT K p).2) (hb : ∀ (s : Shared) (u : Value), BindsTo s fd ⟨[u], []⟩ [(x, u)])
    (F : ∀ base : Heap, K.In base → base.Ns mainGlobals mg → (∀ p ∈ tf, GxR.TabB base mg (He.cT K p).1 (He.cT K p).2) → FnOk l.prog w K mg base (L2.CX l.prog w) k fa fd [x] (upSp S K (LawPr n))) : LamX.LawAtS l w K (L2.CX l.prog w) k n x mg fa h := by
  have mem : ∀ {φ : Addr × Addr → Prop}, (∀ p ∈ tf, φ (He.cT K p)) → ∀ p ∈ tf.map (He.cT K), φ p := fun z p hp => by
    obtain ⟨q, hq, e⟩ := List.mem_map.mp hp
    rw [← e]
    exact z q hq
  refine ⟨fd, tf.map (He.cT K), frzSp (upSp S K (LawPr n)), mem (φ := fun p => h.get? p.2 = _) c.empty, mem (φ := fun p => K.lookup p.2 = none) c.out, mem (φ := fun p => PySem.W.CodeHd h p.1 p.2) fun p hp => PySem.W.codeHd_of_K X (c.hd p hp), hb, fun H a ns hl _ hT hSq => law_spF hl (fun p hp => ?_) hSq, fun base kb nb tb => ?_⟩
  · rw [hS] at hp
    obtain ⟨q, hq, e⟩ := List.mem_map.mp hp
    have e1 := hT _ (List.mem_map.mpr ⟨q, hq, rfl⟩)
    rw [← e]
    exact ⟨_, e1, trivial⟩
  · exact fn_frz (F base kb nb fun p hp => let t := tb _ (List.mem_map.mpr ⟨p, hp, rfl⟩); ⟨t.code, t.bm, t.gP⟩)
end SK

set_option Elab.async false
set_option linter.all false
set_option maxRecDepth 100000
/-! SK16: error classes of the language itself, as except and isinstance name them. -/
namespace SK
open PySem PySem.Spec PyProof.Rows L2
def withBx (M : Gm) (bx : List String) : Gm := { M with xnm := fun C => M.xnm C || bx.contains C }
/-- what must be known of such a name -/
def BxF (K : PySem.W.Frag) (mg : Str → Option Value) (S : Stc) (sub : String → String → Bool) (C : String) : Prop :=
  mg (Str.ofString C) = none ∧ bootBuiltins (Str.ofString C) = some (.type C) ∧ ∀ c ca, S.xcl c = some ca → PySem.W.exmOne K (.ref ca) (.type C) = some (sub c C) ∧ PySem.W.kitOne K (.ref ca) (.type C) = some (sub c C)
theorem MdOk.bx {P : Program} {w : World} {K : PySem.W.Frag} {mg : Str → Option Value} {base : Heap} {S : Stc} {M : Gm} {k : Nat} {use blt : List String} {bx : List String} (md : MdOk P w K mg base S M k use blt) (h : ∀ C ∈ bx, BxF K mg S M.sub C) : MdOk P w K mg base S (withBx M bx) k use blt where
  fn := md.fn
  me := md.me
  cr := md.cr
  cst := md.cst
  blt := md.blt
  fld := md.fld
  xc := md.xc
  xn := fun C e => by
    have e : (M.xnm C || bx.contains C) = true := e
    rcases Bool.or_eq_true_iff.mp e with e | e
    · exact md.xn C e
    · obtain ⟨h1, h2, h3⟩ := h C (by simpa using e)
      exact ⟨.type C, .ty C, rfl, fun u z => z, .inr ⟨h1, h2⟩, h3⟩
  xi := md.xi
  cls := md.cls
  fv := md.fv
/-- functions as values, by their addresses -/
def withFv (M : Gm) (fl : List (Addr × Pr)) : Gm := { M with fv := fun p => fl.lookup p }
theorem look_memA {α : Type} : ∀ {l : List (Addr × α)} {f : Addr} {a : α}, l.lookup f = some a → (f, a) ∈ l
  | [], _, _, h => by cases h
  | (g, b) :: r, f, a, h => by
    rw [List.lookup_cons] at h
    by_cases e : f = g
    · subst e
      simp at h
      subst h
      exact List.mem_cons_self
    · have e' : (f == g) = false := by simpa using e
      rw [e'] at h
      exact List.mem_cons_of_mem _ (look_memA h)
theorem MdOk.fvx {P : Program} {w : World} {K : PySem.W.Frag} {mg : Str → Option Value} {base : Heap} {S : Stc} {M : Gm} {k : Nat} {use blt : List String} {fl : List (Addr × Pr)} (md : MdOk P w K mg base S M k use blt)
    (h : ∀ q ∈ fl, ∃ f, mg (Str.ofString f) = some (.ref q.1) ∧ Dn P w K mg base S k f q.2) : MdOk P w K mg base S (withFv M fl) k use blt where
  fn := md.fn
  me := md.me
  cr := md.cr
  cst := md.cst
  blt := md.blt
  fld := md.fld
  xc := md.xc
  xn := md.xn
  xi := md.xi
  cls := md.cls
  fv := fun p sp e => by
    obtain ⟨f, hm, fa, fd, ps, F, hm2, kp, b⟩ := h _ (look_memA e)
    have e2 := hm.symm.trans hm2
    cases e2
    exact ⟨fd, ps, F, kp, b⟩
theorem ref_d {K : PySem.W.Frag} {h : Heap} {mg : Str → Option Value} {fa : List He.Fa} {fn : List He.DefD} (X : K.In h) (G : h.Ns mainGlobals mg) (c : He.SaysD fa fn K) (i : Nat) {x : String} (hi : fa[i]? = some (.glo (Str.ofString x))) : ∃ u v, mg (Str.ofString x) = some u ∧ RelV v u ∧ ∀ H, RT K H (.ref (He.ga K (Str.ofString x))) v :=
  ⟨_, .ref _, He.glo_ok X G (c.fact i hi), rfl, fun H => by unfold RT; rfl⟩
def bxB (x : Str) (C : String) (b : Bool) (K : PySem.W.Frag) : Bool := decide (PySem.W.exmOne K (.ref (He.ga K x)) (.type C) = some b) && decide (PySem.W.kitOne K (.ref (He.ga K x)) (.type C) = some b)
theorem bx_d {x : Str} {C : String} {b : Bool} {K : PySem.W.Frag} (e : bxB x C b K = true) : PySem.W.exmOne K (.ref (He.ga K x)) (.type C) = some b ∧ PySem.W.kitOne K (.ref (He.ga K x)) (.type C) = some b := by
  obtain ⟨e1, e2⟩ := He.ba e
  exact ⟨of_decide_eq_true e1, of_decide_eq_true e2⟩
end SK

/-! C1: programs, tasks, jobs and ticks, in plain Lean. -/
namespace SK.C
inductive Stm where
  | say (w : String) | pause | start (b : Int) (v : String) | wait (v : String) | adopt (v : String) | ret | fail
  | tr (b h : List Stm) | rep (n : Int) (b : List Stm)
abbrev Blk := List Stm
inductive Out where
  | ret | fail
  deriving DecidableEq
inductive Dd where
  | go (o : Out) | adopt (m : Nat) | settle (o : Out)
  deriving DecidableEq
structure Job where
  tick : Nat
  n : Nat
  d : Dd
  deriving DecidableEq
/-- what a task's code answers when it goes on -/
inductive Nx (γ : Type) where
  | fin | quiet (c : γ) | item (s : Stm) (c : γ)
/-- a way to keep what a task has still to do -/
structure Way (γ : Type) where
  init : Blk → γ
  nil : γ
  next : γ → Nx γ
  fall : γ → Option γ
  try_ : γ → Blk → Blk → γ
  rep : γ → Int → Blk → γ
structure Tk (γ : Type) where
  code : γ
  holds : List (String × Nat)
  out : Option Out
  settled : Int
  fol : List (Bool × Nat)
structure MS (γ : Type) where
  tasks : List (Tk γ)
  queue : List Job
  said : List (Nat × Nat × String)
  now : Nat
def hget (h : List (String × Nat)) (v : String) : Option Nat := (h.find? fun p => decide (p.1 = v)).map (·.2)
def hput (h : List (String × Nat)) (v : String) (n : Nat) : List (String × Nat) := if h.any (fun p => decide (p.1 = v)) then h.map fun p => if p.1 = v then (v, n) else p else h ++ [(v, n)]
def mkD (b : Bool) (o : Out) : Dd := if b then .settle o else .go o
section
variable {γ : Type} (W : Way γ) (P : List Blk)
def Tk.cod (t : Tk γ) (c : γ) : Tk γ := ⟨c, t.holds, t.out, t.settled, t.fol⟩
def Tk.stop (t : Tk γ) (o : Out) (now : Nat) (c : γ) : Tk γ := ⟨c, t.holds, some o, now, t.fol⟩
def Tk.fol1 (t : Tk γ) (b : Bool) (n : Nat) : Tk γ := ⟨t.code, t.holds, t.out, t.settled, t.fol ++ [(b, n)]⟩
def Tk.hol (t : Tk γ) (v : String) (m : Nat) : Tk γ := ⟨t.code, hput t.holds v m, t.out, t.settled, t.fol⟩
def MS.put (s : MS γ) (n : Nat) (t : Tk γ) : MS γ := ⟨s.tasks.set n t, s.queue, s.said, s.now⟩
def MS.enq (s : MS γ) (q : List Job) : MS γ := ⟨s.tasks, s.queue ++ q, s.said, s.now⟩
def MS.later (s : MS γ) (n : Nat) (d : Dd) : MS γ := s.enq [⟨s.now + 1, n, d⟩]
def MS.pop (s : MS γ) (j : Job) (q : List Job) : MS γ := ⟨s.tasks, q, s.said, j.tick⟩
def folJ (now : Nat) (o : Out) (l : List (Bool × Nat)) : List Job := l.map fun p => ⟨now + 1, p.2, mkD p.1 o⟩
def settle (s : MS γ) (n : Nat) (o : Out) : MS γ := match s.tasks[n]? with
  | none => s
  | some t => (s.put n (t.stop o s.now W.nil)).enq (folJ s.now o t.fol)
def failT (s : MS γ) (n : Nat) : MS γ := match s.tasks[n]? with
  | none => s
  | some t => match W.fall t.code with
    | some c => s.put n (t.cod c)
    | none => settle W s n .fail
def follow (s : MS γ) (n m : Nat) (b : Bool) : MS γ := match s.tasks[m]? with
  | none => s
  | some t => match t.out with
    | none => s.put m (t.fol1 b n)
    | some o => s.later n (mkD b o)
def newTk (b : Blk) : Tk γ := ⟨W.init b, [], none, -1, []⟩
def MS.add (s : MS γ) (t : Tk γ) : MS γ := ⟨s.tasks ++ [t], s.queue, s.said, s.now⟩
def MS.say (s : MS γ) (n : Nat) (w : String) : MS γ := ⟨s.tasks, s.queue, s.said ++ [(s.now, n, w)], s.now⟩
def hold (s : MS γ) (n : Nat) (v : String) (m : Nat) : MS γ := match s.tasks[n]? with
  | none => s
  | some t => s.put n (t.hol v m)
/-- a task goes on until it stops or is settled -/
def go : Nat → MS γ → Nat → Option (MS γ)
  | 0, _, _ => none
  | f + 1, s, n => match s.tasks[n]? with
    | none => none
    | some t => if t.out.isSome then some s else match W.next t.code with
      | .fin => some (settle W s n .ret)
      | .quiet c => go f (s.put n (t.cod c)) n
      | .item st c => match st with
        | .say w => go f ((s.put n (t.cod c)).say n w) n
        | .start b v => match P[b.toNat]? with
          | none => none
          | some B => (go f ((s.put n (t.cod c)).add (newTk W B)) s.tasks.length).bind fun s2 => go f (hold s2 n v s.tasks.length) n
        | .ret => some (settle W (s.put n (t.cod c)) n .ret)
        | .fail => go f (failT W (s.put n (t.cod c)) n) n
        | .tr b h => go f (s.put n (t.cod (W.try_ c b h))) n
        | .rep k b => go f (s.put n (t.cod (W.rep c k b))) n
        | .pause => some ((s.put n (t.cod c)).later n (.go .ret))
        | .wait v => match hget t.holds v with
          | none => some ((s.put n (t.cod c)).later n (.go .ret))
          | some m => some (follow (s.put n (t.cod c)) n m false)
        | .adopt v => match hget t.holds v with
          | none => some (settle W (s.put n (t.cod c)) n .ret)
          | some m => some ((s.put n (t.cod c)).later n (.adopt m))
def startT (f : Nat) (s : MS γ) (b : Int) : Option (MS γ) := match P[b.toNat]? with
  | none => none
  | some B => go W P f (s.add (newTk W B)) s.tasks.length
/-- the next job -/
def job (f : Nat) (s : MS γ) : Option (MS γ) := match s.queue with
  | [] => some s
  | j :: q => match j.d with
    | .adopt m => some (follow (s.pop j q) j.n m true)
    | .settle o => some (settle W (s.pop j q) j.n o)
    | .go o => go W P f (if o = .fail then failT W (s.pop j q) j.n else (s.pop j q)) j.n
def runAll : Nat → MS γ → Option (MS γ)
  | 0, _ => none
  | f + 1, s => if s.queue = [] then some s else (job W P f s).bind (runAll f)
def ms0 : MS γ := ⟨[], [], [], 0⟩
end
/-! ### the two ways -/
/-- flat: all that is left, with marks at the ends of try blocks -/
inductive It where
  | st (s : Stm) | mark (h : Blk)
def fallF : List It → Option (List It)
  | [] => none
  | .st _ :: r => fallF r
  | .mark h :: r => some (h.map .st ++ r)
def flat : Way (List It) where
  init b := b.map .st
  nil := []
  next c := match c with
    | [] => .fin
    | .st s :: r => .item s r
    | .mark _ :: r => .quiet r
  fall := fallF
  try_ c b h := b.map .st ++ .mark h :: c
  rep c k b := (List.replicate k.toNat (b.map It.st)).flatten ++ c
/-- places: block, at, kind, rest; the innermost first -/
inductive Kd where
  | body | try_ (h : Blk) | handler | rep (k : Int)
structure Pl where
  b : Blk
  at_ : Nat
  k : Kd
def fallP : List Pl → Option (List Pl)
  | [] => none
  | ⟨_, _, .try_ h⟩ :: r => some (⟨h, 0, .handler⟩ :: r)
  | ⟨_, _, .body⟩ :: r => fallP r
  | ⟨_, _, .handler⟩ :: r => fallP r
  | ⟨_, _, .rep _⟩ :: r => fallP r
def nextP : List Pl → Nx (List Pl)
  | [] => .fin
  | p :: r => match p.b[p.at_]? with
    | some s => .item s ({ p with at_ := p.at_ + 1 } :: r)
    | none => match p.k with
      | .rep k => if k > 1 then .quiet (⟨p.b, 0, .rep (k - 1)⟩ :: r) else if r.isEmpty then .fin else .quiet r
      | _ => if r.isEmpty then .fin else .quiet r
def deepW : Way (List Pl) where
  init b := [⟨b, 0, .body⟩]
  nil := []
  next := nextP
  fall := fallP
  try_ c b h := ⟨b, 0, .try_ h⟩ :: c
  rep c k b := if k > 0 then ⟨b, 0, .rep k⟩ :: c else c
end SK.C

/-! C2: every run ends; nothing grows beyond a bound. -/
namespace SK.C
section
variable (bw : Int → Nat)
mutual
def wt : Stm → Nat
  | .start b _ => 2 + bw b
  | .tr b h => 3 + wts b + wts h
  | .rep n b => 2 + n.toNat * (1 + wts b)
  | .say _ => 1 | .pause => 1 | .wait _ => 1 | .adopt _ => 1 | .ret => 1 | .fail => 1
def wts : List Stm → Nat
  | [] => 0
  | s :: r => wt s + wts r
end
theorem wt_pos {s : Stm} : 1 ≤ wt bw s := by
  cases s <;> simp only [wt] <;> omega
structure WayOk {γ : Type} (W : Way γ) (mu : γ → Nat) : Prop where
  init : ∀ b, mu (W.init b) ≤ wts bw b + 1
  nil : mu W.nil = 0
  item : ∀ c s c', W.next c = .item s c' → mu c' + wt bw s ≤ mu c
  quiet : ∀ c c', W.next c = .quiet c' → mu c' < mu c
  fall : ∀ c c', W.fall c = some c' → mu c' ≤ mu c
  try_ : ∀ c b h, mu (W.try_ c b h) ≤ mu c + wts bw b + wts bw h + 1
  rep : ∀ c k b, mu (W.rep c k b) ≤ mu c + 1 + k.toNat * (1 + wts bw b)
end
section
variable {γ : Type}
def tsum (f : Tk γ → Nat) (l : List (Tk γ)) : Nat := (l.map f).sum
theorem tsum_set {f : Tk γ → Nat} {t t' : Tk γ} : ∀ {l : List (Tk γ)} {i : Nat}, l[i]? = some t → tsum f (l.set i t') + f t = tsum f l + f t'
  | [], i, h => by simp at h
  | a :: l, 0, h => by
    simp at h; subst h
    simp [tsum]; omega
  | a :: l, i + 1, h => by
    have := tsum_set (f := f) (t' := t') (l := l) (i := i) (by simpa using h)
    simp [tsum] at this ⊢; omega
theorem tsum_add {f : Tk γ → Nat} {l : List (Tk γ)} {t : Tk γ} : tsum f (l ++ [t]) = tsum f l + f t := by simp [tsum]
def jw : Dd → Nat
  | .go _ => 1 | .adopt _ => 3 | .settle _ => 1
def qsum (q : List Job) : Nat := (q.map fun j => jw j.d).sum
theorem qsum_add {q r : List Job} : qsum (q ++ r) = qsum q + qsum r := by simp [qsum]
theorem jw_mkD {b : Bool} {o : Out} : jw (mkD b o) = 1 := by cases b <;> rfl
theorem qsum_fol {t : Nat} {o : Out} : ∀ {l : List (Bool × Nat)}, qsum (folJ t o l) = l.length
  | [] => rfl
  | p :: l => by
    have := qsum_fol (t := t) (o := o) (l := l)
    simp only [qsum, folJ, List.map_cons, List.sum_cons, jw_mkD, List.length_cons] at this ⊢
    omega
variable (mu : γ → Nat)
def tw (t : Tk γ) : Nat := 4 * mu t.code + match t.out with
  | none => 2 * t.fol.length
  | some _ => 0
/-- work to be done -/
def MS.work (s : MS γ) : Nat := tsum (tw mu) s.tasks + qsum s.queue
/-- what has been laid down -/
def MS.hist (s : MS γ) : Nat := s.tasks.length + s.said.length + tsum (fun t => t.holds.length) s.tasks
end
/-- how often x waits -/
def cq (x : Nat) (q : List Job) : Nat := (q.map fun j => if j.n = x then 1 else 0).sum
def cf (x : Nat) (l : List (Bool × Nat)) : Nat := (l.map fun p => if p.2 = x then 1 else 0).sum
theorem cq_add {x : Nat} {q r : List Job} : cq x (q ++ r) = cq x q + cq x r := by simp [cq]
theorem cq_one {x : Nat} {t n : Nat} {d : Dd} : cq x [⟨t, n, d⟩] = if n = x then 1 else 0 := by simp [cq]
theorem cq_cons {x : Nat} {j : Job} {q : List Job} : cq x (j :: q) = (if j.n = x then 1 else 0) + cq x q := by simp [cq]
theorem cf_add {x : Nat} {q r : List (Bool × Nat)} : cf x (q ++ r) = cf x q + cf x r := by simp [cf]
theorem cf_one {x : Nat} {b : Bool} {n : Nat} : cf x [(b, n)] = if n = x then 1 else 0 := by simp [cf]
theorem cq_fol {x t : Nat} {o : Out} : ∀ {l : List (Bool × Nat)}, cq x (folJ t o l) = cf x l
  | [] => rfl
  | p :: l => by
    have := cq_fol (x := x) (t := t) (o := o) (l := l)
    simp only [cq, cf, folJ, List.map_cons, List.sum_cons] at this ⊢
    omega
section
variable {γ : Type}
def ct (x : Nat) (t : Tk γ) : Nat := match t.out with
  | none => cf x t.fol
  | some _ => 0
def pend (s : MS γ) (x : Nat) : Nat := cq x s.queue + tsum (ct x) s.tasks
def runs (s : MS γ) (x : Nat) : Nat := match s.tasks[x]? with
  | none => 0
  | some t => match t.out with
    | none => 1
    | some _ => 0
def cg (x : Nat) (g : List Nat) : Nat := g.count x
/-- who waits or goes is running, and is it once -/
def One (s : MS γ) (g : List Nat) : Prop := ∀ x, pend s x + cg x g ≤ runs s x
theorem one_runs {s : MS γ} {g : List Nat} {n : Nat} (h : One s g) (hn : n ∈ g) : ∃ t, s.tasks[n]? = some t ∧ t.out = none := by
  have h1 := h n
  have h2 : 1 ≤ cg n g := List.count_pos_iff.mpr hn
  have h3 : 1 ≤ runs s n := by omega
  unfold runs at h3
  split at h3
  · omega
  · rename_i t e
    split at h3
    · exact ⟨t, e, by assumption⟩
    · omega
theorem one_queue {s : MS γ} {g : List Nat} {j : Job} (h : One s g) (hj : j ∈ s.queue) : ∃ t, s.tasks[j.n]? = some t ∧ t.out = none := by
  have h1 := h j.n
  have h2 : 1 ≤ cq j.n s.queue := by
    unfold cq
    obtain ⟨a, b, e⟩ := List.append_of_mem hj
    rw [e]; simp; omega
  have h3 : 1 ≤ runs s j.n := by unfold pend at h1; omega
  unfold runs at h3
  split at h3
  · omega
  · rename_i t e
    split at h3
    · exact ⟨t, e, by assumption⟩
    · omega
/-! ### the steps' bookkeeping -/
variable {W : Way γ} {mu : γ → Nat} {s : MS γ} {n m : Nat} {t : Tk γ}
theorem put_get (h : s.tasks[n]? = some t) (t' : Tk γ) : (s.put n t').tasks[n]? = some t' := by
  have : n < s.tasks.length := (List.getElem?_eq_some_iff.mp h).1
  simp [MS.put, this]
theorem put_ne {t' : Tk γ} (h : m ≠ n) : (s.put n t').tasks[m]? = s.tasks[m]? := by
  simp [MS.put, List.getElem?_set, h.symm]
theorem put_work (h : s.tasks[n]? = some t) (t' : Tk γ) : (s.put n t').work mu + tw mu t = s.work mu + tw mu t' := by
  have := tsum_set (f := tw mu) (t' := t') h
  simp only [MS.work, MS.put]; omega
theorem put_hist (h : s.tasks[n]? = some t) (t' : Tk γ) : (s.put n t').hist + t.holds.length = s.hist + t'.holds.length := by
  have := tsum_set (f := fun t => t.holds.length) (t' := t') h
  simp only [MS.hist, MS.put, List.length_set] at this ⊢; omega
theorem put_pend (h : s.tasks[n]? = some t) (t' : Tk γ) (x : Nat) : pend (s.put n t') x + ct x t = pend s x + ct x t' := by
  have := tsum_set (f := ct x) (t' := t') h
  simp only [pend, MS.put]; omega
theorem put_runs (t' : Tk γ) (h : s.tasks[n]? = some t) (e : t'.out = t.out) (x : Nat) : runs (s.put n t') x = runs s x := by
  by_cases hx : x = n
  · subst hx; unfold runs; rw [put_get h, h]; simp only; rw [e]
  · unfold runs; rw [put_ne hx]
theorem put_code_pend (h : s.tasks[n]? = some t) (c : γ) (x : Nat) : pend (s.put n (t.cod c)) x = pend s x := by
  have := put_pend h (t.cod c) x
  have e : ct x ((t.cod c) : Tk γ) = ct x t := rfl
  omega
theorem one_code {g : List Nat} (o : One s g) (h : s.tasks[n]? = some t) (c : γ) : One (s.put n (t.cod c)) g := fun x => by
  rw [put_code_pend h c x, put_runs (t.cod c) h rfl x]; exact o x
theorem code_work (h : s.tasks[n]? = some t) (c : γ) : (s.put n (t.cod c)).work mu + 4 * mu t.code = s.work mu + 4 * mu c := by
  have h1 := put_work (mu := mu) h (t.cod c)
  have e : tw mu t = 4 * mu t.code + (match t.out with | none => 2 * t.fol.length | some _ => 0) := rfl
  have e2 : tw mu (t.cod c) = 4 * mu c + (match t.out with | none => 2 * t.fol.length | some _ => 0) := rfl
  omega
theorem code_hist (h : s.tasks[n]? = some t) (c : γ) : (s.put n (t.cod c)).hist = s.hist := by
  have := put_hist h (t.cod c)
  have e : (t.cod c).holds = t.holds := rfl
  rw [e] at this; omega
theorem say_work {w : String} : (s.say n w).work mu = s.work mu := rfl
theorem say_hist {w : String} : (s.say n w).hist = s.hist + 1 := by simp only [MS.say, MS.hist, List.length_append, List.length_cons, List.length_nil]; omega
theorem one_say {g : List Nat} (o : One s g) {w : String} : One (s.say n w) g := o
theorem later_work {d : Dd} : (s.later n d).work mu = s.work mu + jw d := by simp only [MS.later, MS.enq, MS.work, qsum_add]; simp [qsum, Nat.add_assoc]
theorem later_hist {d : Dd} : (s.later n d).hist = s.hist := rfl
theorem one_later {g : List Nat} (o : One s (n :: g)) {d : Dd} : One (s.later n d) g := fun x => by
  have h := o x
  have e : pend (s.later n d) x = pend s x + if n = x then 1 else 0 := by
    simp only [pend, MS.later, MS.enq, cq_add, cq_one]; omega
  have e2 : cg x (n :: g) = cg x g + if n = x then 1 else 0 := by
    simp only [cg, List.count_cons, beq_iff_eq]
  have e3 : runs (s.later n d) x = runs s x := rfl
  omega
theorem settle_eq (h : s.tasks[n]? = some t) {o : Out} : settle W s n o = (s.put n (t.stop o s.now W.nil)).enq (folJ s.now o t.fol) := by
  unfold settle; rw [h]
theorem settle_work {bw : Int → Nat} (ok : WayOk bw W mu) (h : s.tasks[n]? = some t) (hr : t.out = none) {o : Out} : (settle W s n o).work mu + 4 * mu t.code + t.fol.length = s.work mu := by
  rw [settle_eq h]
  have h1 := put_work (mu := mu) h (t.stop o s.now W.nil)
  have e : tw mu t = 4 * mu t.code + 2 * t.fol.length := by unfold tw; rw [hr]
  have e2 : tw mu (t.stop o s.now W.nil) = 0 := by unfold tw; simp [ok.nil, Tk.stop]
  simp only [MS.work, MS.enq, qsum_add, qsum_fol] at h1 ⊢
  have e3 : (s.put n (t.stop o s.now W.nil)).queue = s.queue := rfl
  simp only [e3] at h1 ⊢
  omega
theorem settle_hist (h : s.tasks[n]? = some t) {o : Out} : (settle W s n o).hist = s.hist := by
  rw [settle_eq h]
  have := put_hist h (t.stop o s.now W.nil)
  simp only [MS.hist, MS.enq] at this ⊢
  have e : (t.stop o s.now W.nil).holds = t.holds := rfl
  rw [e] at this
  omega
theorem one_settle {g : List Nat} (o : One s (n :: g)) (h : s.tasks[n]? = some t) (hr : t.out = none) {ou : Out} : One (settle W s n ou) g := fun x => by
  have h0 := o x
  rw [settle_eq h]
  have h1 := put_pend h (t.stop ou s.now W.nil) x
  have e1 : ct x t = cf x t.fol := by unfold ct; rw [hr]
  have e2 : ct x (t.stop ou s.now W.nil) = 0 := rfl
  simp only [pend] at h1
  have e3 : (s.put n (t.stop ou s.now W.nil)).queue = s.queue := rfl
  simp only [e3] at h1
  have e4 : cg x (n :: g) = cg x g + if n = x then 1 else 0 := by simp only [cg, List.count_cons, beq_iff_eq]
  simp only [pend] at h0
  by_cases hx : n = x
  · subst hx
    have : runs s n = 1 := by unfold runs; rw [h]; simp [hr]
    rw [if_pos rfl] at e4
    have e6 : pend ((s.put n (t.stop ou s.now W.nil)).enq (folJ s.now ou t.fol)) n = cq n s.queue + cf n t.fol + tsum (ct n) (s.put n (t.stop ou s.now W.nil)).tasks := by
      simp only [pend, MS.enq, cq_add, cq_fol, e3]
    omega
  · rw [if_neg hx] at e4
    have e5 : runs ((s.put n (t.stop ou s.now W.nil)).enq (folJ s.now ou t.fol)) x = runs s x := by
      unfold runs
      show (match (s.put n _).tasks[x]? with | none => 0 | some t => _) = _
      rw [put_ne (fun z => hx z.symm)]
    have e6 : pend ((s.put n (t.stop ou s.now W.nil)).enq (folJ s.now ou t.fol)) x = cq x s.queue + cf x t.fol + tsum (ct x) (s.put n (t.stop ou s.now W.nil)).tasks := by
      simp only [pend, MS.enq, cq_add, cq_fol, e3]
    omega
theorem follow_work {g : List Nat} {b : Bool} (o : One s (n :: g)) : (follow s n m b).work mu ≤ s.work mu + 2 := by
  unfold follow
  split
  · omega
  · rename_i t e
    split
    · rename_i hr
      have h1 := put_work (mu := mu) e (t.fol1 b n)
      have e1 : tw mu t = 4 * mu t.code + 2 * t.fol.length := by unfold tw; rw [hr]
      have e2 : tw mu (t.fol1 b n) = 4 * mu t.code + 2 * (t.fol.length + 1) := by unfold tw; simp [hr, Tk.fol1]
      omega
    · rw [later_work, jw_mkD]; omega
theorem follow_hist {b : Bool} : (follow s n m b).hist = s.hist := by
  unfold follow
  split
  · rfl
  · rename_i t e
    split
    · have := put_hist e (t.fol1 b n)
      have e2 : (t.fol1 b n).holds = t.holds := rfl
      rw [e2] at this; omega
    · rfl
theorem one_follow {g : List Nat} {b : Bool} (o : One s (n :: g)) (hm : m < s.tasks.length) : One (follow s n m b) g := by
  unfold follow
  rw [List.getElem?_eq_getElem hm]
  simp only
  have e : s.tasks[m]? = some s.tasks[m] := List.getElem?_eq_getElem hm
  split
  · rename_i hr
    intro x
    have h0 := o x
    have h1 := put_pend e (s.tasks[m].fol1 b n) x
    have e1 : ct x s.tasks[m] = cf x s.tasks[m].fol := by unfold ct; rw [hr]
    have e2 : ct x (s.tasks[m].fol1 b n) = cf x s.tasks[m].fol + if n = x then 1 else 0 := by unfold ct; simp [hr, Tk.fol1, cf_add, cf_one]
    have e3 : cg x (n :: g) = cg x g + if n = x then 1 else 0 := by simp only [cg, List.count_cons, beq_iff_eq]
    rw [put_runs (s.tasks[m].fol1 b n) e rfl]
    omega
  · exact one_later o
theorem add_work {t' : Tk γ} : (s.add t').work mu = s.work mu + tw mu t' := by simp only [MS.add, MS.work, tsum_add]; omega
theorem add_hist {t' : Tk γ} : (s.add t').hist = s.hist + 1 + t'.holds.length := by simp [MS.add, MS.hist, tsum_add]; omega
theorem add_get {t' : Tk γ} : (s.add t').tasks[s.tasks.length]? = some t' := by simp [MS.add]
theorem one_add {g : List Nat} (o : One s g) {b : Blk} : One (s.add (newTk W b)) (s.tasks.length :: g) := fun x => by
  have h0 := o x
  have e1 : pend (s.add (newTk W b)) x = pend s x := by simp only [pend, MS.add, tsum_add]; have : ct x (newTk W b) = 0 := rfl; omega
  have e3 : cg x (s.tasks.length :: g) = cg x g + if s.tasks.length = x then 1 else 0 := by simp only [cg, List.count_cons, beq_iff_eq]
  by_cases hx : s.tasks.length = x
  · subst hx
    have r0 : runs s s.tasks.length = 0 := by unfold runs; simp
    have r1 : runs (s.add (newTk W b)) s.tasks.length = 1 := by unfold runs; rw [add_get]; rfl
    rw [if_pos rfl] at e3
    omega
  · rw [if_neg hx] at e3
    have : runs (s.add (newTk W b)) x = runs s x := by
      unfold runs MS.add
      simp only
      by_cases h : x < s.tasks.length
      · rw [List.getElem?_append_left h]
      · rw [List.getElem?_eq_none (by simp; omega), List.getElem?_eq_none (by omega)]
    omega
theorem hput_len {h : List (String × Nat)} {v : String} {k : Nat} : (hput h v k).length ≤ h.length + 1 := by
  unfold hput; split <;> simp
theorem hold_work {v : String} : (hold s n v m).work mu = s.work mu := by
  unfold hold
  split
  · rfl
  · rename_i t e
    have := put_work (mu := mu) e (t.hol v m)
    have e2 : tw mu (t.hol v m) = tw mu t := rfl
    omega
theorem hold_hist {v : String} : (hold s n v m).hist ≤ s.hist + 1 := by
  unfold hold
  split
  · omega
  · rename_i t e
    have := put_hist e (t.hol v m)
    have := hput_len (h := t.holds) (v := v) (k := m)
    simp only [Tk.hol] at *; omega
theorem one_hold {g : List Nat} (o : One s g) {v : String} : One (hold s n v m) g := by
  unfold hold
  split
  · exact o
  · rename_i t e
    intro x
    have := put_pend e (t.hol v m) x
    have e2 : ct x (t.hol v m) = ct x t := rfl
    rw [put_runs (t.hol v m) e rfl]
    have := o x
    omega
/-- what is held is a task -/
def HoldOk (s : MS γ) : Prop := (∀ t ∈ s.tasks, ∀ p ∈ t.holds, p.2 < s.tasks.length) ∧ ∀ j ∈ s.queue, ∀ m, j.d = .adopt m → m < s.tasks.length
end
end SK.C

/-! C3: every run ends. -/
namespace SK.C
section
variable {γ : Type} {W : Way γ} {mu : γ → Nat} {bw : Int → Nat} {P : List Blk} {s : MS γ} {n m : Nat} {t : Tk γ}
theorem go_mono : ∀ {f : Nat} {s : MS γ} {n : Nat} {r : MS γ} (k : Nat), go W P f s n = some r → go W P (f + k) s n = some r
  | 0, _, _, _, _, h => by simp [go] at h
  | f + 1, s, n, r, k, h => by
    rw [Nat.add_right_comm]
    unfold go at h ⊢
    split at h
    · cases h
    · rename_i t e
      split at h
      · rename_i ho; rw [if_pos ho]; exact h
      · rename_i ho
        rw [if_neg ho]
        split at h
        · exact h
        · exact go_mono k h
        · split at h
          · exact go_mono k h
          · rename_i b v _
            cases eB : P[b.toNat]? with
            | none => rw [eB] at h; cases h
            | some B =>
              rw [eB] at h
              simp only at h ⊢
              cases e2 : go W P f ((s.put n (t.cod _)).add (newTk W B)) s.tasks.length with
              | none => rw [e2] at h; cases h
              | some s2 =>
                rw [e2] at h
                rw [go_mono k e2]
                exact go_mono k h
          · exact h
          · exact go_mono k h
          · exact go_mono k h
          · exact go_mono k h
          · exact h
          · exact h
          · exact h
theorem go_le {f f' : Nat} {s : MS γ} {n : Nat} {r : MS γ} (h : go W P f s n = some r) (hf : f ≤ f') : go W P f' s n = some r := by
  have := go_mono (f' - f) h
  rwa [Nat.add_sub_cancel' hf] at this
theorem job_le {f f' : Nat} {s : MS γ} {r : MS γ} (h : job W P f s = some r) (hf : f ≤ f') : job W P f' s = some r := by
  unfold job at h ⊢
  split at h
  · exact h
  · split at h
    · exact h
    · exact h
    · exact go_le h hf
theorem runAll_le : ∀ {f f' : Nat} {s : MS γ} {r : MS γ}, runAll W P f s = some r → f ≤ f' → runAll W P f' s = some r
  | 0, _, _, _, h, _ => by simp [runAll] at h
  | f + 1, 0, _, _, _, hf => by omega
  | f + 1, f' + 1, s, r, h, hf => by
    unfold runAll at h ⊢
    split at h
    · rename_i e; rw [if_pos e]; exact h
    · rename_i e
      rw [if_neg e]
      cases e2 : job W P f s with
      | none => rw [e2] at h; cases h
      | some s2 =>
        rw [e2] at h
        rw [job_le e2 (by omega)]
        exact runAll_le h (by omega)
/-- what is held is a task -/
def HOk (s : MS γ) : Prop := (∀ t ∈ s.tasks, ∀ p ∈ t.holds, p.2 < s.tasks.length) ∧ ∀ j ∈ s.queue, ∀ m, j.d = .adopt m → m < s.tasks.length
theorem hget_mem {h : List (String × Nat)} {v : String} {m : Nat} (e : hget h v = some m) : ∃ p ∈ h, p.2 = m := by
  unfold hget at e
  cases f : h.find? fun p => decide (p.1 = v) with
  | none => rw [f] at e; cases e
  | some p => rw [f] at e; cases e; exact ⟨p, List.mem_of_find?_eq_some f, rfl⟩
theorem hput_mem {h : List (String × Nat)} {v : String} {m : Nat} {p : String × Nat} (e : p ∈ hput h v m) : p ∈ h ∨ p = (v, m) := by
  unfold hput at e
  split at e
  · obtain ⟨q, hq, e2⟩ := List.mem_map.mp e
    split at e2
    · exact .inr e2.symm
    · subst e2; exact .inl hq
  · rcases List.mem_append.mp e with e | e
    · exact .inl e
    · exact .inr (by simpa using e)
theorem hok_put {t' : Tk γ} (h : HOk s) (h' : ∀ p ∈ t'.holds, p.2 < s.tasks.length) : HOk (s.put n t') := by
  refine ⟨fun u hu p hp => ?_, fun j hj m e => ?_⟩
  · have : (s.put n t').tasks.length = s.tasks.length := by simp [MS.put]
    rw [this]
    rcases List.mem_or_eq_of_mem_set hu with z | z
    · exact h.1 u z p hp
    · subst z; exact h' p hp
  · have : (s.put n t').tasks.length = s.tasks.length := by simp [MS.put]
    rw [this]
    exact h.2 j hj m e
theorem hok_enq {q : List Job} (h : HOk s) (h' : ∀ j ∈ q, ∀ m, j.d = .adopt m → m < s.tasks.length) : HOk (s.enq q) := by
  refine ⟨h.1, fun j hj m e => ?_⟩
  rcases List.mem_append.mp hj with z | z
  · exact h.2 j z m e
  · exact h' j z m e
theorem put_len {t' : Tk γ} : (s.put n t').tasks.length = s.tasks.length := by simp [MS.put]
theorem hok_code (h : HOk s) (e : s.tasks[n]? = some t) (c : γ) : HOk (s.put n (t.cod c)) := hok_put h fun p hp => h.1 t (List.mem_of_getElem? e) p hp
theorem hok_settle (h : HOk s) {o : Out} : HOk (settle W s n o) := by
  unfold settle
  split
  · exact h
  · rename_i t e
    refine hok_enq (hok_put h fun p hp => h.1 t (List.mem_of_getElem? e) p hp) fun j hj m e2 => ?_
    unfold folJ at hj
    obtain ⟨p, _, e3⟩ := List.mem_map.mp hj
    subst e3
    cases hb : p.1 <;> rw [hb] at e2 <;> cases e2
theorem settle_len {o : Out} : (settle W s n o).tasks.length = s.tasks.length := by
  unfold settle
  split
  · rfl
  · simp [MS.enq, MS.put]
theorem hok_later (h : HOk s) {d : Dd} (h' : ∀ m, d = .adopt m → m < s.tasks.length) : HOk (s.later n d) := hok_enq h fun j hj m e => by
  simp at hj; subst hj; exact h' m e
theorem hok_follow {b : Bool} (h : HOk s) : HOk (follow s n m b) := by
  unfold follow
  split
  · exact h
  · rename_i t e
    split
    · exact hok_put h fun p hp => h.1 t (List.mem_of_getElem? e) p hp
    · refine hok_later h fun m e => ?_
      cases b <;> cases e
theorem follow_len {b : Bool} : (follow s n m b).tasks.length = s.tasks.length := by
  unfold follow
  split
  · rfl
  · split
    · exact put_len
    · rfl
theorem hok_failT (h : HOk s) : HOk (failT W s n) := by
  unfold failT
  split
  · exact h
  · rename_i t e
    split
    · exact hok_code h e _
    · exact hok_settle h
theorem failT_len : (failT W s n).tasks.length = s.tasks.length := by
  unfold failT
  split
  · rfl
  · split
    · exact put_len
    · exact settle_len
theorem hok_add (h : HOk s) {b : Blk} : HOk (s.add (newTk W b)) := by
  have e : (s.add (newTk W b)).tasks.length = s.tasks.length + 1 := by simp [MS.add]
  refine ⟨fun u hu p hp => ?_, fun j hj m e2 => ?_⟩
  · rw [e]
    rcases List.mem_append.mp hu with z | z
    · have := h.1 u z p hp; omega
    · simp at z; subst z; cases hp
  · rw [e]
    have := h.2 j hj m e2; omega
theorem hok_hold {v : String} (h : HOk s) (hm : m < s.tasks.length) : HOk (hold s n v m) := by
  unfold hold
  split
  · exact h
  · rename_i t e
    refine hok_put h fun p hp => ?_
    rcases hput_mem hp with z | z
    · exact h.1 t (List.mem_of_getElem? e) p z
    · subst z; exact hm
theorem hold_len {v : String} : (hold s n v m).tasks.length = s.tasks.length := by
  unfold hold
  split
  · rfl
  · exact put_len
theorem failT_work (ok : WayOk bw W mu) (h : s.tasks[n]? = some t) (hr : t.out = none) : (failT W s n).work mu ≤ s.work mu := by
  unfold failT
  rw [h]
  simp only
  split
  · rename_i c e
    have := code_work (mu := mu) h c
    have := ok.fall _ _ e
    omega
  · have := settle_work ok h hr (o := .fail)
    omega
theorem failT_hist (h : s.tasks[n]? = some t) : (failT W s n).hist = s.hist := by
  unfold failT
  rw [h]
  simp only
  split
  · exact code_hist h _
  · exact settle_hist h
/-- either still going, or settled -/
theorem one_failT {g : List Nat} (o : One s (n :: g)) (h : s.tasks[n]? = some t) (hr : t.out = none) :
    (∃ t', (failT W s n).tasks[n]? = some t' ∧ t'.out = none ∧ One (failT W s n) (n :: g)) ∨ ((∃ t', (failT W s n).tasks[n]? = some t' ∧ t'.out.isSome = true) ∧ One (failT W s n) g) := by
  unfold failT
  rw [h]
  simp only
  split
  · exact .inl ⟨_, put_get h _, hr, one_code o h _⟩
  · refine .inr ⟨?_, one_settle o h hr⟩
    rw [settle_eq h]
    exact ⟨_, put_get h _, rfl⟩
/-- the sizes of bodies bound what they do; a start names a body -/
structure Bods (P : List Blk) (bw : Int → Nat) : Prop where
  wt : ∀ (b : Int) B, P[b.toNat]? = some B → wts bw B + 1 ≤ bw b
/-- all starts that may come name bodies -/
def CodeOk (P : List Blk) (okc : γ → Prop) (W : Way γ) : Prop := (∀ (b : Nat) B, P[b]? = some B → okc (W.init B)) ∧ (∀ c s c', okc c → W.next c = .item s c' → okc c' ∧ (∀ b v, s = .start b v → b.toNat < P.length) ∧ (∀ b h, s = .tr b h → okc (W.try_ c' b h)) ∧ ∀ k b, s = .rep k b → okc (W.rep c' k b)) ∧
  (∀ c c', okc c → W.next c = .quiet c' → okc c') ∧ (∀ c c', okc c → W.fall c = some c' → okc c') ∧ okc W.nil
def AllOk (okc : γ → Prop) (s : MS γ) : Prop := ∀ t ∈ s.tasks, okc t.code
variable {okc : γ → Prop}
theorem all_put {t' : Tk γ} (h : AllOk okc s) (h' : okc t'.code) : AllOk okc (s.put n t') := fun u hu => by
  rcases List.mem_or_eq_of_mem_set hu with z | z
  · exact h u z
  · subst z; exact h'
theorem all_settle (k : okc W.nil) (h : AllOk okc s) {o : Out} : AllOk okc (settle W s n o) := by
  unfold settle
  split
  · exact h
  · exact all_put (n := n) h k
theorem all_failT (co : CodeOk P okc W) (h : AllOk okc s) : AllOk okc (failT W s n) := by
  unfold failT
  split
  · exact h
  · rename_i t e
    split
    · rename_i c e2; exact all_put h (co.2.2.2.1 _ _ (h t (List.mem_of_getElem? e)) e2)
    · exact all_settle co.2.2.2.2 h
theorem all_follow {b : Bool} (h : AllOk okc s) : AllOk okc (follow s n m b) := by
  unfold follow
  split
  · exact h
  · rename_i t e
    split
    · exact all_put h (h t (List.mem_of_getElem? e))
    · exact h
theorem all_hold {v : String} (h : AllOk okc s) : AllOk okc (hold s n v m) := by
  unfold hold
  split
  · exact h
  · rename_i t e
    exact all_put h (h t (List.mem_of_getElem? e))
theorem all_add (co : CodeOk P okc W) {b : Nat} {B : Blk} (eB : P[b]? = some B) (h : AllOk okc s) : AllOk okc (s.add (newTk W B)) := fun u hu => by
  rcases List.mem_append.mp hu with z | z
  · exact h u z
  · simp at z; subst z; exact co.1 b B eB
/-- what a run keeps -/
structure Good (okc : γ → Prop) (s : MS γ) (g : List Nat) : Prop where
  one : One s g
  hok : HOk s
  cod : AllOk okc s
theorem go_ends (ok : WayOk bw W mu) (bo : Bods P bw) (co : CodeOk P okc W) : ∀ (N : Nat) (s : MS γ) (n : Nat) (g : List Nat), s.work mu ≤ N → Good okc s (n :: g) →
    ∃ f s', go W P f s n = some s' ∧ Good okc s' g ∧ s'.work mu ≤ s.work mu ∧ s'.work mu + s'.hist ≤ s.work mu + s.hist ∧ s.tasks.length ≤ s'.tasks.length := by
  intro N
  induction N using Nat.strongRecOn with
  | ind N ih =>
    intro s n g hN G
    obtain ⟨t, e, hr⟩ := one_runs G.one List.mem_cons_self
    have lt := (List.getElem?_eq_some_iff.mp e).1
    have hc := G.cod t (List.mem_of_getElem? e)
    cases hn : W.next t.code with
    | fin =>
      have w := settle_work ok e hr (o := .ret)
      have h := settle_hist (W := W) e (o := .ret)
      exact ⟨1, settle W s n .ret, by simp [go, e, hr, hn], ⟨one_settle G.one e hr, hok_settle G.hok, all_settle co.2.2.2.2 G.cod⟩, by omega, by omega, by rw [settle_len]; omega⟩
    | quiet c =>
      have w := code_work (mu := mu) e c
      have h := code_hist e c
      have hq := ok.quiet _ _ hn
      obtain ⟨f, s', e1, G', w', h', l'⟩ := ih _ (by omega) (s.put n (t.cod c)) n g (Nat.le_refl _) ⟨one_code G.one e c, hok_code G.hok e c, all_put G.cod (co.2.2.1 _ _ hc hn)⟩
      rw [put_len] at l'
      exact ⟨f + 1, s', by simp [go, e, hr, hn, e1], G', by omega, by omega, l'⟩
    | item st c =>
      have w := code_work (mu := mu) e c
      have h := code_hist e c
      have hi := ok.item _ _ _ hn
      have e1 := put_get e (t.cod c)
      have o1 : One (s.put n (t.cod c)) (n :: g) := one_code G.one e c
      have k1 := hok_code G.hok e c
      obtain ⟨oc, ost, otr, orp⟩ := co.2.1 _ _ _ hc hn
      have a1 : AllOk okc (s.put n (t.cod c)) := all_put G.cod oc
      have hr1 : (t.cod c).out = none := hr
      have wp := wt_pos bw (s := st)
      cases st with
      | say x =>
        have hy := say_hist (s := s.put n (t.cod c)) (n := n) (w := x)
        have hw := say_work (mu := mu) (s := s.put n (t.cod c)) (n := n) (w := x)
        obtain ⟨f, s', e2, G', w', h', l'⟩ := ih _ (by omega) ((s.put n (t.cod c)).say n x) n g (Nat.le_refl _) ⟨one_say o1, k1, a1⟩
        have l2 : ((s.put n (t.cod c)).say n x).tasks.length = s.tasks.length := put_len
        exact ⟨f + 1, s', by simp [go, e, hr, hn, e2], G', by omega, by omega, by omega⟩
      | start b v =>
        have hb := ost b v rfl
        have eB : P[b.toNat]? = some P[b.toNat] := List.getElem?_eq_getElem hb
        have hw := bo.wt b _ eB
        have wadd := add_work (mu := mu) (s := s.put n (t.cod c)) (t' := newTk W P[b.toNat])
        have hadd := add_hist (s := s.put n (t.cod c)) (t' := newTk W P[b.toNat])
        have wn : tw mu (newTk W P[b.toNat]) ≤ 4 * (wts bw P[b.toNat] + 1) := by unfold tw newTk; simp; have := ok.init P[b.toNat]; omega
        have hn0 : (newTk W P[b.toNat]).holds.length = 0 := rfl
        have ew : wt bw (.start b v) = 2 + bw b := by simp [wt]
        have on := one_add (W := W) o1 (b := P[b.toNat])
        rw [put_len] at on
        obtain ⟨f1, s2, e2, G2, w2, h2, l2⟩ := ih _ (by omega) ((s.put n (t.cod c)).add (newTk W P[b.toNat])) s.tasks.length (n :: g) (Nat.le_refl _) ⟨on, hok_add k1, all_add co eB a1⟩
        have la : ((s.put n (t.cod c)).add (newTk W P[b.toNat])).tasks.length = s.tasks.length + 1 := by simp [MS.add, MS.put]
        have wh := hold_work (mu := mu) (s := s2) (n := n) (v := v) (m := s.tasks.length)
        have hh := hold_hist (s := s2) (n := n) (v := v) (m := s.tasks.length)
        obtain ⟨f2, s3, e3, G3, w3, h3, l3⟩ := ih _ (by omega) (hold s2 n v s.tasks.length) n g (Nat.le_refl _) ⟨one_hold G2.one, hok_hold G2.hok (by omega), all_hold G2.cod⟩
        rw [hold_len] at l3
        refine ⟨max f1 f2 + 1, s3, ?_, G3, by omega, by omega, by omega⟩
        have e2' := go_le e2 (Nat.le_max_left f1 f2)
        have e3' := go_le e3 (Nat.le_max_right f1 f2)
        unfold go
        simp [e, hr, hn, eB, e2', e3']
      | wait v =>
        cases hg : hget t.holds v with
        | none =>
          have lw := later_work (mu := mu) (s := s.put n (t.cod c)) (n := n) (d := .go .ret)
          have lh : ((s.put n (t.cod c)).later n (.go .ret)).hist = (s.put n (t.cod c)).hist := later_hist
          have ej : jw (.go .ret) = 1 := rfl
          exact ⟨1, (s.put n (t.cod c)).later n (.go .ret), by simp [go, e, hr, hn, hg], ⟨one_later o1, hok_later k1 (fun m z => by cases z), a1⟩, by omega, by omega, by show s.tasks.length ≤ (s.put n (t.cod c)).tasks.length; rw [put_len]; omega⟩
        | some m =>
          have fw := follow_work (mu := mu) (m := m) (b := false) o1
          have fh := follow_hist (s := s.put n (t.cod c)) (n := n) (m := m) (b := false)
          obtain ⟨p, hp, ep⟩ := hget_mem hg
          have hm : m < (s.put n (t.cod c)).tasks.length := by rw [put_len]; rw [← ep]; exact G.hok.1 t (List.mem_of_getElem? e) p hp
          exact ⟨1, follow (s.put n (t.cod c)) n m false, by simp [go, e, hr, hn, hg], ⟨one_follow o1 hm, hok_follow k1, all_follow a1⟩, by omega, by omega, by rw [follow_len, put_len]; omega⟩
      | adopt v =>
        cases hg : hget t.holds v with
        | none =>
          have w2 := settle_work ok e1 hr1 (o := .ret)
          have h2 := settle_hist (W := W) e1 (o := .ret)
          exact ⟨1, settle W (s.put n (t.cod c)) n .ret, by simp [go, e, hr, hn, hg], ⟨one_settle o1 e1 hr1, hok_settle k1, all_settle co.2.2.2.2 a1⟩, by omega, by omega, by rw [settle_len, put_len]; omega⟩
        | some m =>
          have lw := later_work (mu := mu) (s := s.put n (t.cod c)) (n := n) (d := .adopt m)
          have lh : ((s.put n (t.cod c)).later n (.adopt m)).hist = (s.put n (t.cod c)).hist := later_hist
          have ej : jw (.adopt m) = 3 := rfl
          obtain ⟨p, hp, ep⟩ := hget_mem hg
          have hm : m < (s.put n (t.cod c)).tasks.length := by rw [put_len]; rw [← ep]; exact G.hok.1 t (List.mem_of_getElem? e) p hp
          exact ⟨1, (s.put n (t.cod c)).later n (.adopt m), by simp [go, e, hr, hn, hg], ⟨one_later o1, hok_later k1 (fun m' z => by cases z; exact hm), a1⟩, by omega, by omega, by show s.tasks.length ≤ (s.put n (t.cod c)).tasks.length; rw [put_len]; omega⟩
      | pause =>
        have lw := later_work (mu := mu) (s := s.put n (t.cod c)) (n := n) (d := .go .ret)
        have lh : ((s.put n (t.cod c)).later n (.go .ret)).hist = (s.put n (t.cod c)).hist := later_hist
        have ej : jw (.go .ret) = 1 := rfl
        exact ⟨1, (s.put n (t.cod c)).later n (.go .ret), by simp [go, e, hr, hn], ⟨one_later o1, hok_later k1 (fun m z => by cases z), a1⟩, by omega, by omega, by show s.tasks.length ≤ (s.put n (t.cod c)).tasks.length; rw [put_len]; omega⟩
      | ret =>
        have w2 := settle_work ok e1 hr1 (o := .ret)
        have h2 := settle_hist (W := W) e1 (o := .ret)
        exact ⟨1, settle W (s.put n (t.cod c)) n .ret, by simp [go, e, hr, hn], ⟨one_settle o1 e1 hr1, hok_settle k1, all_settle co.2.2.2.2 a1⟩, by omega, by omega, by rw [settle_len, put_len]; omega⟩
      | fail =>
        have w2 := failT_work ok e1 hr1
        have h2 := failT_hist (W := W) e1
        have l2 : (failT W (s.put n (t.cod c)) n).tasks.length = s.tasks.length := by rw [failT_len, put_len]
        rcases one_failT (W := W) o1 e1 hr1 with ⟨t', e2, hr2, o2⟩ | ⟨⟨t', e2, hr2⟩, o2⟩
        · obtain ⟨f, s', e3, G', w', h', l'⟩ := ih _ (by omega) (failT W (s.put n (t.cod c)) n) n g (Nat.le_refl _) ⟨o2, hok_failT k1, all_failT co a1⟩
          exact ⟨f + 1, s', by simp [go, e, hr, hn, e3], G', by omega, by omega, by omega⟩
        · exact ⟨2, _, by simp [go, e, hr, hn, e2, hr2], ⟨o2, hok_failT k1, all_failT co a1⟩, by omega, by omega, by omega⟩
      | tr b h0 =>
        have w2 := code_work (mu := mu) e (W.try_ c b h0)
        have h2 := code_hist e (W.try_ c b h0)
        have ht := ok.try_ c b h0
        have ew : wt bw (.tr b h0) = 3 + wts bw b + wts bw h0 := by simp [wt]
        obtain ⟨f, s', e2, G', w', h', l'⟩ := ih _ (by omega) (s.put n (t.cod (W.try_ c b h0))) n g (Nat.le_refl _) ⟨one_code G.one e _, hok_code G.hok e _, all_put G.cod (otr b h0 rfl)⟩
        rw [put_len] at l'
        exact ⟨f + 1, s', by simp [go, e, hr, hn, e2], G', by omega, by omega, l'⟩
      | rep k b =>
        have w2 := code_work (mu := mu) e (W.rep c k b)
        have h2 := code_hist e (W.rep c k b)
        have ht := ok.rep c k b
        have ew : wt bw (.rep k b) = 2 + k.toNat * (1 + wts bw b) := by simp [wt]
        obtain ⟨f, s', e2, G', w', h', l'⟩ := ih _ (by omega) (s.put n (t.cod (W.rep c k b))) n g (Nat.le_refl _) ⟨one_code G.one e _, hok_code G.hok e _, all_put G.cod (orp k b rfl)⟩
        rw [put_len] at l'
        exact ⟨f + 1, s', by simp [go, e, hr, hn, e2], G', by omega, by omega, l'⟩
end
end SK.C

/-! C4: runs end, in both ways alike. -/
namespace SK.C
section
variable {γ : Type} {W : Way γ} {mu : γ → Nat} {bw : Int → Nat} {P : List Blk} {s : MS γ} {n m : Nat} {t : Tk γ} {okc : γ → Prop}
theorem one_pop {j : Job} {q : List Job} (e : s.queue = j :: q) (o : One s []) : One (s.pop j q) [j.n] := fun x => by
  have h := o x
  have e1 : pend s x = (if j.n = x then 1 else 0) + pend (s.pop j q) x := by
    simp only [pend, e, cq_cons, MS.pop]; omega
  have e2 : cg x [j.n] = if j.n = x then 1 else 0 := by simp only [cg, List.count_cons, List.count_nil, beq_iff_eq]; omega
  have e3 : runs (s.pop j q) x = runs s x := rfl
  have e4 : cg x [] = 0 := rfl
  omega
theorem pop_work {j : Job} {q : List Job} (e : s.queue = j :: q) : (s.pop j q).work mu + jw j.d = s.work mu := by
  simp only [MS.work, MS.pop, e, qsum, List.map_cons, List.sum_cons]; omega
theorem hok_pop {j : Job} {q : List Job} (e : s.queue = j :: q) (h : HOk s) : HOk (s.pop j q) := ⟨h.1, fun i hi m e2 => h.2 i (by rw [e]; exact List.mem_cons_of_mem _ hi) m e2⟩
theorem job_ends (ok : WayOk bw W mu) (bo : Bods P bw) (co : CodeOk P okc W) {s : MS γ} (G : Good okc s []) :
    ∃ f s', job W P f s = some s' ∧ Good okc s' [] ∧ (s.queue ≠ [] → s'.work mu < s.work mu) ∧ s'.work mu + s'.hist ≤ s.work mu + s.hist ∧ s.tasks.length ≤ s'.tasks.length := by
  cases e : s.queue with
  | nil => exact ⟨0, s, by simp [job, e], G, fun z => absurd rfl z, Nat.le_refl _, Nat.le_refl _⟩
  | cons j q =>
    have o1 := one_pop e G.one
    have w1 := pop_work (mu := mu) e
    have k1 := hok_pop e G.hok
    have hh : (s.pop j q).hist = s.hist := rfl
    obtain ⟨t, et, hr⟩ := one_runs o1 List.mem_cons_self
    have a1 : AllOk okc (s.pop j q) := G.cod
    cases ed : j.d with
    | adopt m =>
      have hm : m < s.tasks.length := G.hok.2 j (by rw [e]; exact List.mem_cons_self) m ed
      have fw := follow_work (mu := mu) (m := m) (b := true) o1
      have fh := follow_hist (s := s.pop j q) (n := j.n) (m := m) (b := true)
      have ej : jw j.d = 3 := by rw [ed]; rfl
      exact ⟨0, follow (s.pop j q) j.n m true, by simp [job, e, ed], ⟨one_follow o1 hm, hok_follow k1, all_follow a1⟩, fun _ => by omega, by omega, by rw [follow_len]; exact Nat.le_refl _⟩
    | settle o =>
      have w2 := settle_work ok et hr (o := o)
      have h2 := settle_hist (W := W) et (o := o)
      have ej : jw j.d = 1 := by rw [ed]; rfl
      exact ⟨0, settle W (s.pop j q) j.n o, by simp [job, e, ed], ⟨one_settle o1 et hr, hok_settle k1, all_settle co.2.2.2.2 a1⟩, fun _ => by omega, by omega, by rw [settle_len]; exact Nat.le_refl _⟩
    | go o =>
      have ej : jw j.d = 1 := by rw [ed]; rfl
      by_cases ho : o = .fail
      · have w2 := failT_work ok et hr
        have h2 := failT_hist (W := W) et
        have l2 : (failT W (s.pop j q) j.n).tasks.length = s.tasks.length := failT_len
        rcases one_failT (W := W) o1 et hr with ⟨t', e2, hr2, o2⟩ | ⟨⟨t', e2, hr2⟩, o2⟩
        · obtain ⟨f, s', e3, G', w', h', l'⟩ := go_ends ok bo co _ (failT W (s.pop j q) j.n) j.n [] (Nat.le_refl _) ⟨o2, hok_failT k1, all_failT co a1⟩
          exact ⟨f, s', by simp [job, e, ed, ho, e3], G', fun _ => by omega, by omega, by omega⟩
        · exact ⟨1, failT W (s.pop j q) j.n, by simp [job, e, ed, ho, go, e2, hr2], ⟨o2, hok_failT k1, all_failT co a1⟩, fun _ => by omega, by omega, by omega⟩
      · obtain ⟨f, s', e3, G', w', h', l'⟩ := go_ends ok bo co _ (s.pop j q) j.n [] (Nat.le_refl _) ⟨o1, k1, a1⟩
        exact ⟨f, s', by simp [job, e, ed, ho, e3], G', fun _ => by omega, by omega, l'⟩
theorem runAll_ends (ok : WayOk bw W mu) (bo : Bods P bw) (co : CodeOk P okc W) : ∀ (N : Nat) (s : MS γ), s.work mu ≤ N → Good okc s [] →
    ∃ f s', runAll W P f s = some s' ∧ Good okc s' [] ∧ s'.queue = [] ∧ s'.work mu + s'.hist ≤ s.work mu + s.hist ∧ s.tasks.length ≤ s'.tasks.length := by
  intro N
  induction N using Nat.strongRecOn with
  | ind N ih =>
    intro s hN G
    by_cases hq : s.queue = []
    · exact ⟨1, s, by simp [runAll, hq], G, hq, Nat.le_refl _, Nat.le_refl _⟩
    · obtain ⟨f, s1, e1, G1, w1, h1, l1⟩ := job_ends ok bo co G
      have w1 := w1 hq
      obtain ⟨f2, s2, e2, G2, q2, h2, l2⟩ := ih _ (by omega) s1 (Nat.le_refl _) G1
      refine ⟨max f f2 + 1, s2, ?_, G2, q2, by omega, by omega⟩
      unfold runAll
      rw [if_neg hq, job_le e1 (Nat.le_max_left f f2)]
      exact runAll_le e2 (Nat.le_max_right f f2)
theorem startT_ends (ok : WayOk bw W mu) (bo : Bods P bw) (co : CodeOk P okc W) {s : MS γ} (G : Good okc s []) {b : Int} (hb : b.toNat < P.length) :
    ∃ f s', startT W P f s b = some s' ∧ Good okc s' [] ∧ s'.work mu + s'.hist ≤ s.work mu + s.hist + 4 * bw b + 1 ∧ s.tasks.length < s'.tasks.length := by
  have eB : P[b.toNat]? = some P[b.toNat] := List.getElem?_eq_getElem hb
  have hw := bo.wt b _ eB
  have wadd := add_work (mu := mu) (s := s) (t' := newTk W P[b.toNat])
  have hadd := add_hist (s := s) (t' := newTk W P[b.toNat])
  have wn : tw mu (newTk W P[b.toNat]) ≤ 4 * (wts bw P[b.toNat] + 1) := by unfold tw newTk; simp; have := ok.init P[b.toNat]; omega
  have hn0 : (newTk W P[b.toNat]).holds.length = 0 := rfl
  have la : (s.add (newTk W P[b.toNat])).tasks.length = s.tasks.length + 1 := by simp [MS.add]
  obtain ⟨f, s', e, G', w', h', l'⟩ := go_ends ok bo co _ (s.add (newTk W P[b.toNat])) s.tasks.length [] (Nat.le_refl _) ⟨one_add (W := W) G.one, hok_add G.hok, all_add co eB G.cod⟩
  exact ⟨f, s', by simp [startT, eB, e], G', by omega, by omega⟩
theorem good0 {okc : γ → Prop} : Good okc (ms0 : MS γ) [] := ⟨fun x => by simp [pend, cg, ms0, cq, tsum], ⟨fun t h => by simp [ms0] at h, fun t h => by simp [ms0] at h⟩, fun t h => by simp [ms0] at h⟩
end
/-! ### starts name bodies -/
mutual
def stOk (p : Int → Prop) : Stm → Prop
  | .start b _ => p b
  | .tr b h => stsOk p b ∧ stsOk p h
  | .rep _ b => stsOk p b
  | .say _ => True | .pause => True | .wait _ => True | .adopt _ => True | .ret => True | .fail => True
def stsOk (p : Int → Prop) : List Stm → Prop
  | [] => True
  | s :: r => stOk p s ∧ stsOk p r
end
theorem stsOk_iff {p : Int → Prop} : ∀ {b : List Stm}, stsOk p b ↔ ∀ s ∈ b, stOk p s
  | [] => by simp [stsOk]
  | s :: r => by simp [stsOk, stsOk_iff (b := r)]
theorem wts_app {bw : Int → Nat} : ∀ {a b : List Stm}, wts bw (a ++ b) = wts bw a + wts bw b
  | [], b => by simp [wts]
  | s :: r, b => by
    simp only [List.cons_append, wts, wts_app (a := r)]; omega
def itOk (p : Int → Prop) : It → Prop
  | .st s => stOk p s
  | .mark h => stsOk p h
def wi (bw : Int → Nat) : It → Nat
  | .st s => wt bw s
  | .mark h => 1 + wts bw h
def muF (bw : Int → Nat) (c : List It) : Nat := (c.map (wi bw)).sum
theorem muF_st {bw : Int → Nat} : ∀ {b : List Stm}, ((b.map It.st).map (wi bw)).sum = wts bw b
  | [] => rfl
  | s :: r => by
    simp only [List.map_cons, List.sum_cons, wts]
    rw [muF_st (b := r)]; rfl
theorem sum_rep {bw : Int → Nat} {b : List Stm} : ∀ {k : Nat}, (((List.replicate k (b.map It.st)).flatten).map (wi bw)).sum = k * wts bw b
  | 0 => by simp
  | k + 1 => by
    rw [List.replicate_succ, List.flatten_cons, List.map_append, List.sum_append, muF_st, sum_rep, Nat.succ_mul]; omega
theorem muF_app {bw : Int → Nat} {a b : List It} : muF bw (a ++ b) = muF bw a + muF bw b := by simp [muF]
theorem muF_cons {bw : Int → Nat} {a : It} {b : List It} : muF bw (a :: b) = wi bw a + muF bw b := by simp [muF]
theorem muF_b {bw : Int → Nat} {b : List Stm} : muF bw (b.map It.st) = wts bw b := muF_st
theorem fallF_mu {bw : Int → Nat} : ∀ {c c' : List It}, fallF c = some c' → muF bw c' ≤ muF bw c
  | .st s :: r, c', h => by
    have := fallF_mu (bw := bw) (c := r) (c' := c') (by simpa [fallF] using h)
    rw [muF_cons]; omega
  | .mark h0 :: r, c', h => by
    simp only [fallF, Option.some.injEq] at h
    subst h
    rw [muF_app, muF_b, muF_cons]; simp only [wi]; omega
theorem flat_way (bw : Int → Nat) : WayOk bw flat (muF bw) := by
  refine ⟨fun b => ?_, rfl, fun c s c' h => ?_, fun c c' h => ?_, fun c c' h => fallF_mu h, fun c b h => ?_, fun c k b => ?_⟩
  · show muF bw (b.map It.st) ≤ _
    rw [muF_b]; omega
  · rcases c with _ | ⟨_ | _, r⟩
    · cases h
    · cases h; rw [muF_cons]; simp only [wi]; omega
    · cases h
  · rcases c with _ | ⟨_ | _, r⟩
    · cases h
    · cases h
    · cases h; rw [muF_cons]; simp only [wi]; omega
  · show muF bw (b.map It.st ++ .mark h :: c) ≤ _
    rw [muF_app, muF_b, muF_cons]; simp only [wi]; omega
  · show muF bw ((List.replicate k.toNat (b.map It.st)).flatten ++ c) ≤ _
    have : muF bw (List.replicate k.toNat (b.map It.st)).flatten = k.toNat * wts bw b := sum_rep
    rw [muF_app, this, Nat.mul_add]; omega
def okF (p : Int → Prop) (c : List It) : Prop := ∀ i ∈ c, itOk p i
theorem okF_st {p : Int → Prop} {b : List Stm} (h : stsOk p b) : okF p (b.map .st) := fun i hi => by
  obtain ⟨s, hs, e⟩ := List.mem_map.mp hi
  subst e
  exact stsOk_iff.mp h s hs
theorem fallF_ok {p : Int → Prop} : ∀ {c c' : List It}, okF p c → fallF c = some c' → okF p c'
  | .st s :: r, c', o, h => fallF_ok (c := r) (fun i hi => o i (List.mem_cons_of_mem _ hi)) (by simpa [fallF] using h)
  | .mark h0 :: r, c', o, h => by
    simp only [fallF, Option.some.injEq] at h
    subst h
    intro i hi
    rcases List.mem_append.mp hi with z | z
    · exact okF_st (o (.mark h0) List.mem_cons_self) i z
    · exact o i (List.mem_cons_of_mem _ z)
abbrev inP (P : List Blk) (b : Int) : Prop := 0 ≤ b ∧ b.toNat < P.length
def PrgOk (P : List Blk) : Prop := ∀ (b : Nat) B, P[b]? = some B → stsOk (inP P) B
theorem flat_item {p : Int → Prop} {c c' : List It} {s : Stm} (o : okF p c) (h : flat.next c = .item s c') : okF p c' ∧ (∀ b v, s = .start b v → p b) ∧ (∀ b h, s = .tr b h → okF p (flat.try_ c' b h)) ∧ ∀ k b, s = .rep k b → okF p (flat.rep c' k b) := by
  rcases c with _ | ⟨x | x, r⟩
  · cases h
  · cases h
    have os : stOk p s := o (.st s) List.mem_cons_self
    have orr : okF p c' := fun i hi => o i (List.mem_cons_of_mem _ hi)
    refine ⟨orr, fun b v e => ?_, fun b h e => ?_, fun k b e => ?_⟩
    · subst e; simp only [stOk] at os; exact os
    · subst e
      simp only [stOk] at os
      intro i hi
      rcases List.mem_append.mp hi with z | z
      · exact okF_st os.1 i z
      · rcases List.mem_cons.mp z with z | z
        · subst z; exact os.2
        · exact orr i z
    · subst e
      simp only [stOk] at os
      intro i hi
      rcases List.mem_append.mp hi with z | z
      · obtain ⟨l, hl, hi'⟩ := List.mem_flatten.mp z
        rw [(List.mem_replicate.mp hl).2] at hi'
        exact okF_st os i hi'
      · exact orr i z
  · cases h
theorem flat_quiet {p : Int → Prop} {c c' : List It} (o : okF p c) (h : flat.next c = .quiet c') : okF p c' := by
  rcases c with _ | ⟨x | x, r⟩
  · cases h
  · cases h
  · cases h; exact fun i hi => o i (List.mem_cons_of_mem _ hi)
theorem flat_cod {P : List Blk} (hP : PrgOk P) : CodeOk P (okF (inP P)) flat := by
  refine ⟨fun b B e => okF_st (hP b B e), fun c s c' o h => ?_, fun c c' o h => flat_quiet o h, fun c c' o h => fallF_ok o h, fun i hi => by cases hi⟩
  obtain ⟨h1, h2, h3, h4⟩ := flat_item o h
  exact ⟨h1, fun b v e => (h2 b v e).2, h3, h4⟩
/-! ### places -/
def mk (bw : Int → Nat) (b : List Stm) : Kd → Nat
  | .rep k => (k - 1).toNat * (1 + wts bw b)
  | .try_ h => wts bw h
  | _ => 0
def mp (bw : Int → Nat) (p : Pl) : Nat := 1 + wts bw (p.b.drop p.at_) + mk bw p.b p.k
def muP (bw : Int → Nat) (c : List Pl) : Nat := (c.map (mp bw)).sum
theorem muP_cons {bw : Int → Nat} {a : Pl} {b : List Pl} : muP bw (a :: b) = mp bw a + muP bw b := by simp [muP]
theorem fallP_mu {bw : Int → Nat} : ∀ {c c' : List Pl}, fallP c = some c' → muP bw c' ≤ muP bw c
  | ⟨b, a, .try_ h⟩ :: r, c', e => by
    simp only [fallP, Option.some.injEq] at e
    subst e
    simp only [muP_cons, mp, mk, List.drop_zero]; omega
  | ⟨b, a, .body⟩ :: r, c', e => by have := fallP_mu (bw := bw) (c := r) (c' := c') (by simpa [fallP] using e); rw [muP_cons]; omega
  | ⟨b, a, .handler⟩ :: r, c', e => by have := fallP_mu (bw := bw) (c := r) (c' := c') (by simpa [fallP] using e); rw [muP_cons]; omega
  | ⟨b, a, .rep k⟩ :: r, c', e => by have := fallP_mu (bw := bw) (c := r) (c' := c') (by simpa [fallP] using e); rw [muP_cons]; omega
theorem drop_get {b : List Stm} {a : Nat} {s : Stm} (h : b[a]? = some s) : b.drop a = s :: b.drop (a + 1) := by
  obtain ⟨hl, e⟩ := List.getElem?_eq_some_iff.mp h
  rw [List.drop_eq_getElem_cons hl, e]
theorem drop_end {b : List Stm} {a : Nat} (h : b[a]? = none) : b.drop a = [] := List.drop_eq_nil_of_le (List.getElem?_eq_none_iff.mp h)
theorem nextP_item {c c' : List Pl} {s : Stm} (h : nextP c = .item s c') : ∃ p r, c = p :: r ∧ p.b[p.at_]? = some s ∧ c' = { p with at_ := p.at_ + 1 } :: r := by
  unfold nextP at h
  split at h
  · cases h
  · rename_i p r
    split at h
    · rename_i s' e
      cases h
      exact ⟨p, r, rfl, e, rfl⟩
    · split at h
      · split at h
        · cases h
        · split at h <;> cases h
      · split at h <;> cases h
theorem nextP_quiet {c c' : List Pl} (h : nextP c = .quiet c') : ∃ p r, c = p :: r ∧ p.b[p.at_]? = none ∧ ((∃ k, p.k = .rep k ∧ k > 1 ∧ c' = ⟨p.b, 0, .rep (k - 1)⟩ :: r) ∨ ((∀ k, p.k = .rep k → ¬ k > 1) ∧ r ≠ [] ∧ c' = r)) := by
  unfold nextP at h
  split at h
  · cases h
  · rename_i p r
    split at h
    · cases h
    · rename_i e
      split at h
      · rename_i k ek
        split at h
        · rename_i hk
          cases h
          exact ⟨p, r, rfl, e, .inl ⟨k, ek, hk, rfl⟩⟩
        · rename_i hk
          split at h
          · cases h
          · rename_i hr
            cases h
            exact ⟨p, c', rfl, e, .inr ⟨fun k' e' => by rw [ek] at e'; cases e'; exact hk, by simpa using hr, rfl⟩⟩
      · rename_i hk
        split at h
        · cases h
        · rename_i hr
          cases h
          exact ⟨p, c', rfl, e, .inr ⟨fun k' e' => absurd e' (hk k'), by simpa using hr, rfl⟩⟩
theorem deep_way (bw : Int → Nat) : WayOk bw deepW (muP bw) := by
  refine ⟨fun b => ?_, rfl, fun c s c' h => ?_, fun c c' h => ?_, fun c c' h => fallP_mu h, fun c b h => ?_, fun c k b => ?_⟩
  · simp [deepW, muP, mp, mk]; omega
  · obtain ⟨p, r, rfl, e, rfl⟩ := nextP_item h
    simp only [muP_cons, mp, drop_get e, wts]; omega
  · obtain ⟨p, r, rfl, e, h⟩ := nextP_quiet h
    rcases h with ⟨k, ek, hk, rfl⟩ | ⟨_, _, rfl⟩
    · simp only [muP_cons, mp, drop_end e, wts, ek, mk, List.drop_zero]
      have : (k - 1).toNat = (k - 1 - 1).toNat + 1 := by omega
      rw [this, Nat.succ_mul]; omega
    · simp only [muP_cons, mp]; omega
  · show muP bw (⟨b, 0, .try_ h⟩ :: c) ≤ _
    simp only [muP_cons, mp, mk, List.drop_zero]; omega
  · show muP bw (if k > 0 then ⟨b, 0, .rep k⟩ :: c else c) ≤ _
    split
    · simp only [muP_cons, mp, mk, List.drop_zero]
      have : k.toNat = (k - 1).toNat + 1 := by omega
      rw [this, Nat.succ_mul]; omega
    · omega
def okP (p : Int → Prop) (c : List Pl) : Prop := ∀ x ∈ c, stsOk p x.b ∧ ∀ h, x.k = .try_ h → stsOk p h
theorem fallP_ok {p : Int → Prop} : ∀ {c c' : List Pl}, okP p c → fallP c = some c' → okP p c'
  | ⟨b, a, .try_ h⟩ :: r, c', o, e => by
    simp only [fallP, Option.some.injEq] at e
    subst e
    intro x hx
    rcases List.mem_cons.mp hx with z | z
    · subst z; exact ⟨(o _ List.mem_cons_self).2 h rfl, fun _ z => by cases z⟩
    · exact o x (List.mem_cons_of_mem _ z)
  | ⟨b, a, .body⟩ :: r, c', o, e => fallP_ok (c := r) (fun i hi => o i (List.mem_cons_of_mem _ hi)) (by simpa [fallP] using e)
  | ⟨b, a, .handler⟩ :: r, c', o, e => fallP_ok (c := r) (fun i hi => o i (List.mem_cons_of_mem _ hi)) (by simpa [fallP] using e)
  | ⟨b, a, .rep k⟩ :: r, c', o, e => fallP_ok (c := r) (fun i hi => o i (List.mem_cons_of_mem _ hi)) (by simpa [fallP] using e)
theorem deep_item {q : Int → Prop} {c c' : List Pl} {s : Stm} (o : okP q c) (h : deepW.next c = .item s c') : okP q c' ∧ (∀ b v, s = .start b v → q b) ∧ (∀ b h, s = .tr b h → okP q (deepW.try_ c' b h)) ∧ ∀ k b, s = .rep k b → okP q (deepW.rep c' k b) := by
  obtain ⟨p, r, rfl, e, rfl⟩ := nextP_item h
  obtain ⟨o1, o2⟩ := o p List.mem_cons_self
  have os := stsOk_iff.mp o1 s (List.mem_of_getElem? e)
  have orr : okP q ({ p with at_ := p.at_ + 1 } :: r) := fun x hx => by
    rcases List.mem_cons.mp hx with z | z
    · subst z; exact ⟨o1, o2⟩
    · exact o x (List.mem_cons_of_mem _ z)
  refine ⟨orr, fun b v e => ?_, fun b h e => ?_, fun k b e => ?_⟩
  · subst e; simp only [stOk] at os; exact os
  · subst e
    simp only [stOk] at os
    intro x hx
    rcases List.mem_cons.mp hx with z | z
    · subst z; exact ⟨os.1, fun h' z => by cases z; exact os.2⟩
    · exact orr x z
  · subst e
    simp only [stOk] at os
    show okP q (if k > 0 then _ else _)
    split
    · intro x hx
      rcases List.mem_cons.mp hx with z | z
      · subst z; exact ⟨os, fun h' z => by cases z⟩
      · exact orr x z
    · exact orr
theorem deep_quiet {q : Int → Prop} {c c' : List Pl} (o : okP q c) (h : deepW.next c = .quiet c') : okP q c' := by
  obtain ⟨p, r, rfl, e, h⟩ := nextP_quiet h
  rcases h with ⟨k, ek, hk, rfl⟩ | ⟨_, _, rfl⟩
  · intro x hx
    rcases List.mem_cons.mp hx with z | z
    · subst z; exact ⟨(o p List.mem_cons_self).1, fun h' z => by cases z⟩
    · exact o x (List.mem_cons_of_mem _ z)
  · exact fun x hx => o x (List.mem_cons_of_mem _ hx)
theorem deep_init {q : Int → Prop} {B : Blk} (h : stsOk q B) : okP q (deepW.init B) := fun x hx => by
  simp [deepW] at hx; subst hx; exact ⟨h, fun _ z => by cases z⟩
theorem deep_cod {P : List Blk} (hP : PrgOk P) : CodeOk P (okP (inP P)) deepW := by
  refine ⟨fun b B e => deep_init (hP b B e), fun c s c' o h => ?_, fun c c' o h => deep_quiet o h, fun c c' o h => fallP_ok o h, fun i hi => by cases hi⟩
  obtain ⟨h1, h2, h3, h4⟩ := deep_item o h
  exact ⟨h1, fun b v e => (h2 b v e).2, h3, h4⟩
end SK.C

set_option Elab.async false
set_option linter.all false
set_option maxRecDepth 100000
/-! D: the codes of the defs (printed by gend.py). -/
namespace SK.D
open PySem PySem.Spec PyProof.Rows L2 SK
def c_is_word_e1 : E := (.cmp .inS (.var 1) (.gl "WORD_SIGNS"))
def c_is_word : Ss := (.cons (.ret (.land (.cons (.cmp .lt (.kc (.int 0)) (.bi .len (.cons (.var 0) .nil))) (.cons (.cmp .le (.bi .len (.cons (.var 0) .nil)) (.kc (.int 8))) (.cons (.gen true c_is_word_e1 1 (.str (.var 0))) .nil)))))
  .nil)
def c_blocks_of : Ss := (.cons (.ite (.cmp .eq (.ix (.var 0) (.kc (.int 0))) (.kc (.str "try")))
 (.cons (.ret (.tup (.cons (.ix (.var 0) (.kc (.int 1))) (.cons (.ix (.var 0) (.kc (.int 2))) .nil))))
  .nil)
 .nil)
  (.cons (.ret (.ife (.cmp .eq (.ix (.var 0) (.kc (.int 0))) (.kc (.str "repeat"))) (.tup (.cons (.ix (.var 0) (.kc (.int 2))) .nil)) (.tup .nil)))
  .nil))
def c_all_statements_b1 : Ss := (.cons (.asg 1 (.bin .add (.var 1) (.call "all_statements" (.cons (.var 3) .nil))))
  .nil)
def c_all_statements_b2 : Ss := (.cons (.ex (.bm (.var 1) .append (.cons (.var 2) .nil)))
  (.cons (.for_ (.nm 3) (.tup (.call "blocks_of" (.cons (.var 2) .nil))) c_all_statements_b1)
  .nil))
def c_all_statements : Ss := (.cons (.asg 1 (.lst .nil))
  (.cons (.for_ (.nm 2) (.tup (.var 0)) c_all_statements_b2)
  (.cons (.ret (.var 1))
  .nil)))
def c_depth_of_b1 : Ss := (.cons (.asg 1 (.bi .max (.cons (.var 1) (.cons (.bin .add (.kc (.int 1)) (.call "depth_of" (.cons (.var 3) .nil))) .nil))))
  .nil)
def c_depth_of_b2 : Ss := (.cons (.for_ (.nm 3) (.tup (.call "blocks_of" (.cons (.var 2) .nil))) c_depth_of_b1)
  .nil)
def c_depth_of : Ss := (.cons (.asg 1 (.kc (.int 0)))
  (.cons (.for_ (.nm 2) (.tup (.var 0)) c_depth_of_b2)
  (.cons (.ret (.var 1))
  .nil)))
def c_is_statement : Ss := (.cons (.ite (.cmp .eq (.ix (.var 0) (.kc (.int 0))) (.kc (.str "say")))
 (.cons (.ret (.call "is_word" (.cons (.ix (.var 0) (.kc (.int 1))) .nil)))
  .nil)
 .nil)
  (.cons (.ite (.cmp .eq (.ix (.var 0) (.kc (.int 0))) (.kc (.str "start")))
 (.cons (.ret (.land (.cons (.cmp .le (.var 1) (.ix (.var 0) (.kc (.int 1)))) (.cons (.cmp .le (.ix (.var 0) (.kc (.int 1))) (.var 2)) (.cons (.cmp .inS (.ix (.var 0) (.kc (.int 2))) (.gl "VARIABLES")) .nil)))))
  .nil)
 .nil)
  (.cons (.ite (.lor (.cons (.cmp .eq (.ix (.var 0) (.kc (.int 0))) (.kc (.str "wait"))) (.cons (.cmp .eq (.ix (.var 0) (.kc (.int 0))) (.kc (.str "adopt"))) .nil)))
 (.cons (.ret (.cmp .inS (.ix (.var 0) (.kc (.int 1))) (.gl "VARIABLES")))
  .nil)
 .nil)
  (.cons (.ret (.lor (.cons (.cmp .ne (.ix (.var 0) (.kc (.int 0))) (.kc (.str "repeat"))) (.cons (.land (.cons (.cmp .le (.kc (.int 0)) (.ix (.var 0) (.kc (.int 1)))) (.cons (.cmp .le (.ix (.var 0) (.kc (.int 1))) (.gl "MOST_COUNT")) .nil))) .nil))))
  .nil))))
def c_are_bodies_e1 : E := (.call "is_statement" (.cons (.var 4) (.cons (.bin .add (.var 2) (.kc (.int 1))) (.cons (.var 1) .nil))))
def c_are_bodies_b2 : Ss := (.cons (.asg 3 (.call "all_statements" (.cons (.ix (.var 0) (.var 2)) .nil)))
  (.cons (.ite (.lor (.cons (.cmp .gt (.bi .len (.cons (.var 3) .nil)) (.gl "MOST_STATEMENTS")) (.cons (.cmp .gt (.call "depth_of" (.cons (.ix (.var 0) (.var 2)) .nil)) (.gl "MOST_DEPTH")) .nil)))
 (.cons (.ret (.kc (.bl false)))
  .nil)
 .nil)
  (.cons (.ite (.lnot (.gen true c_are_bodies_e1 4 (.lst (.var 3))))
 (.cons (.ret (.kc (.bl false)))
  .nil)
 .nil)
  .nil)))
def c_are_bodies : Ss := (.cons (.for_ (.nm 2) (.rng (.cons (.bi .len (.cons (.var 0) .nil)) .nil)) c_are_bodies_b2)
  (.cons (.ret (.kc (.bl true)))
  .nil))
def c_block_size_b1 : Ss := (.cons (.ite (.cmp .eq (.ix (.var 3) (.kc (.int 0))) (.kc (.str "start")))
 (.cons (.asg 2 (.bin .add (.bin .add (.var 2) (.kc (.int 1))) (.bm (.var 1) .get (.cons (.ix (.var 3) (.kc (.int 1))) (.cons (.kc (.int 0)) .nil)))))
  .nil)
 (.cons (.ite (.cmp .eq (.ix (.var 3) (.kc (.int 0))) (.kc (.str "try")))
 (.cons (.asg 2 (.bin .add (.bin .add (.bin .add (.var 2) (.kc (.int 2))) (.call "block_size" (.cons (.ix (.var 3) (.kc (.int 1))) (.cons (.var 1) .nil)))) (.call "block_size" (.cons (.ix (.var 3) (.kc (.int 2))) (.cons (.var 1) .nil)))))
  .nil)
 (.cons (.ite (.cmp .eq (.ix (.var 3) (.kc (.int 0))) (.kc (.str "repeat")))
 (.cons (.asg 2 (.bin .add (.bin .add (.var 2) (.kc (.int 2))) (.bin .mul (.ix (.var 3) (.kc (.int 1))) (.bin .add (.kc (.int 1)) (.call "block_size" (.cons (.ix (.var 3) (.kc (.int 2))) (.cons (.var 1) .nil)))))))
  .nil)
 (.cons (.asg 2 (.bin .add (.var 2) (.kc (.int 1))))
  .nil))
  .nil))
  .nil))
  .nil)
def c_block_size : Ss := (.cons (.asg 2 (.kc (.int 1)))
  (.cons (.for_ (.nm 3) (.tup (.var 0)) c_block_size_b1)
  (.cons (.ret (.var 2))
  .nil)))
def c_body_sizes_e1 : E := (.dx (.var 1) (.var 2))
def c_body_sizes_b2 : Ss := (.cons (.asd (.var 1) (.var 2) (.bin .add (.kc (.int 1)) (.call "block_size" (.cons (.ix (.var 0) (.var 2)) (.cons (.var 1) .nil)))))
  .nil)
def c_body_sizes : Ss := (.cons (.asg 1 (.dct [] .nil))
  (.cons (.for_ (.nm 2) (.rng (.cons (.bin .sub (.bi .len (.cons (.var 0) .nil)) (.kc (.int 1))) (.cons (.neg (.kc (.int 1))) (.cons (.neg (.kc (.int 1))) .nil)))) c_body_sizes_b2)
  (.cons (.ret (.bi .tuple (.cons (.lc c_body_sizes_e1 [2] (.nm 2) (.rng (.cons (.bi .len (.cons (.var 0) .nil)) .nil)) .no) .nil)))
  .nil)))
def c_check_program : Ss := (.cons (.ite (.lor (.cons (.cmp .lt (.bi .len (.cons (.var 0) .nil)) (.kc (.int 1))) (.cons (.cmp .gt (.bi .len (.cons (.var 0) .nil)) (.gl "MOST_BODIES")) (.cons (.lnot (.call "are_bodies" (.cons (.var 0) (.cons (.bin .sub (.bi .len (.cons (.var 0) .nil)) (.kc (.int 1))) .nil)))) .nil))))
 (.cons (.raise "BadProgram" .nil)
  .nil)
 .nil)
  (.cons (.ite (.cmp .gt (.bi .max (.cons (.call "body_sizes" (.cons (.var 0) .nil)) .nil)) (.gl "MOST_SIZE"))
 (.cons (.raise "BadProgram" .nil)
  .nil)
 .nil)
  .nil))
def c_check_program_v2 : Ss := (.cons (.ite (.lor (.cons (.cmp .lt (.bi .len (.cons (.var 0) .nil)) (.kc (.int 1))) (.cons (.cmp .gt (.bi .len (.cons (.var 0) .nil)) (.gl "MOST_BODIES")) (.cons (.lnot (.call "are_bodies" (.cons (.var 0) (.cons (.bin .sub (.bi .len (.cons (.var 0) .nil)) (.kc (.int 1))) .nil)))) .nil))))
 (.cons (.raise "BadProgram" .nil)
  .nil)
 .nil)
  (.cons (.ite (.cmp .gt (.bi .max (.cons (.call "body_sizes" (.cons (.var 0) .nil)) .nil)) (.gl "MOST_SIZE_programs"))
 (.cons (.raise "BadProgram" .nil)
  .nil)
 .nil)
  .nil))
def c_law_cell : Ss := (.cons (.ite (.cmp .lt (.var 1) (.bi .len (.cons (.var 0) .nil)))
 (.cons (.ret (.bi .int (.cons (.ix (.var 0) (.var 1)) .nil)))
  .nil)
 .nil)
  (.cons (.ret (.kc (.int 0)))
  .nil))
def c_law_digits_b1 : Ss := (.cons (.ite (.cmp .gt (.var 0) (.kc (.int 0)))
 (.cons (.ex (.bm (.var 2) .append (.cons (.bin .mod (.bi .int (.cons (.var 0) .nil)) (.kc (.int 1000))) .nil)))
  (.cons (.asg 0 (.bin .fdv (.var 0) (.kc (.int 1000))))
  .nil))
 .nil)
  .nil)
def c_law_digits_b2 : Ss := (.cons (.asg 4 (.bin .mod (.bi .int (.cons (.bin .add (.bin .add (.bin .mul (.var 4) (.kc (.int 16807))) (.bin .mul (.kc (.int 7)) (.var 3))) (.kc (.int 1))) .nil)) (.kc (.int 2147483647))))
  (.cons (.ex (.bm (.var 2) .append (.cons (.bin .mod (.bi .int (.cons (.bin .fdv (.var 4) (.kc (.int 997))) .nil)) (.kc (.int 1000))) .nil)))
  .nil))
def c_law_digits : Ss := (.cons (.asg 2 (.lst .nil))
  (.cons (.ite (.cmp .lt (.var 0) (.kc (.int 0)))
 (.cons (.asg 0 (.bin .sub (.kc (.int 1)) (.bin .mul (.kc (.int 2)) (.var 0))))
  .nil)
 .nil)
  (.cons (.ite (.cmp .ge (.var 0) (.bin .pow (.kc (.int 10)) (.kc (.int 18))))
 (.cons (.for_ (.nm 3) (.rng (.cons (.kc (.int 60)) .nil)) c_law_digits_b1)
  .nil)
 (.cons (.asg 4 (.bin .mod (.bi .int (.cons (.bin .add (.bin .add (.bin .mul (.var 0) (.kc (.int 48271))) (.bin .mul (.var 1) (.kc (.int 69621)))) (.kc (.int 11))) .nil)) (.kc (.int 2147483647))))
  (.cons (.for_ (.nm 3) (.rng (.cons (.kc (.int 60)) .nil)) c_law_digits_b2)
  .nil)))
  (.cons (.ret (.var 2))
  .nil))))
def c_law_box : Ss := (.cons (.ret (.lst (.cons (.call "_law_digits" (.cons (.call "_law_cell" (.cons (.var 0) (.cons (.var 1) .nil))) (.cons (.var 1) .nil))) (.cons (.kc (.int 0)) .nil))))
  .nil)
def c_law_draw : Ss := (.cons (.asg 2 (.ix (.var 0) (.kc (.int 1))))
  (.cons (.asi (.var 0) (.kc (.int 1)) (.bin .add (.var 2) (.kc (.int 1))))
  (.cons (.ite (.cmp .lt (.var 2) (.bi .len (.cons (.ix (.var 0) (.kc (.int 0))) .nil)))
 (.cons (.ret (.bin .mod (.bi .int (.cons (.ix (.ix (.var 0) (.kc (.int 0))) (.var 2)) .nil)) (.var 1)))
  .nil)
 .nil)
  (.cons (.ret (.kc (.int 0)))
  .nil))))
def c_law_is_integer : Ss := (.cons (.ret (.land (.cons (.isi (.var 0) .int) (.cons (.lnot (.isi (.var 0) .bl)) .nil))))
  .nil)
def c_law_same_e1 : E := (.call "_law_same" (.cons (.ix (.var 0) (.var 2)) (.cons (.ix (.var 1) (.var 2)) .nil)))
def c_law_same : Ss := (.cons (.ite (.isi (.var 1) .tup)
 (.cons (.ite (.lor (.cons (.lnot (.isi (.var 0) .tup)) (.cons (.cmp .ne (.bi .len (.cons (.var 0) .nil)) (.bi .len (.cons (.var 1) .nil))) .nil)))
 (.cons (.ret (.kc (.bl false)))
  .nil)
 .nil)
  (.cons (.ret (.bi .all (.cons (.lc c_law_same_e1 [2] (.nm 2) (.rng (.cons (.bi .len (.cons (.var 1) .nil)) .nil)) .no) .nil)))
  .nil))
 .nil)
  (.cons (.ite (.isi (.var 1) .bl)
 (.cons (.ret (.land (.cons (.isi (.var 0) .bl) (.cons (.cmp .eq (.var 0) (.var 1)) .nil))))
  .nil)
 .nil)
  (.cons (.ite (.isi (.var 1) .int)
 (.cons (.ret (.land (.cons (.call "_law_is_integer" (.cons (.var 0) .nil)) (.cons (.cmp .eq (.var 0) (.var 1)) .nil))))
  .nil)
 .nil)
  (.cons (.ite (.isi (.var 1) .str)
 (.cons (.ret (.land (.cons (.isi (.var 0) .str) (.cons (.cmp .eq (.var 0) (.var 1)) .nil))))
  .nil)
 .nil)
  (.cons (.ret (.land (.cons (.cmp .isN (.var 0) (.kc .non)) (.cons (.cmp .isN (.var 1) (.kc .non)) .nil))))
  .nil)))))
def c_law_word : Ss := (.cons (.ret (.ix (.tup (.cons (.kc (.str "a")) (.cons (.kc (.str "b")) (.cons (.kc (.str "c")) (.cons (.kc (.str "d")) (.cons (.kc (.str "e0")) (.cons (.kc (.str "x")) (.cons (.kc (.str "9")) (.cons (.kc (.str "longer99")) .nil))))))))) (.call "_law_draw" (.cons (.var 0) (.cons (.kc (.int 8)) .nil)))))
  .nil)
def c_law_block_b1 : Ss := (.cons (.asg 7 (.call "_law_draw" (.cons (.var 0) (.cons (.kc (.int 16)) .nil))))
  (.cons (.asg 8 (.ix (.tup (.cons (.kc (.str "a")) (.cons (.kc (.str "b")) (.cons (.kc (.str "a")) (.cons (.kc (.str "c")) (.cons (.kc (.str "d")) (.cons (.kc (.str "a")) .nil))))))) (.call "_law_draw" (.cons (.var 0) (.cons (.kc (.int 6)) .nil)))))
  (.cons (.ite (.cmp .lt (.var 7) (.kc (.int 4)))
 (.cons (.ex (.bm (.var 5) .append (.cons (.tup (.cons (.kc (.str "say")) (.cons (.call "_law_word" (.cons (.var 0) .nil)) .nil))) .nil)))
  .nil)
 (.cons (.ite (.cmp .lt (.var 7) (.kc (.int 6)))
 (.cons (.ex (.bm (.var 5) .append (.cons (.tup (.cons (.kc (.str "pause")) .nil)) .nil)))
  .nil)
 (.cons (.ite (.land (.cons (.cmp .lt (.var 7) (.kc (.int 9))) (.cons (.cmp .lt (.bin .add (.var 3) (.kc (.int 1))) (.var 4)) .nil)))
 (.cons (.ex (.bm (.var 5) .append (.cons (.tup (.cons (.kc (.str "start")) (.cons (.bin .add (.bin .add (.var 3) (.kc (.int 1))) (.call "_law_draw" (.cons (.var 0) (.cons (.bin .sub (.bin .sub (.var 4) (.var 3)) (.kc (.int 1))) .nil)))) (.cons (.var 8) .nil)))) .nil)))
  .nil)
 (.cons (.ite (.cmp .lt (.var 7) (.kc (.int 11)))
 (.cons (.ex (.bm (.var 5) .append (.cons (.tup (.cons (.kc (.str "wait")) (.cons (.var 8) .nil))) .nil)))
  .nil)
 (.cons (.ite (.cmp .eq (.var 7) (.kc (.int 11)))
 (.cons (.ex (.bm (.var 5) .append (.cons (.ix (.tup (.cons (.tup (.cons (.kc (.str "adopt")) (.cons (.var 8) .nil))) (.cons (.tup (.cons (.kc (.str "fail")) .nil)) (.cons (.tup (.cons (.kc (.str "return")) .nil)) (.cons (.tup (.cons (.kc (.str "pause")) .nil)) .nil))))) (.call "_law_draw" (.cons (.var 0) (.cons (.kc (.int 4)) .nil)))) .nil)))
  .nil)
 (.cons (.ite (.land (.cons (.cmp .lt (.var 7) (.kc (.int 14))) (.cons (.cmp .gt (.var 1) (.kc (.int 0))) .nil)))
 (.cons (.asg 9 (.call "_law_block" (.cons (.var 0) (.cons (.bin .sub (.var 1) (.kc (.int 1))) (.cons (.kc (.int 3)) (.cons (.var 3) (.cons (.var 4) .nil)))))))
  (.cons (.ex (.bm (.var 5) .append (.cons (.tup (.cons (.kc (.str "try")) (.cons (.var 9) (.cons (.call "_law_block" (.cons (.var 0) (.cons (.bin .sub (.var 1) (.kc (.int 1))) (.cons (.kc (.int 2)) (.cons (.var 3) (.cons (.var 4) .nil)))))) .nil)))) .nil)))
  .nil))
 (.cons (.ite (.cmp .gt (.var 1) (.kc (.int 0)))
 (.cons (.ex (.bm (.var 5) .append (.cons (.tup (.cons (.kc (.str "repeat")) (.cons (.call "_law_draw" (.cons (.var 0) (.cons (.kc (.int 4)) .nil))) (.cons (.call "_law_block" (.cons (.var 0) (.cons (.bin .sub (.var 1) (.kc (.int 1))) (.cons (.kc (.int 3)) (.cons (.var 3) (.cons (.var 4) .nil)))))) .nil)))) .nil)))
  .nil)
 (.cons (.ex (.bm (.var 5) .append (.cons (.tup (.cons (.kc (.str "say")) (.cons (.call "_law_word" (.cons (.var 0) .nil)) .nil))) .nil)))
  .nil))
  .nil))
  .nil))
  .nil))
  .nil))
  .nil))
  .nil))
  .nil)))
def c_law_block : Ss := (.cons (.asg 5 (.lst .nil))
  (.cons (.for_ (.nm 6) (.rng (.cons (.call "_law_draw" (.cons (.var 0) (.cons (.bin .add (.var 2) (.kc (.int 1))) .nil))) .nil)) c_law_block_b1)
  (.cons (.ret (.bi .tuple (.cons (.var 5) .nil)))
  .nil)))
def c_law_count_b1 : Ss := (.cons (.ite (.isi (.var 3) .tup)
 (.cons (.asg 1 (.bin .add (.var 1) (.call "_law_count" (.cons (.var 3) .nil))))
  .nil)
 .nil)
  .nil)
def c_law_count_b2 : Ss := (.cons (.asg 1 (.bin .add (.var 1) (.kc (.int 1))))
  (.cons (.for_ (.nm 3) (.tup (.sl (.var 2) (.kc (.int 1)) .no)) c_law_count_b1)
  .nil))
def c_law_count : Ss := (.cons (.asg 1 (.kc (.int 0)))
  (.cons (.for_ (.nm 2) (.tup (.var 0)) c_law_count_b2)
  (.cons (.ret (.var 1))
  .nil)))
def c_law_weight_b1 : Ss := (.cons (.ite (.cmp .eq (.ix (.var 3) (.kc (.int 0))) (.kc (.str "start")))
 (.cons (.asg 2 (.bin .add (.bin .add (.var 2) (.kc (.int 1))) (.bm (.var 1) .get (.cons (.ix (.var 3) (.kc (.int 1))) (.cons (.kc (.int 1)) .nil)))))
  .nil)
 (.cons (.ite (.cmp .eq (.ix (.var 3) (.kc (.int 0))) (.kc (.str "try")))
 (.cons (.asg 2 (.bin .add (.bin .add (.bin .add (.var 2) (.kc (.int 2))) (.call "_law_weight" (.cons (.ix (.var 3) (.kc (.int 1))) (.cons (.var 1) .nil)))) (.call "_law_weight" (.cons (.ix (.var 3) (.kc (.int 2))) (.cons (.var 1) .nil)))))
  .nil)
 (.cons (.ite (.cmp .eq (.ix (.var 3) (.kc (.int 0))) (.kc (.str "repeat")))
 (.cons (.asg 2 (.bin .add (.bin .add (.var 2) (.kc (.int 2))) (.bin .mul (.ix (.var 3) (.kc (.int 1))) (.bin .add (.kc (.int 1)) (.call "_law_weight" (.cons (.ix (.var 3) (.kc (.int 2))) (.cons (.var 1) .nil)))))))
  .nil)
 (.cons (.asg 2 (.bin .add (.var 2) (.kc (.int 1))))
  .nil))
  .nil))
  .nil))
  .nil)
def c_law_weight : Ss := (.cons (.asg 2 (.kc (.int 1)))
  (.cons (.for_ (.nm 3) (.tup (.var 0)) c_law_weight_b1)
  (.cons (.ret (.var 2))
  .nil)))
def c_law_program_b1 : Ss := (.cons (.ite (.lor (.cons (.cmp .gt (.bin .add (.call "_law_weight" (.cons (.ix (.var 6) (.var 7)) (.cons (.var 8) .nil))) (.kc (.int 1))) (.var 4)) (.cons (.cmp .gt (.call "_law_count" (.cons (.ix (.var 6) (.var 7)) .nil)) (.kc (.int 24))) .nil)))
 (.cons (.asi (.var 6) (.var 7) (.tup (.cons (.tup (.cons (.kc (.str "say")) (.cons (.kc (.str "a")) .nil))) (.cons (.tup (.cons (.kc (.str "pause")) .nil)) .nil))))
  .nil)
 .nil)
  (.cons (.asd (.var 8) (.var 7) (.bin .add (.kc (.int 1)) (.call "_law_weight" (.cons (.ix (.var 6) (.var 7)) (.cons (.var 8) .nil)))))
  .nil))
def c_law_program_b2 : Ss := (.cons (.ex (.bm (.var 6) .append (.cons (.call "_law_block" (.cons (.call "_law_box" (.cons (.var 0) (.cons (.bin .add (.bin .add (.var 1) (.kc (.int 1))) (.var 7)) .nil))) (.cons (.kc (.int 2)) (.cons (.var 3) (.cons (.var 7) (.cons (.var 5) .nil)))))) .nil)))
  .nil)
def c_law_program : Ss := (.cons (.asg 5 (.bin .add (.kc (.int 1)) (.call "_law_draw" (.cons (.call "_law_box" (.cons (.var 0) (.cons (.var 1) .nil))) (.cons (.var 2) .nil)))))
  (.cons (.asg 6 (.lst .nil))
  (.cons (.for_ (.nm 7) (.rng (.cons (.var 5) .nil)) c_law_program_b2)
  (.cons (.asg 8 (.dct [] .nil))
  (.cons (.for_ (.nm 7) (.revr (.var 5)) c_law_program_b1)
  (.cons (.ret (.bi .tuple (.cons (.var 6) .nil)))
  .nil))))))
def c_law_all_b1 : Ss := (.cons (.ex (.bm (.var 1) .append (.cons (.var 2) .nil)))
  (.cons (.ite (.cmp .eq (.ix (.var 2) (.kc (.int 0))) (.kc (.str "try")))
 (.cons (.asg 1 (.bin .add (.bin .add (.var 1) (.call "_law_all" (.cons (.ix (.var 2) (.kc (.int 1))) .nil))) (.call "_law_all" (.cons (.ix (.var 2) (.kc (.int 2))) .nil))))
  .nil)
 .nil)
  (.cons (.ite (.cmp .eq (.ix (.var 2) (.kc (.int 0))) (.kc (.str "repeat")))
 (.cons (.asg 1 (.bin .add (.var 1) (.call "_law_all" (.cons (.ix (.var 2) (.kc (.int 2))) .nil))))
  .nil)
 .nil)
  .nil)))
def c_law_all : Ss := (.cons (.asg 1 (.lst .nil))
  (.cons (.for_ (.nm 2) (.tup (.var 0)) c_law_all_b1)
  (.cons (.ret (.var 1))
  .nil)))
def c_law_deep_b1 : Ss := (.cons (.ite (.isi (.var 3) .tup)
 (.cons (.asg 1 (.bi .max (.cons (.var 1) (.cons (.bin .add (.kc (.int 1)) (.call "_law_deep" (.cons (.var 3) .nil))) .nil))))
  .nil)
 .nil)
  .nil)
def c_law_deep_b2 : Ss := (.cons (.for_ (.nm 3) (.tup (.sl (.var 2) (.kc (.int 1)) .no)) c_law_deep_b1)
  .nil)
def c_law_deep : Ss := (.cons (.asg 1 (.kc (.int 0)))
  (.cons (.for_ (.nm 2) (.tup (.var 0)) c_law_deep_b2)
  (.cons (.ret (.var 1))
  .nil)))
def c_law_is_word_e1 : E := (.cmp .inS (.var 1) (.kc (.str "abcdefghijklmnopqrstuvwxyz0123456789")))
def c_law_is_word : Ss := (.cons (.ite (.lor (.cons (.cmp .lt (.bi .len (.cons (.var 0) .nil)) (.kc (.int 1))) (.cons (.cmp .gt (.bi .len (.cons (.var 0) .nil)) (.kc (.int 8))) .nil)))
 (.cons (.ret (.kc (.bl false)))
  .nil)
 .nil)
  (.cons (.ret (.bi .all (.cons (.lc c_law_is_word_e1 [1] (.nm 1) (.str (.var 0)) .no) .nil)))
  .nil))
def c_law_is_item : Ss := (.cons (.ite (.cmp .eq (.ix (.var 0) (.kc (.int 0))) (.kc (.str "say")))
 (.cons (.ret (.call "_law_is_word" (.cons (.ix (.var 0) (.kc (.int 1))) .nil)))
  .nil)
 .nil)
  (.cons (.ite (.cmp .eq (.ix (.var 0) (.kc (.int 0))) (.kc (.str "start")))
 (.cons (.ret (.land (.cons (.cmp .le (.var 1) (.ix (.var 0) (.kc (.int 1)))) (.cons (.cmp .le (.ix (.var 0) (.kc (.int 1))) (.var 2)) (.cons (.cmp .inS (.ix (.var 0) (.kc (.int 2))) (.tup (.cons (.kc (.str "a")) (.cons (.kc (.str "b")) (.cons (.kc (.str "c")) (.cons (.kc (.str "d")) .nil)))))) .nil)))))
  .nil)
 .nil)
  (.cons (.ite (.cmp .inS (.ix (.var 0) (.kc (.int 0))) (.tup (.cons (.kc (.str "wait")) (.cons (.kc (.str "adopt")) .nil))))
 (.cons (.ret (.cmp .inS (.ix (.var 0) (.kc (.int 1))) (.tup (.cons (.kc (.str "a")) (.cons (.kc (.str "b")) (.cons (.kc (.str "c")) (.cons (.kc (.str "d")) .nil)))))))
  .nil)
 .nil)
  (.cons (.ret (.lor (.cons (.cmp .ne (.ix (.var 0) (.kc (.int 0))) (.kc (.str "repeat"))) (.cons (.land (.cons (.cmp .le (.kc (.int 0)) (.ix (.var 0) (.kc (.int 1)))) (.cons (.cmp .le (.ix (.var 0) (.kc (.int 1))) (.kc (.int 100))) .nil))) .nil))))
  .nil))))
def c_law_are_bodies_e1 : E := (.call "_law_is_item" (.cons (.var 4) (.cons (.bin .add (.var 2) (.kc (.int 1))) (.cons (.var 1) .nil))))
def c_law_are_bodies_b2 : Ss := (.cons (.asg 3 (.call "_law_all" (.cons (.ix (.var 0) (.var 2)) .nil)))
  (.cons (.ite (.lor (.cons (.cmp .gt (.bi .len (.cons (.var 3) .nil)) (.kc (.int 40))) (.cons (.cmp .gt (.call "_law_deep" (.cons (.ix (.var 0) (.var 2)) .nil)) (.kc (.int 2))) .nil)))
 (.cons (.ret (.kc (.bl false)))
  .nil)
 .nil)
  (.cons (.ite (.lnot (.bi .all (.cons (.lc c_law_are_bodies_e1 [4] (.nm 4) (.lst (.var 3)) .no) .nil)))
 (.cons (.ret (.kc (.bl false)))
  .nil)
 .nil)
  .nil)))
def c_law_are_bodies : Ss := (.cons (.for_ (.nm 2) (.rng (.cons (.bi .len (.cons (.var 0) .nil)) .nil)) c_law_are_bodies_b2)
  (.cons (.ret (.kc (.bl true)))
  .nil))
def c_law_measure_b1 : Ss := (.cons (.ite (.cmp .eq (.ix (.var 3) (.kc (.int 0))) (.kc (.str "start")))
 (.cons (.asg 2 (.bin .add (.bin .add (.var 2) (.kc (.int 1))) (.bm (.var 1) .get (.cons (.ix (.var 3) (.kc (.int 1))) (.cons (.kc (.int 0)) .nil)))))
  .nil)
 (.cons (.ite (.cmp .eq (.ix (.var 3) (.kc (.int 0))) (.kc (.str "try")))
 (.cons (.asg 2 (.bin .add (.bin .add (.bin .add (.var 2) (.kc (.int 2))) (.call "_law_measure" (.cons (.ix (.var 3) (.kc (.int 1))) (.cons (.var 1) .nil)))) (.call "_law_measure" (.cons (.ix (.var 3) (.kc (.int 2))) (.cons (.var 1) .nil)))))
  .nil)
 (.cons (.ite (.cmp .eq (.ix (.var 3) (.kc (.int 0))) (.kc (.str "repeat")))
 (.cons (.asg 2 (.bin .add (.bin .add (.var 2) (.kc (.int 2))) (.bin .mul (.ix (.var 3) (.kc (.int 1))) (.bin .add (.kc (.int 1)) (.call "_law_measure" (.cons (.ix (.var 3) (.kc (.int 2))) (.cons (.var 1) .nil)))))))
  .nil)
 (.cons (.asg 2 (.bin .add (.var 2) (.kc (.int 1))))
  .nil))
  .nil))
  .nil))
  .nil)
def c_law_measure : Ss := (.cons (.asg 2 (.kc (.int 1)))
  (.cons (.for_ (.nm 3) (.tup (.var 0)) c_law_measure_b1)
  (.cons (.ret (.var 2))
  .nil)))
def c_law_sizes_e1 : E := (.dx (.var 1) (.var 2))
def c_law_sizes_b2 : Ss := (.cons (.asd (.var 1) (.var 2) (.bin .add (.kc (.int 1)) (.call "_law_measure" (.cons (.ix (.var 0) (.var 2)) (.cons (.var 1) .nil)))))
  .nil)
def c_law_sizes : Ss := (.cons (.asg 1 (.dct [] .nil))
  (.cons (.for_ (.nm 2) (.revr (.bi .len (.cons (.var 0) .nil))) c_law_sizes_b2)
  (.cons (.ret (.lc c_law_sizes_e1 [2] (.nm 2) (.rng (.cons (.bi .len (.cons (.var 0) .nil)) .nil)) .no))
  .nil)))
def c_law_is_program : Ss := (.cons (.ite (.lor (.cons (.cmp .lt (.bi .len (.cons (.var 0) .nil)) (.kc (.int 1))) (.cons (.cmp .gt (.bi .len (.cons (.var 0) .nil)) (.kc (.int 8))) (.cons (.lnot (.call "_law_are_bodies" (.cons (.var 0) (.cons (.bin .sub (.bi .len (.cons (.var 0) .nil)) (.kc (.int 1))) .nil)))) .nil))))
 (.cons (.ret (.kc (.bl false)))
  .nil)
 .nil)
  (.cons (.ret (.cmp .le (.bi .max (.cons (.call "_law_sizes" (.cons (.var 0) .nil)) .nil)) (.kc (.int 600))))
  .nil))
def c_law_with : Ss := (.cons (.ret (.bin .add (.bin .add (.sl (.var 0) .no (.var 1)) (.tup (.cons (.var 2) .nil))) (.sl (.var 0) (.bin .add (.var 1) (.kc (.int 1))) .no)))
  .nil)
def c_law_with_v2_b1 : Ss := (.cons (.asg 0 (.call "_law_with_pause" (.cons (.var 0) (.cons (.var 2) (.cons (.var 3) (.cons (.var 4) .nil))))))
  .nil)
def c_law_with_v2 : Ss := (.cons (.for_ (.tp [2, 3, 4]) (.revt (.var 1)) c_law_with_v2_b1)
  (.cons (.ret (.var 0))
  .nil))
def c_law_bent : Ss := (.cons (.asg 2 (.call "_law_draw" (.cons (.var 0) (.cons (.bi .len (.cons (.var 1) .nil)) .nil))))
  (.cons (.asg 3 (.ix (.var 1) (.var 2)))
  (.cons (.asg 4 (.call "_law_draw" (.cons (.var 0) (.cons (.kc (.int 10)) .nil))))
  (.cons (.asg 5 (.call "_law_draw" (.cons (.var 0) (.cons (.bin .add (.bi .len (.cons (.var 3) .nil)) (.kc (.int 1))) .nil))))
  (.cons (.asg 6 (.tup (.cons (.tup (.cons (.kc (.str "say")) (.cons (.ix (.tup (.cons (.kc (.str "")) (.cons (.kc (.str "A")) (.cons (.kc (.str "nine99999")) (.cons (.kc (.str "ok")) (.cons (.kc (.str "a b")) .nil)))))) (.call "_law_draw" (.cons (.var 0) (.cons (.kc (.int 5)) .nil)))) .nil))) (.cons (.tup (.cons (.kc (.str "start")) (.cons (.ix (.tup (.cons (.kc (.int 0)) (.cons (.var 2) (.cons (.bin .add (.var 2) (.kc (.int 1))) (.cons (.bin .sub (.bi .len (.cons (.var 1) .nil)) (.kc (.int 1))) (.cons (.bi .len (.cons (.var 1) .nil)) (.cons (.bin .add (.bi .len (.cons (.var 1) .nil)) (.kc (.int 1))) (.cons (.neg (.kc (.int 1))) .nil)))))))) (.call "_law_draw" (.cons (.var 0) (.cons (.kc (.int 7)) .nil)))) (.cons (.ix (.kc (.str "aaae")) (.call "_law_draw" (.cons (.var 0) (.cons (.kc (.int 4)) .nil)))) .nil)))) (.cons (.tup (.cons (.ix (.tup (.cons (.kc (.str "wait")) (.cons (.kc (.str "adopt")) .nil))) (.call "_law_draw" (.cons (.var 0) (.cons (.kc (.int 2)) .nil)))) (.cons (.ix (.tup (.cons (.kc (.str "e")) (.cons (.kc (.str "a")) (.cons (.kc (.str "aa")) (.cons (.kc (.str "")) .nil))))) (.call "_law_draw" (.cons (.var 0) (.cons (.kc (.int 4)) .nil)))) .nil))) (.cons (.tup (.cons (.kc (.str "repeat")) (.cons (.ix (.tup (.cons (.kc (.int 100)) (.cons (.kc (.int 101)) (.cons (.neg (.kc (.int 1))) (.cons (.kc (.int 0)) .nil))))) (.call "_law_draw" (.cons (.var 0) (.cons (.kc (.int 4)) .nil)))) (.cons (.tup .nil) .nil)))) (.cons (.tup (.cons (.kc (.str "try")) (.cons (.tup (.cons (.tup (.cons (.kc (.str "repeat")) (.cons (.kc (.int 1)) (.cons (.sl (.tup (.cons (.tup (.cons (.kc (.str "try")) (.cons (.tup .nil) (.cons (.tup .nil) .nil)))) .nil)) .no (.call "_law_draw" (.cons (.var 0) (.cons (.kc (.int 2)) .nil)))) .nil)))) .nil)) (.cons (.tup .nil) .nil)))) .nil)))))))
  (.cons (.ite (.cmp .lt (.var 4) (.kc (.int 5)))
 (.cons (.asg 7 (.ix (.var 6) (.var 4)))
  (.cons (.asg 7 (.ix (.tup (.cons (.var 7) (.cons (.tup (.cons (.kc (.str "try")) (.cons (.tup (.cons (.var 7) .nil)) (.cons (.tup .nil) .nil)))) (.cons (.tup (.cons (.kc (.str "try")) (.cons (.tup .nil) (.cons (.tup (.cons (.var 7) .nil)) .nil)))) (.cons (.tup (.cons (.kc (.str "repeat")) (.cons (.kc (.int 1)) (.cons (.tup (.cons (.var 7) .nil)) .nil)))) .nil))))) (.call "_law_draw" (.cons (.var 0) (.cons (.kc (.int 4)) .nil)))))
  (.cons (.ret (.call "_law_with" (.cons (.var 1) (.cons (.var 2) (.cons (.bin .add (.bin .add (.sl (.var 3) .no (.var 5)) (.tup (.cons (.var 7) .nil))) (.sl (.var 3) (.var 5) .no)) .nil)))))
  .nil)))
 .nil)
  (.cons (.ite (.cmp .eq (.var 4) (.kc (.int 5)))
 (.cons (.ret (.call "_law_with" (.cons (.var 1) (.cons (.var 2) (.cons (.bin .add (.var 3) (.bin .mul (.tup (.cons (.tup (.cons (.kc (.str "pause")) .nil)) .nil)) (.bin .sub (.bin .add (.kc (.int 39)) (.call "_law_draw" (.cons (.var 0) (.cons (.kc (.int 3)) .nil)))) (.bi .len (.cons (.call "_law_all" (.cons (.var 3) .nil)) .nil))))) .nil)))))
  .nil)
 .nil)
  (.cons (.ite (.cmp .eq (.var 4) (.kc (.int 6)))
 (.cons (.ret (.sl (.bin .mul (.var 1) (.kc (.int 9))) .no (.bin .add (.kc (.int 6)) (.call "_law_draw" (.cons (.var 0) (.cons (.kc (.int 4)) .nil))))))
  .nil)
 .nil)
  (.cons (.ite (.cmp .eq (.var 4) (.kc (.int 7)))
 (.cons (.ret (.sl (.var 1) .no (.call "_law_draw" (.cons (.var 0) (.cons (.bin .add (.bi .len (.cons (.var 1) .nil)) (.kc (.int 1))) .nil)))))
  .nil)
 .nil)
  (.cons (.ite (.cmp .eq (.var 4) (.kc (.int 8)))
 (.cons (.ret (.call "_law_with" (.cons (.var 1) (.cons (.var 2) (.cons (.bin .add (.sl (.var 3) .no (.var 5)) (.tup (.cons (.tup (.cons (.kc (.str "repeat")) (.cons (.bin .add (.kc (.int 90)) (.call "_law_draw" (.cons (.var 0) (.cons (.kc (.int 11)) .nil)))) (.cons (.bin .mul (.tup (.cons (.tup (.cons (.kc (.str "pause")) .nil)) .nil)) (.bin .add (.kc (.int 3)) (.call "_law_draw" (.cons (.var 0) (.cons (.kc (.int 4)) .nil))))) .nil)))) .nil))) .nil)))))
  .nil)
 .nil)
  (.cons (.ret (.var 1))
  .nil)))))))))))
def c_law_asked : Ss := (.cons (.try_ (.cons (.ret (.tup (.cons (.kc (.str "taken")) (.cons (.callv 0 (.cons (.var 1) .nil)) .nil))))
  .nil) "TickError" 2
 (.cons (.asg 3 (.lst .nil))
  (.cons (.ite (.isx (.var 2) "BadProgram")
 (.cons (.ex (.bm (.var 3) .append (.cons (.kc (.str "program")) .nil)))
  .nil)
 .nil)
  (.cons (.ite (.isx (.var 2) "BadContext")
 (.cons (.ex (.bm (.var 3) .append (.cons (.kc (.str "context")) .nil)))
  .nil)
 .nil)
  (.cons (.ite (.isx (.var 2) "BadFrame")
 (.cons (.ex (.bm (.var 3) .append (.cons (.kc (.str "frame")) .nil)))
  .nil)
 .nil)
  (.cons (.ret (.tup (.cons (.bm (.kc (.str "+")) .join (.cons (.var 3) .nil)) (.cons (.kc .non) .nil))))
  .nil))))))
  .nil)
def c_law_k00_b1 : Ss := (.cons (.asg 4 (.call "_law_bent" (.cons (.var 2) (.cons (.var 1) .nil))))
  (.cons (.asg 5 (.ife (.call "_law_is_program" (.cons (.var 4) .nil)) (.tup (.cons (.kc (.str "taken")) (.cons (.kc .non) .nil))) (.tup (.cons (.kc (.str "program")) (.cons (.kc .non) .nil)))))
  (.cons (.ite (.lnot (.call "_law_same" (.cons (.call "_law_asked" (.cons (.gl "check_program") (.cons (.var 4) .nil))) (.cons (.var 5) .nil))))
 (.cons (.ret (.kc (.bl false)))
  .nil)
 .nil)
  .nil)))
def c_law_k00 : Ss := (.cons (.asg 1 (.call "_law_program" (.cons (.var 0) (.cons (.kc (.int 0)) (.cons (.kc (.int 5)) (.cons (.kc (.int 6)) (.cons (.kc (.int 300)) .nil)))))))
  (.cons (.asg 2 (.call "_law_box" (.cons (.var 0) (.cons (.kc (.int 6)) .nil))))
  (.cons (.for_ (.nm 3) (.rng (.cons (.kc (.int 4)) .nil)) c_law_k00_b1)
  (.cons (.ret (.call "_law_same" (.cons (.call "check_program" (.cons (.var 1) .nil)) (.cons (.kc .non) .nil))))
  .nil))))
def c_law_chain_e1 : E := (.tup (.cons (.kc (.str "start")) (.cons (.bin .add (.bin .add (.var 3) (.kc (.int 1))) (.call "_law_draw" (.cons (.var 0) (.cons (.bin .sub (.kc (.int 7)) (.var 3)) .nil)))) (.cons (.kc (.str "a")) .nil))))
def c_law_chain_b2 : Ss := (.cons (.asg 4 (.tup .nil))
  (.cons (.ite (.cmp .lt (.var 3) (.kc (.int 7)))
 (.cons (.asg 4 (.bi .tuple (.cons (.lc c_law_chain_e1 [5] (.nm 5) (.rng (.cons (.call "_law_draw" (.cons (.var 0) (.cons (.kc (.int 4)) .nil))) .nil)) .no) .nil)))
  .nil)
 .nil)
  (.cons (.ite (.cmp .gt (.bin .add (.kc (.int 1)) (.call "_law_weight" (.cons (.var 4) (.cons (.var 2) .nil)))) (.kc (.int 600)))
 (.cons (.asg 4 (.tup .nil))
  .nil)
 .nil)
  (.cons (.asd (.var 2) (.var 3) (.bin .add (.kc (.int 1)) (.call "_law_weight" (.cons (.var 4) (.cons (.var 2) .nil)))))
  (.cons (.asg 1 (.bin .add (.tup (.cons (.var 4) .nil)) (.var 1)))
  .nil)))))
def c_law_chain : Ss := (.cons (.asg 1 (.tup .nil))
  (.cons (.asg 2 (.dct [] .nil))
  (.cons (.for_ (.nm 3) (.revr (.kc (.int 8))) c_law_chain_b2)
  (.cons (.ret (.var 1))
  .nil))))
def c_law_k01_b1 : Ss := (.cons (.ite (.lnot (.call "_law_same" (.cons (.call "body_sizes" (.cons (.var 1) .nil)) (.cons (.bi .tuple (.cons (.call "_law_sizes" (.cons (.var 1) .nil)) .nil)) .nil))))
 (.cons (.ret (.kc (.bl false)))
  .nil)
 .nil)
  .nil)
def c_law_k01 : Ss := (.cons (.for_ (.nm 1) (.tup (.tup (.cons (.call "_law_program" (.cons (.var 0) (.cons (.kc (.int 0)) (.cons (.kc (.int 5)) (.cons (.kc (.int 6)) (.cons (.kc (.int 590)) .nil)))))) (.cons (.call "_law_chain" (.cons (.call "_law_box" (.cons (.var 0) (.cons (.kc (.int 9)) .nil))) .nil)) .nil)))) c_law_k01_b1)
  (.cons (.ret (.kc (.bl true)))
  .nil))
def c_check_context : Ss := (.cons (.ite (.lor (.cons (.cmp .lt (.bi .len (.cons (.var 0) .nil)) (.kc (.int 1))) (.cons (.cmp .ge (.bi .len (.cons (.var 0) .nil)) (.gl "MOST_BODIES")) (.cons (.lnot (.call "are_bodies" (.cons (.var 0) (.cons (.bi .len (.cons (.var 0) .nil)) .nil)))) .nil))))
 (.cons (.raise "BadContext" .nil)
  .nil)
 .nil)
  .nil)
def c_hole_starts_e1 : E := (.var 2)
def c_hole_starts : Ss := (.cons (.ret (.bi .len (.cons (.lc c_hole_starts_e1 [2] (.nm 2) (.lst (.call "all_statements" (.cons (.var 0) .nil))) (.cmp .eq (.sl (.var 2) .no (.kc (.int 2))) (.tup (.cons (.kc (.str "start")) (.cons (.var 1) .nil))))) .nil)))
  .nil)
def c_repeated_starts_b1 : Ss := (.cons (.asg 2 (.bin .add (.var 2) (.call "repeated_starts" (.cons (.var 4) (.cons (.var 1) .nil)))))
  .nil)
def c_repeated_starts_b2 : Ss := (.cons (.ite (.cmp .eq (.ix (.var 3) (.kc (.int 0))) (.kc (.str "repeat")))
 (.cons (.asg 2 (.bin .add (.var 2) (.call "hole_starts" (.cons (.ix (.var 3) (.kc (.int 2))) (.cons (.var 1) .nil)))))
  .nil)
 (.cons (.for_ (.nm 4) (.tup (.call "blocks_of" (.cons (.var 3) .nil))) c_repeated_starts_b1)
  .nil))
  .nil)
def c_repeated_starts : Ss := (.cons (.asg 2 (.kc (.int 0)))
  (.cons (.for_ (.nm 3) (.tup (.var 0)) c_repeated_starts_b2)
  (.cons (.ret (.var 2))
  .nil)))
def c_check_frame_e1 : E := (.cmp .gt (.call "hole_starts" (.cons (.var 2) (.cons (.var 1) .nil))) (.kc (.int 0)))
def c_check_frame : Ss := (.cons (.ex (.call "check_context" (.cons (.var 0) .nil)))
  (.cons (.asg 1 (.bi .len (.cons (.var 0) .nil)))
  (.cons (.ite (.cmp .gt (.var 1) (.gl "MOST_FRAME_BODIES"))
 (.cons (.raise "BadFrame" .nil)
  .nil)
 .nil)
  (.cons (.ite (.lor (.cons (.cmp .ne (.call "hole_starts" (.cons (.ix (.var 0) (.kc (.int 0))) (.cons (.var 1) .nil))) (.kc (.int 1))) (.cons (.cmp .gt (.call "repeated_starts" (.cons (.ix (.var 0) (.kc (.int 0))) (.cons (.var 1) .nil))) (.kc (.int 0))) .nil)))
 (.cons (.raise "BadFrame" .nil)
  .nil)
 .nil)
  (.cons (.ite (.lor (.cons (.gen false c_check_frame_e1 2 (.tup (.sl (.var 0) (.kc (.int 1)) .no))) (.cons (.cmp .gt (.bi .max (.cons (.call "body_sizes" (.cons (.var 0) .nil)) .nil)) (.gl "MOST_FRAME")) .nil)))
 (.cons (.raise "BadFrame" .nil)
  .nil)
 .nil)
  .nil)))))
def c_law_size_b1 : Ss := (.cons (.asd (.var 2) (.var 3) (.bin .add (.kc (.int 1)) (.call "_law_weight" (.cons (.ix (.var 0) (.var 3)) (.cons (.var 2) .nil)))))
  .nil)
def c_law_size : Ss := (.cons (.asg 2 (.dct [] .nil))
  (.cons (.for_ (.nm 3) (.revr (.bi .len (.cons (.var 0) .nil))) c_law_size_b1)
  (.cons (.ret (.call "_law_weight" (.cons (.var 1) (.cons (.var 2) .nil))))
  .nil)))
def c_law_is_context : Ss := (.cons (.ret (.land (.cons (.cmp .le (.kc (.int 1)) (.bi .len (.cons (.var 0) .nil))) (.cons (.cmp .le (.bi .len (.cons (.var 0) .nil)) (.kc (.int 7))) (.cons (.call "_law_are_bodies" (.cons (.var 0) (.cons (.bi .len (.cons (.var 0) .nil)) .nil))) .nil)))))
  .nil)
def c_law_is_context_v2_b1 : Ss := (.cons (.ite (.land (.cons (.cmp .eq (.ix (.var 3) (.kc (.int 0))) (.kc (.str "start"))) (.cons (.lnot (.land (.cons (.cmp .lt (.var 1) (.ix (.var 3) (.kc (.int 1)))) (.cons (.cmp .le (.ix (.var 3) (.kc (.int 1))) (.var 2)) .nil)))) .nil)))
 (.cons (.ret (.kc (.bl false)))
  .nil)
 .nil)
  (.cons (.ite (.land (.cons (.cmp .eq (.ix (.var 3) (.kc (.int 0))) (.kc (.str "try"))) (.cons (.lnot (.land (.cons (.call "_law_is_context" (.cons (.ix (.var 3) (.kc (.int 1))) (.cons (.var 1) (.cons (.var 2) .nil)))) (.cons (.call "_law_is_context" (.cons (.ix (.var 3) (.kc (.int 2))) (.cons (.var 1) (.cons (.var 2) .nil)))) .nil)))) .nil)))
 (.cons (.ret (.kc (.bl false)))
  .nil)
 .nil)
  (.cons (.ite (.land (.cons (.cmp .eq (.ix (.var 3) (.kc (.int 0))) (.kc (.str "repeat"))) (.cons (.lnot (.call "_law_is_context" (.cons (.ix (.var 3) (.kc (.int 2))) (.cons (.var 1) (.cons (.var 2) .nil))))) .nil)))
 (.cons (.ret (.kc (.bl false)))
  .nil)
 .nil)
  .nil)))
def c_law_is_context_v2 : Ss := (.cons (.for_ (.nm 3) (.tup (.var 0)) c_law_is_context_v2_b1)
  (.cons (.ret (.kc (.bl true)))
  .nil))
def c_law_repeated_e1 : E := (.var 4)
def c_law_repeated_b2 : Ss := (.cons (.ite (.cmp .eq (.ix (.var 3) (.kc (.int 0))) (.kc (.str "repeat")))
 (.cons (.asg 2 (.bin .add (.var 2) (.bi .len (.cons (.lc c_law_repeated_e1 [4] (.nm 4) (.lst (.call "_law_all" (.cons (.ix (.var 3) (.kc (.int 2))) .nil))) (.cmp .eq (.sl (.var 4) .no (.kc (.int 2))) (.tup (.cons (.kc (.str "start")) (.cons (.var 1) .nil))))) .nil))))
  .nil)
 .nil)
  (.cons (.ite (.cmp .eq (.ix (.var 3) (.kc (.int 0))) (.kc (.str "try")))
 (.cons (.asg 2 (.bin .add (.bin .add (.var 2) (.call "_law_repeated" (.cons (.ix (.var 3) (.kc (.int 1))) (.cons (.var 1) .nil)))) (.call "_law_repeated" (.cons (.ix (.var 3) (.kc (.int 2))) (.cons (.var 1) .nil)))))
  .nil)
 .nil)
  .nil))
def c_law_repeated : Ss := (.cons (.asg 2 (.kc (.int 0)))
  (.cons (.for_ (.nm 3) (.tup (.var 0)) c_law_repeated_b2)
  (.cons (.ret (.var 2))
  .nil)))
def c_law_is_frame_e1 : E := (.var 3)
def c_law_is_frame_e2 : E := (.bi .len (.cons (.lc c_law_is_frame_e1 [3] (.nm 3) (.lst (.call "_law_all" (.cons (.var 4) .nil))) (.cmp .eq (.sl (.var 3) .no (.kc (.int 2))) (.tup (.cons (.kc (.str "start")) (.cons (.var 1) .nil))))) .nil))
def c_law_is_frame : Ss := (.cons (.asg 1 (.bi .len (.cons (.var 0) .nil)))
  (.cons (.ite (.lor (.cons (.lnot (.call "_law_is_context" (.cons (.var 0) .nil))) (.cons (.cmp .gt (.var 1) (.kc (.int 4))) (.cons (.cmp .gt (.bi .max (.cons (.call "_law_sizes" (.cons (.var 0) .nil)) .nil)) (.kc (.int 20))) .nil))))
 (.cons (.ret (.kc (.bl false)))
  .nil)
 .nil)
  (.cons (.asg 2 (.lc c_law_is_frame_e2 [4] (.nm 4) (.tup (.var 0)) .no))
  (.cons (.ret (.land (.cons (.cmp .eq (.ix (.var 2) (.kc (.int 0))) (.kc (.int 1))) (.cons (.cmp .eq (.bi .sum (.cons (.var 2) .nil)) (.kc (.int 1))) (.cons (.cmp .eq (.call "_law_repeated" (.cons (.ix (.var 0) (.kc (.int 0))) (.cons (.var 1) .nil))) (.kc (.int 0))) .nil)))))
  .nil))))
def c_law_outer_b1 : Ss := (.cons (.ite (.cmp .gt (.bin .add (.call "_law_size" (.cons (.var 6) (.cons (.ix (.var 6) (.var 7)) .nil))) (.kc (.int 1))) (.var 4))
 (.cons (.asi (.var 6) (.var 7) (.tup (.cons (.tup (.cons (.kc (.str "start")) (.cons (.var 5) (.cons (.kc (.str "a")) .nil)))) (.cons (.tup (.cons (.kc (.str "wait")) (.cons (.kc (.str "a")) .nil))) (.cons (.tup (.cons (.kc (.str "say")) (.cons (.kc (.str "b")) .nil))) .nil)))))
  .nil)
 .nil)
  .nil)
def c_law_outer_b2 : Ss := (.cons (.ex (.bm (.var 6) .append (.cons (.call "_law_block" (.cons (.call "_law_box" (.cons (.var 0) (.cons (.bin .add (.bin .add (.var 1) (.kc (.int 1))) (.var 7)) .nil))) (.cons (.kc (.int 2)) (.cons (.var 3) (.cons (.var 7) (.cons (.bin .add (.var 5) (.kc (.int 1))) .nil)))))) .nil)))
  .nil)
def c_law_outer : Ss := (.cons (.asg 5 (.bin .add (.kc (.int 1)) (.call "_law_draw" (.cons (.call "_law_box" (.cons (.var 0) (.cons (.var 1) .nil))) (.cons (.var 2) .nil)))))
  (.cons (.asg 6 (.lst .nil))
  (.cons (.for_ (.nm 7) (.rng (.cons (.var 5) .nil)) c_law_outer_b2)
  (.cons (.for_ (.nm 7) (.revr (.var 5)) c_law_outer_b1)
  (.cons (.ret (.bi .tuple (.cons (.var 6) .nil)))
  .nil)))))
def c_law_renamed_b1 : Ss := (.cons (.ite (.land (.cons (.cmp .eq (.ix (.var 4) (.kc (.int 0))) (.kc (.str "start"))) (.cons (.cmp .eq (.ix (.var 4) (.kc (.int 1))) (.var 1)) .nil)))
 (.cons (.ex (.bm (.var 3) .append (.cons (.tup (.cons (.kc (.str "start")) (.cons (.var 2) (.cons (.ix (.var 4) (.kc (.int 2))) .nil)))) .nil)))
  .nil)
 (.cons (.ite (.cmp .eq (.ix (.var 4) (.kc (.int 0))) (.kc (.str "try")))
 (.cons (.ex (.bm (.var 3) .append (.cons (.tup (.cons (.kc (.str "try")) (.cons (.call "_law_renamed" (.cons (.ix (.var 4) (.kc (.int 1))) (.cons (.var 1) (.cons (.var 2) .nil)))) (.cons (.call "_law_renamed" (.cons (.ix (.var 4) (.kc (.int 2))) (.cons (.var 1) (.cons (.var 2) .nil)))) .nil)))) .nil)))
  .nil)
 (.cons (.ite (.cmp .eq (.ix (.var 4) (.kc (.int 0))) (.kc (.str "repeat")))
 (.cons (.ex (.bm (.var 3) .append (.cons (.tup (.cons (.kc (.str "repeat")) (.cons (.ix (.var 4) (.kc (.int 1))) (.cons (.call "_law_renamed" (.cons (.ix (.var 4) (.kc (.int 2))) (.cons (.var 1) (.cons (.var 2) .nil)))) .nil)))) .nil)))
  .nil)
 (.cons (.ex (.bm (.var 3) .append (.cons (.var 4) .nil)))
  .nil))
  .nil))
  .nil))
  .nil)
def c_law_renamed : Ss := (.cons (.asg 3 (.lst .nil))
  (.cons (.for_ (.nm 4) (.tup (.var 0)) c_law_renamed_b1)
  (.cons (.ret (.bi .tuple (.cons (.var 3) .nil)))
  .nil)))
def c_law_lengthened_e1 : E := (.call "_law_renamed" (.cons (.var 3) (.cons (.var 2) (.cons (.bin .add (.var 2) (.var 1)) .nil))))
def c_law_lengthened : Ss := (.cons (.asg 2 (.bi .len (.cons (.var 0) .nil)))
  (.cons (.ret (.bin .add (.bi .tuple (.cons (.lc c_law_lengthened_e1 [3] (.nm 3) (.tup (.var 0)) .no) .nil)) (.bin .mul (.tup (.cons (.tup .nil) .nil)) (.var 1))))
  .nil))
def c_law_k02_b1 : Ss := (.cons (.asg 4 (.ife (.cmp .gt (.var 3) (.kc (.int 0))) (.call "_law_bent" (.cons (.var 2) (.cons (.var 1) .nil))) (.var 1)))
  (.cons (.ite (.land (.cons (.cmp .eq (.var 3) (.kc (.int 3))) (.cons (.cmp .eq (.call "_law_draw" (.cons (.var 2) (.cons (.kc (.int 2)) .nil))) (.kc (.int 0))) .nil)))
 (.cons (.asg 4 (.call "_law_lengthened" (.cons (.var 1) (.cons (.bin .add (.kc (.int 1)) (.call "_law_draw" (.cons (.var 2) (.cons (.kc (.int 6)) .nil)))) .nil))))
  .nil)
 .nil)
  (.cons (.asg 5 (.call "_law_is_context" (.cons (.var 4) .nil)))
  (.cons (.ite (.lnot (.call "_law_same" (.cons (.call "_law_asked" (.cons (.gl "check_context") (.cons (.var 4) .nil))) (.cons (.tup (.cons (.ife (.var 5) (.kc (.str "taken")) (.kc (.str "context"))) (.cons (.kc .non) .nil))) .nil))))
 (.cons (.ret (.kc (.bl false)))
  .nil)
 .nil)
  (.cons (.asg 6 (.ife (.lnot (.var 5)) (.kc (.str "context")) (.ife (.call "_law_is_frame" (.cons (.var 4) .nil)) (.kc (.str "taken")) (.kc (.str "frame")))))
  (.cons (.ite (.lnot (.call "_law_same" (.cons (.call "_law_asked" (.cons (.gl "check_frame") (.cons (.var 4) .nil))) (.cons (.tup (.cons (.var 6) (.cons (.kc .non) .nil))) .nil))))
 (.cons (.ret (.kc (.bl false)))
  .nil)
 .nil)
  .nil))))))
def c_law_k02 : Ss := (.cons (.asg 1 (.call "_law_outer" (.cons (.var 0) (.cons (.kc (.int 0)) (.cons (.kc (.int 4)) (.cons (.kc (.int 4)) (.cons (.ix (.tup (.cons (.kc (.int 20)) (.cons (.kc (.int 200)) .nil))) (.call "_law_draw" (.cons (.call "_law_box" (.cons (.var 0) (.cons (.kc (.int 7)) .nil))) (.cons (.kc (.int 2)) .nil)))) .nil)))))))
  (.cons (.asg 2 (.call "_law_box" (.cons (.var 0) (.cons (.kc (.int 6)) .nil))))
  (.cons (.for_ (.nm 3) (.rng (.cons (.kc (.int 4)) .nil)) c_law_k02_b1)
  (.cons (.ret (.kc (.bl true)))
  .nil))))
def c_check_place : Ss := (.cons (.ite (.lor (.cons (.cmp .lt (.var 1) (.kc (.int 0))) (.cons (.cmp .ge (.var 1) (.bi .len (.cons (.var 0) .nil))) .nil)))
 (.cons (.raise "NoSuchPlace" .nil)
  .nil)
 .nil)
  (.cons (.ite (.lor (.cons (.cmp .lt (.var 2) (.kc (.int 0))) (.cons (.cmp .gt (.var 2) (.bi .len (.cons (.call "all_statements" (.cons (.ix (.var 0) (.var 1)) .nil)) .nil))) .nil)))
 (.cons (.raise "NoSuchPlace" .nil)
  .nil)
 .nil)
  .nil))
def c_check_place_v2 : Ss := (.cons (.ite (.lor (.cons (.cmp .lt (.var 1) (.kc (.int 0))) (.cons (.cmp .ge (.var 1) (.bi .len (.cons (.var 0) .nil))) (.cons (.cmp .lt (.var 2) (.kc (.int 0))) (.cons (.cmp .gt (.var 2) (.call "count_in" (.cons (.ix (.var 0) (.var 1)) .nil))) .nil)))))
 (.cons (.raise "NoSuchPlace" .nil)
  .nil)
 .nil)
  .nil)
def c_law_told : Ss := (.cons (.try_ (.cons (.ret (.tup (.cons (.kc (.str "taken")) (.cons (.call "check_place" (.cons (.var 0) (.cons (.var 1) (.cons (.var 2) .nil)))) .nil))))
  .nil) "TickError" 3
 (.cons (.ret (.tup (.cons (.ife (.land (.cons (.isx (.var 3) "NoSuchPlace") (.cons (.lnot (.isx (.var 3) "BadProgram")) .nil))) (.kc (.str "refused")) (.kc (.str "else"))) (.cons (.kc .non) .nil))))
  .nil))
  .nil)
def c_law_told_v2 : Ss := (.cons (.try_ (.cons (.ret (.tup (.cons (.kc (.str "told")) (.cons (.call "put_into" (.cons (.var 0) (.cons (.var 1) .nil))) .nil))))
  .nil) "TickError" 2
 (.cons (.ite (.land (.cons (.isx (.var 2) "BadProgram") (.cons (.isx (.var 2) "ValueError") (.cons (.lnot (.isx (.var 2) "BadContext")) .nil))))
 (.cons (.ret (.tup (.cons (.kc (.str "refused")) (.cons (.kc .non) .nil))))
  .nil)
 .nil)
  (.cons (.ret (.tup (.cons (.kc (.str "else")) (.cons (.kc .non) .nil))))
  .nil)))
  .nil)
def c_law_told_v3 : Ss := (.cons (.try_ (.cons (.ret (.tup (.cons (.kc (.str "told")) (.cons (.call "slack" (.cons (.var 0) (.cons (.var 1) (.cons (.var 2) (.cons (.var 3) .nil))))) .nil))))
  .nil) "TickError" 4
 (.cons (.ite (.land (.cons (.isx (.var 4) "NoSuchPlace") (.cons (.lnot (.isx (.var 4) "BadProgram")) .nil)))
 (.cons (.ret (.tup (.cons (.kc (.str "refused")) (.cons (.kc (.int 0)) .nil))))
  .nil)
 .nil)
  (.cons (.ret (.tup (.cons (.kc (.str "else")) (.cons (.kc (.int 0)) .nil))))
  .nil)))
  .nil)
def c_law_told_v4 : Ss := (.cons (.try_ (.cons (.ret (.tup (.cons (.kc (.str "told")) (.cons (.call "fewest_pauses" (.cons (.var 0) (.cons (.var 1) (.cons (.var 2) .nil)))) .nil))))
  .nil) "TickError" 3
 (.cons (.ite (.land (.cons (.isx (.var 3) "TooMuch") (.cons (.lnot (.isx (.var 3) "NoSuchPlace")) .nil)))
 (.cons (.ret (.tup (.cons (.kc (.str "refused")) (.cons (.kc .non) .nil))))
  .nil)
 .nil)
  (.cons (.ret (.tup (.cons (.kc (.str "else")) (.cons (.kc .non) .nil))))
  .nil)))
  .nil)
def c_law_told_v5 : Ss := (.cons (.try_ (.cons (.ret (.call "with_pauses" (.cons (.var 0) (.cons (.var 1) (.cons (.var 2) (.cons (.var 3) .nil))))))
  .nil) "TickError" 4
 (.cons (.ite (.isx (.var 4) "NoSuchPlace")
 (.cons (.ret (.ife (.lnot (.isx (.var 4) "BadProgram")) (.kc (.str "place")) (.kc (.str "else"))))
  .nil)
 .nil)
  (.cons (.ret (.ife (.isx (.var 4) "BadProgram") (.kc (.str "program")) (.kc (.str "else"))))
  .nil)))
  .nil)
def c_law_k03_b1 : Ss := (.cons (.asg 4 (.land (.cons (.cmp .le (.kc (.int 0)) (.var 2)) (.cons (.cmp .lt (.var 2) (.bi .len (.cons (.var 1) .nil))) (.cons (.cmp .le (.kc (.int 0)) (.var 3)) .nil)))))
  (.cons (.asg 4 (.land (.cons (.var 4) (.cons (.cmp .le (.var 3) (.bi .len (.cons (.call "_law_all" (.cons (.ix (.var 1) (.var 2)) .nil)) .nil))) .nil))))
  (.cons (.ite (.lnot (.call "_law_same" (.cons (.call "_law_told" (.cons (.var 1) (.cons (.var 2) (.cons (.var 3) .nil)))) (.cons (.tup (.cons (.ife (.var 4) (.kc (.str "taken")) (.kc (.str "refused"))) (.cons (.kc .non) .nil))) .nil))))
 (.cons (.ret (.kc (.bl false)))
  .nil)
 .nil)
  .nil)))
def c_law_k03_b2 : Ss := (.cons (.for_ (.nm 3) (.rng (.cons (.neg (.kc (.int 1))) (.cons (.kc (.int 45)) .nil))) c_law_k03_b1)
  .nil)
def c_law_k03 : Ss := (.cons (.asg 1 (.call "_law_program" (.cons (.var 0) (.cons (.kc (.int 0)) (.cons (.kc (.int 4)) (.cons (.kc (.int 6)) (.cons (.kc (.int 300)) .nil)))))))
  (.cons (.for_ (.nm 2) (.rng (.cons (.neg (.kc (.int 1))) (.cons (.bin .add (.bi .len (.cons (.var 1) .nil)) (.kc (.int 2))) .nil))) c_law_k03_b2)
  (.cons (.ret (.kc (.bl true)))
  .nil)))
def c_FaultyText__init : Ss := (.cons (.ex (.meth (.call "super" .nil) "__init__" (.cons (.kc (.str "a token is wrong")) .nil)))
  (.cons (.asf (.var 0) "token" (.var 1))
  .nil))
def c_block_words_e1 : E := (.bi .str (.cons (.var 3) .nil))
def c_block_words_b2 : Ss := (.cons (.ite (.cmp .eq (.ix (.var 2) (.kc (.int 0))) (.kc (.str "try")))
 (.cons (.asg 1 (.bin .add (.bin .add (.bin .add (.var 1) (.lst (.cons (.kc (.str "try")) (.cons (.kc (.str "{")) .nil)))) (.call "block_words" (.cons (.ix (.var 2) (.kc (.int 1))) .nil))) (.lst (.cons (.kc (.str "}")) (.cons (.kc (.str "catch")) (.cons (.kc (.str "{")) .nil))))))
  (.cons (.asg 1 (.bin .add (.bin .add (.var 1) (.call "block_words" (.cons (.ix (.var 2) (.kc (.int 2))) .nil))) (.lst (.cons (.kc (.str "}")) .nil))))
  .nil))
 (.cons (.ite (.cmp .eq (.ix (.var 2) (.kc (.int 0))) (.kc (.str "repeat")))
 (.cons (.asg 1 (.bin .add (.bin .add (.bin .add (.var 1) (.lst (.cons (.kc (.str "repeat")) (.cons (.bi .str (.cons (.ix (.var 2) (.kc (.int 1))) .nil)) (.cons (.kc (.str "{")) .nil))))) (.call "block_words" (.cons (.ix (.var 2) (.kc (.int 2))) .nil))) (.lst (.cons (.kc (.str "}")) .nil))))
  .nil)
 (.cons (.asg 1 (.bin .add (.var 1) (.lc c_block_words_e1 [3] (.nm 3) (.tup (.var 2)) .no)))
  .nil))
  .nil))
  .nil)
def c_block_words : Ss := (.cons (.asg 1 (.lst .nil))
  (.cons (.for_ (.nm 2) (.tup (.var 0)) c_block_words_b2)
  (.cons (.ret (.var 1))
  .nil)))
def c_text_of_b1 : Ss := (.cons (.asg 1 (.bin .add (.bin .add (.var 1) (.lst (.cons (.kc (.str ";")) .nil))) (.call "block_words" (.cons (.var 2) .nil))))
  .nil)
def c_text_of : Ss := (.cons (.asg 1 (.call "block_words" (.cons (.ix (.var 0) (.kc (.int 0))) .nil)))
  (.cons (.for_ (.nm 2) (.tup (.sl (.var 0) (.kc (.int 1)) .no)) c_text_of_b1)
  (.cons (.ret (.bm (.kc (.str " ")) .join (.cons (.var 1) .nil)))
  .nil)))
def c_tokens_of_b1 : Ss := (.cons (.ite (.cmp .eq (.var 3) (.kc (.str " ")))
 (.cons (.asg 2 (.kc (.bl false)))
  .nil)
 (.cons (.ite (.cmp .inS (.var 3) (.kc (.str "{};")))
 (.cons (.ex (.bm (.var 1) .append (.cons (.var 3) .nil)))
  (.cons (.asg 2 (.kc (.bl false)))
  .nil))
 (.cons (.ite (.var 2)
 (.cons (.asi (.var 1) (.neg (.kc (.int 1))) (.bin .add (.ix (.var 1) (.neg (.kc (.int 1)))) (.var 3)))
  .nil)
 (.cons (.ex (.bm (.var 1) .append (.cons (.var 3) .nil)))
  (.cons (.asg 2 (.kc (.bl true)))
  .nil)))
  .nil))
  .nil))
  .nil)
def c_tokens_of : Ss := (.cons (.asg 1 (.lst .nil))
  (.cons (.asg 2 (.kc (.bl false)))
  (.cons (.for_ (.nm 3) (.str (.var 0)) c_tokens_of_b1)
  (.cons (.ret (.var 1))
  .nil))))
def c_number_of_e1 : E := (.cmp .inS (.var 2) (.gl "DIGITS"))
def c_number_of : Ss := (.cons (.ite (.lor (.cons (.cmp .gt (.bi .len (.cons (.var 0) .nil)) (.kc (.int 3))) (.cons (.lnot (.gen true c_number_of_e1 2 (.str (.var 0)))) (.cons (.land (.cons (.cmp .gt (.bi .len (.cons (.var 0) .nil)) (.kc (.int 1))) (.cons (.cmp .eq (.ix (.var 0) (.kc (.int 0))) (.kc (.str "0"))) .nil))) .nil))))
 (.cons (.ret (.kc .non))
  .nil)
 .nil)
  (.cons (.ret (.ife (.cmp .le (.bi .int (.cons (.var 0) .nil)) (.var 1)) (.bi .int (.cons (.var 0) .nil)) (.kc .non)))
  .nil))
def c_part_of : Ss := (.cons (.ite (.cmp .eq (.var 0) (.kc (.str "word")))
 (.cons (.ret (.ife (.call "is_word" (.cons (.var 1) .nil)) (.var 1) (.kc .non)))
  .nil)
 .nil)
  (.cons (.ite (.cmp .eq (.var 0) (.kc (.str "body")))
 (.cons (.ret (.call "number_of" (.cons (.var 1) (.cons (.bin .sub (.gl "MOST_BODIES") (.kc (.int 1))) .nil))))
  .nil)
 .nil)
  (.cons (.ite (.cmp .eq (.var 0) (.kc (.str "count")))
 (.cons (.ret (.call "number_of" (.cons (.var 1) (.cons (.gl "MOST_COUNT") .nil))))
  .nil)
 .nil)
  (.cons (.ite (.cmp .eq (.var 0) (.kc (.str "variable")))
 (.cons (.ret (.ife (.cmp .inS (.var 1) (.gl "VARIABLES")) (.var 1) (.kc .non)))
  .nil)
 .nil)
  (.cons (.ret (.ife (.cmp .eq (.var 1) (.var 0)) (.var 1) (.kc .non)))
  .nil)))))
def c_Reader__init : Ss := (.cons (.asf (.var 0) "bodies" (.lst .nil))
  (.cons (.asf (.var 0) "blocks" (.lst (.cons (.lst .nil) .nil)))
  (.cons (.asf (.var 0) "heads" (.lst .nil))
  (.cons (.asf (.var 0) "head" (.tup .nil))
  (.cons (.asf (.var 0) "wanted" (.tup .nil))
  .nil)))))
def c_Reader_take : Ss := (.cons (.ite (.cmp .gt (.bi .len (.cons (.fld (.var 0) "wanted") .nil)) (.kc (.int 0)))
 (.cons (.ret (.meth (.var 0) "take_part" (.cons (.var 1) .nil)))
  .nil)
 .nil)
  (.cons (.ite (.land (.cons (.cmp .eq (.var 1) (.kc (.str "}"))) (.cons (.cmp .gt (.bi .len (.cons (.fld (.var 0) "heads") .nil)) (.kc (.int 0))) .nil)))
 (.cons (.ex (.meth (.var 0) "close" .nil))
  .nil)
 (.cons (.ite (.land (.cons (.cmp .eq (.var 1) (.kc (.str ";"))) (.cons (.cmp .eq (.bi .len (.cons (.fld (.var 0) "heads") .nil)) (.kc (.int 0))) .nil)))
 (.cons (.ex (.bm (.fld (.var 0) "bodies") .append (.cons (.bi .tuple (.cons (.bm (.fld (.var 0) "blocks") .pop .nil) .nil)) .nil)))
  (.cons (.ex (.bm (.fld (.var 0) "blocks") .append (.cons (.lst .nil) .nil)))
  .nil))
 (.cons (.ite (.cmp .inD (.var 1) (.gl "PARTS"))
 (.cons (.asf (.var 0) "head" (.tup (.cons (.var 1) .nil)))
  (.cons (.asf (.var 0) "wanted" (.dx (.gl "PARTS") (.var 1)))
  (.cons (.ex (.meth (.var 0) "finish" .nil))
  .nil)))
 (.cons (.ret (.kc (.bl false)))
  .nil))
  .nil))
  .nil))
  (.cons (.ret (.kc (.bl true)))
  .nil)))
def c_Reader_take_part : Ss := (.cons (.asg 2 (.call "part_of" (.cons (.ix (.fld (.var 0) "wanted") (.kc (.int 0))) (.cons (.var 1) .nil))))
  (.cons (.ite (.cmp .isN (.var 2) (.kc .non))
 (.cons (.ret (.kc (.bl false)))
  .nil)
 .nil)
  (.cons (.asf (.var 0) "wanted" (.sl (.fld (.var 0) "wanted") (.kc (.int 1)) .no))
  (.cons (.ite (.cmp .eq (.var 1) (.kc (.str "{")))
 (.cons (.ex (.bm (.fld (.var 0) "heads") .append (.cons (.fld (.var 0) "head") .nil)))
  (.cons (.ex (.bm (.fld (.var 0) "blocks") .append (.cons (.lst .nil) .nil)))
  .nil))
 (.cons (.ite (.lor (.cons (.cmp .ne (.var 1) (.kc (.str "catch"))) (.cons (.cmp .ne (.ix (.fld (.var 0) "head") (.kc (.int 0))) (.kc (.str "try"))) .nil)))
 (.cons (.asf (.var 0) "head" (.bin .add (.fld (.var 0) "head") (.tup (.cons (.var 2) .nil))))
  (.cons (.ex (.meth (.var 0) "finish" .nil))
  .nil))
 .nil)
  .nil))
  (.cons (.ret (.kc (.bl true)))
  .nil)))))
def c_Reader_finish : Ss := (.cons (.ite (.cmp .eq (.bi .len (.cons (.fld (.var 0) "wanted") .nil)) (.kc (.int 0)))
 (.cons (.ex (.bm (.ix (.fld (.var 0) "blocks") (.neg (.kc (.int 1)))) .append (.cons (.fld (.var 0) "head") .nil)))
  .nil)
 .nil)
  .nil)
def c_Reader_close : Ss := (.cons (.asg 1 (.bi .tuple (.cons (.bm (.fld (.var 0) "blocks") .pop .nil) .nil)))
  (.cons (.asf (.var 0) "head" (.bin .add (.bm (.fld (.var 0) "heads") .pop .nil) (.tup (.cons (.var 1) .nil))))
  (.cons (.ite (.land (.cons (.cmp .eq (.ix (.fld (.var 0) "head") (.kc (.int 0))) (.kc (.str "try"))) (.cons (.cmp .eq (.bi .len (.cons (.fld (.var 0) "head") .nil)) (.kc (.int 2))) .nil)))
 (.cons (.asf (.var 0) "wanted" (.tup (.cons (.kc (.str "catch")) (.cons (.kc (.str "{")) .nil))))
  .nil)
 (.cons (.ex (.bm (.ix (.fld (.var 0) "blocks") (.neg (.kc (.int 1)))) .append (.cons (.fld (.var 0) "head") .nil)))
  .nil))
  .nil)))
def c_Reader_is_whole : Ss := (.cons (.ret (.land (.cons (.cmp .eq (.bi .len (.cons (.fld (.var 0) "wanted") .nil)) (.kc (.int 0))) (.cons (.cmp .eq (.bi .len (.cons (.fld (.var 0) "heads") .nil)) (.kc (.int 0))) .nil))))
  .nil)
def c_program_of_b1 : Ss := (.cons (.ite (.lnot (.meth (.var 1) "take" (.cons (.ix (.var 2) (.var 3)) .nil)))
 (.cons (.raise "FaultyText" (.cons (.bin .add (.var 3) (.kc (.int 1))) .nil))
  .nil)
 .nil)
  .nil)
def c_program_of : Ss := (.cons (.asg 1 (.make "Reader" .nil))
  (.cons (.asg 2 (.call "tokens_of" (.cons (.var 0) .nil)))
  (.cons (.for_ (.nm 3) (.rng (.cons (.bi .len (.cons (.var 2) .nil)) .nil)) c_program_of_b1)
  (.cons (.ite (.lnot (.meth (.var 1) "is_whole" .nil))
 (.cons (.raise "FaultyText" (.cons (.bin .add (.bi .len (.cons (.var 2) .nil)) (.kc (.int 1))) .nil))
  .nil)
 .nil)
  (.cons (.asg 4 (.bi .tuple (.cons (.bin .add (.fld (.var 1) "bodies") (.lst (.cons (.bi .tuple (.cons (.ix (.fld (.var 1) "blocks") (.kc (.int 0))) .nil)) .nil))) .nil)))
  (.cons (.ex (.call "check_program" (.cons (.var 4) .nil)))
  (.cons (.ret (.var 4))
  .nil)))))))
def c_law_tokens_e1 : E := (.bi .str (.cons (.var 3) .nil))
def c_law_tokens_b2 : Ss := (.cons (.ite (.cmp .eq (.ix (.var 2) (.kc (.int 0))) (.kc (.str "try")))
 (.cons (.asg 1 (.bin .add (.bin .add (.bin .add (.bin .add (.bin .add (.var 1) (.lst (.cons (.kc (.str "try")) (.cons (.kc (.str "{")) .nil)))) (.call "_law_tokens" (.cons (.ix (.var 2) (.kc (.int 1))) .nil))) (.lst (.cons (.kc (.str "}")) (.cons (.kc (.str "catch")) (.cons (.kc (.str "{")) .nil))))) (.call "_law_tokens" (.cons (.ix (.var 2) (.kc (.int 2))) .nil))) (.lst (.cons (.kc (.str "}")) .nil))))
  .nil)
 (.cons (.ite (.cmp .eq (.ix (.var 2) (.kc (.int 0))) (.kc (.str "repeat")))
 (.cons (.asg 1 (.bin .add (.bin .add (.bin .add (.var 1) (.lst (.cons (.kc (.str "repeat")) (.cons (.bi .str (.cons (.ix (.var 2) (.kc (.int 1))) .nil)) (.cons (.kc (.str "{")) .nil))))) (.call "_law_tokens" (.cons (.ix (.var 2) (.kc (.int 2))) .nil))) (.lst (.cons (.kc (.str "}")) .nil))))
  .nil)
 (.cons (.asg 1 (.bin .add (.var 1) (.lc c_law_tokens_e1 [3] (.nm 3) (.tup (.var 2)) .no)))
  .nil))
  .nil))
  .nil)
def c_law_tokens : Ss := (.cons (.asg 1 (.lst .nil))
  (.cons (.for_ (.nm 2) (.tup (.var 0)) c_law_tokens_b2)
  (.cons (.ret (.var 1))
  .nil)))
def c_law_all_tokens_b1 : Ss := (.cons (.asg 1 (.bin .add (.bin .add (.var 1) (.lst (.cons (.kc (.str ";")) .nil))) (.call "_law_tokens" (.cons (.var 2) .nil))))
  .nil)
def c_law_all_tokens : Ss := (.cons (.asg 1 (.call "_law_tokens" (.cons (.ix (.var 0) (.kc (.int 0))) .nil)))
  (.cons (.for_ (.nm 2) (.tup (.sl (.var 0) (.kc (.int 1)) .no)) c_law_all_tokens_b1)
  (.cons (.ret (.var 1))
  .nil)))
def c_law_loose_b1 : Ss := (.cons (.asg 2 (.bin .add (.var 2) (.ix (.var 1) (.var 3))))
  (.cons (.asg 4 (.lor (.cons (.cmp .eq (.bin .add (.var 3) (.kc (.int 1))) (.bi .len (.cons (.var 1) .nil))) (.cons (.cmp .inS (.ix (.var 1) (.var 3)) (.tup (.cons (.kc (.str "{")) (.cons (.kc (.str "}")) (.cons (.kc (.str ";")) .nil))))) (.cons (.cmp .inS (.ix (.var 1) (.bin .add (.var 3) (.kc (.int 1)))) (.tup (.cons (.kc (.str "{")) (.cons (.kc (.str "}")) (.cons (.kc (.str ";")) .nil))))) .nil)))))
  (.cons (.asg 2 (.bin .add (.var 2) (.bin .mul (.kc (.str " ")) (.bin .add (.call "_law_draw" (.cons (.var 0) (.cons (.kc (.int 3)) .nil))) (.ife (.var 4) (.kc (.int 0)) (.kc (.int 1)))))))
  .nil)))
def c_law_loose : Ss := (.cons (.asg 2 (.bin .mul (.kc (.str " ")) (.call "_law_draw" (.cons (.var 0) (.cons (.kc (.int 3)) .nil)))))
  (.cons (.for_ (.nm 3) (.rng (.cons (.bi .len (.cons (.var 1) .nil)) .nil)) c_law_loose_b1)
  (.cons (.ret (.var 2))
  .nil)))
def c_law_k04_b1 : Ss := (.cons (.ite (.lnot (.call "_law_same" (.cons (.call "program_of" (.cons (.call "_law_loose" (.cons (.call "_law_box" (.cons (.var 0) (.cons (.bin .add (.kc (.int 6)) (.var 3)) .nil))) (.cons (.var 2) .nil))) .nil)) (.cons (.var 1) .nil))))
 (.cons (.ret (.kc (.bl false)))
  .nil)
 .nil)
  .nil)
def c_law_k04 : Ss := (.cons (.asg 1 (.call "_law_program" (.cons (.var 0) (.cons (.kc (.int 0)) (.cons (.kc (.int 5)) (.cons (.kc (.int 6)) (.cons (.kc (.int 300)) .nil)))))))
  (.cons (.asg 2 (.call "_law_all_tokens" (.cons (.var 1) .nil)))
  (.cons (.ite (.lor (.cons (.lnot (.call "_law_same" (.cons (.call "text_of" (.cons (.var 1) .nil)) (.cons (.bm (.kc (.str " ")) .join (.cons (.var 2) .nil)) .nil)))) (.cons (.lnot (.call "_law_same" (.cons (.call "program_of" (.cons (.bm (.kc (.str " ")) .join (.cons (.var 2) .nil)) .nil)) (.cons (.var 1) .nil)))) .nil)))
 (.cons (.ret (.kc (.bl false)))
  .nil)
 .nil)
  (.cons (.for_ (.nm 3) (.rng (.cons (.kc (.int 3)) .nil)) c_law_k04_b1)
  (.cons (.ret (.kc (.bl true)))
  .nil)))))
def c_law_count_of_e1 : E := (.cmp .inS (.var 2) (.kc (.str "0123456789")))
def c_law_count_of : Ss := (.cons (.ite (.lor (.cons (.cmp .gt (.bi .len (.cons (.var 0) .nil)) (.kc (.int 3))) (.cons (.lnot (.bi .all (.cons (.lc c_law_count_of_e1 [2] (.nm 2) (.str (.var 0)) .no) .nil))) .nil)))
 (.cons (.ret (.kc (.bl false)))
  .nil)
 .nil)
  (.cons (.ret (.land (.cons (.cmp .eq (.bi .str (.cons (.bi .int (.cons (.var 0) .nil)) .nil)) (.var 0)) (.cons (.cmp .le (.bi .int (.cons (.var 0) .nil)) (.var 1)) .nil))))
  .nil))
def c_law_wants : Ss := (.cons (.ite (.cmp .eq (.var 0) (.kc (.str "say")))
 (.cons (.ret (.call "_law_is_word" (.cons (.var 1) .nil)))
  .nil)
 .nil)
  (.cons (.ite (.cmp .eq (.var 0) (.kc (.str "start")))
 (.cons (.ret (.call "_law_count_of" (.cons (.var 1) (.cons (.kc (.int 7)) .nil))))
  .nil)
 .nil)
  (.cons (.ite (.cmp .eq (.var 0) (.kc (.str "repeat")))
 (.cons (.ret (.call "_law_count_of" (.cons (.var 1) (.cons (.kc (.int 100)) .nil))))
  .nil)
 .nil)
  (.cons (.ite (.cmp .eq (.var 0) (.kc (.str "variable")))
 (.cons (.ret (.cmp .inS (.var 1) (.tup (.cons (.kc (.str "a")) (.cons (.kc (.str "b")) (.cons (.kc (.str "c")) (.cons (.kc (.str "d")) .nil)))))))
  .nil)
 .nil)
  (.cons (.ret (.cmp .eq (.var 1) (.var 0)))
  .nil)))))
def c_law_first_wrong_b1 : Ss := (.cons (.asg 4 (.ix (.var 0) (.var 3)))
  (.cons (.ite (.cmp .gt (.bi .len (.cons (.var 1) .nil)) (.kc (.int 0)))
 (.cons (.ite (.lnot (.call "_law_wants" (.cons (.ix (.var 1) (.kc (.int 0))) (.cons (.var 4) .nil))))
 (.cons (.ret (.bin .add (.var 3) (.kc (.int 1))))
  .nil)
 .nil)
  (.cons (.asg 1 (.sl (.var 1) (.kc (.int 1)) .no))
  .nil))
 (.cons (.ite (.cmp .eq (.var 4) (.kc (.str "say")))
 (.cons (.asg 1 (.lst (.cons (.kc (.str "say")) .nil)))
  .nil)
 (.cons (.ite (.cmp .inS (.var 4) (.tup (.cons (.kc (.str "wait")) (.cons (.kc (.str "adopt")) .nil))))
 (.cons (.asg 1 (.lst (.cons (.kc (.str "variable")) .nil)))
  .nil)
 (.cons (.ite (.cmp .eq (.var 4) (.kc (.str "start")))
 (.cons (.asg 1 (.lst (.cons (.kc (.str "start")) (.cons (.kc (.str "variable")) .nil))))
  .nil)
 (.cons (.ite (.cmp .eq (.var 4) (.kc (.str "repeat")))
 (.cons (.asg 1 (.lst (.cons (.kc (.str "repeat")) (.cons (.kc (.str "{")) .nil))))
  (.cons (.ex (.bm (.var 2) .append (.cons (.kc (.str "repeat")) .nil)))
  .nil))
 (.cons (.ite (.cmp .eq (.var 4) (.kc (.str "try")))
 (.cons (.asg 1 (.lst (.cons (.kc (.str "{")) .nil)))
  (.cons (.ex (.bm (.var 2) .append (.cons (.kc (.str "try")) .nil)))
  .nil))
 (.cons (.ite (.land (.cons (.cmp .eq (.var 4) (.kc (.str "}"))) (.cons (.cmp .gt (.bi .len (.cons (.var 2) .nil)) (.kc (.int 0))) .nil)))
 (.cons (.ite (.cmp .eq (.bm (.var 2) .pop .nil) (.kc (.str "try")))
 (.cons (.asg 1 (.lst (.cons (.kc (.str "catch")) (.cons (.kc (.str "{")) .nil))))
  (.cons (.ex (.bm (.var 2) .append (.cons (.kc (.str "catch")) .nil)))
  .nil))
 .nil)
  .nil)
 (.cons (.ite (.lnot (.lor (.cons (.cmp .inS (.var 4) (.tup (.cons (.kc (.str "pause")) (.cons (.kc (.str "return")) (.cons (.kc (.str "fail")) .nil))))) (.cons (.land (.cons (.cmp .eq (.var 4) (.kc (.str ";"))) (.cons (.cmp .eq (.bi .len (.cons (.var 2) .nil)) (.kc (.int 0))) .nil))) .nil))))
 (.cons (.ret (.bin .add (.var 3) (.kc (.int 1))))
  .nil)
 .nil)
  .nil))
  .nil))
  .nil))
  .nil))
  .nil))
  .nil))
  .nil))
  .nil))
def c_law_first_wrong : Ss := (.cons (.asg 1 (.lst .nil))
  (.cons (.asg 2 (.lst .nil))
  (.cons (.for_ (.nm 3) (.rng (.cons (.bi .len (.cons (.var 0) .nil)) .nil)) c_law_first_wrong_b1)
  (.cons (.ret (.ife (.land (.cons (.cmp .eq (.bi .len (.cons (.var 1) .nil)) (.kc (.int 0))) (.cons (.cmp .eq (.bi .len (.cons (.var 2) .nil)) (.kc (.int 0))) .nil))) (.kc (.int 0)) (.bin .add (.bi .len (.cons (.var 0) .nil)) (.kc (.int 1)))))
  .nil))))
def c_law_parsed_b1 : Ss := (.cons (.asg 5 (.ix (.var 0) (.var 4)))
  (.cons (.asg 4 (.bin .add (.var 4) (.kc (.int 1))))
  (.cons (.ite (.cmp .eq (.var 5) (.kc (.str ";")))
 (.cons (.ex (.bm (.var 3) .append (.cons (.bi .tuple (.cons (.bm (.var 1) .pop .nil) .nil)) .nil)))
  (.cons (.ex (.bm (.var 1) .append (.cons (.lst .nil) .nil)))
  .nil))
 (.cons (.ite (.cmp .eq (.var 5) (.kc (.str "try")))
 (.cons (.ex (.bm (.var 2) .append (.cons (.tup (.cons (.kc (.str "try")) .nil)) .nil)))
  (.cons (.ex (.bm (.var 1) .append (.cons (.lst .nil) .nil)))
  (.cons (.asg 4 (.bin .add (.var 4) (.kc (.int 1))))
  .nil)))
 (.cons (.ite (.cmp .eq (.var 5) (.kc (.str "repeat")))
 (.cons (.ex (.bm (.var 2) .append (.cons (.tup (.cons (.kc (.str "repeat")) (.cons (.bi .int (.cons (.ix (.var 0) (.var 4)) .nil)) .nil))) .nil)))
  (.cons (.ex (.bm (.var 1) .append (.cons (.lst .nil) .nil)))
  (.cons (.asg 4 (.bin .add (.var 4) (.kc (.int 2))))
  .nil)))
 (.cons (.ite (.cmp .eq (.var 5) (.kc (.str "}")))
 (.cons (.asg 6 (.bin .add (.bm (.var 2) .pop .nil) (.tup (.cons (.bi .tuple (.cons (.bm (.var 1) .pop .nil) .nil)) .nil))))
  (.cons (.ite (.land (.cons (.cmp .eq (.ix (.var 6) (.kc (.int 0))) (.kc (.str "try"))) (.cons (.cmp .eq (.bi .len (.cons (.var 6) .nil)) (.kc (.int 2))) .nil)))
 (.cons (.ex (.bm (.var 2) .append (.cons (.var 6) .nil)))
  (.cons (.ex (.bm (.var 1) .append (.cons (.lst .nil) .nil)))
  (.cons (.asg 4 (.bin .add (.var 4) (.kc (.int 2))))
  .nil)))
 (.cons (.ex (.bm (.ix (.var 1) (.neg (.kc (.int 1)))) .append (.cons (.var 6) .nil)))
  .nil))
  .nil))
 (.cons (.ite (.cmp .eq (.var 5) (.kc (.str "start")))
 (.cons (.ex (.bm (.ix (.var 1) (.neg (.kc (.int 1)))) .append (.cons (.tup (.cons (.kc (.str "start")) (.cons (.bi .int (.cons (.ix (.var 0) (.var 4)) .nil)) (.cons (.ix (.var 0) (.bin .add (.var 4) (.kc (.int 1)))) .nil)))) .nil)))
  (.cons (.asg 4 (.bin .add (.var 4) (.kc (.int 2))))
  .nil))
 (.cons (.ite (.cmp .inS (.var 5) (.tup (.cons (.kc (.str "say")) (.cons (.kc (.str "wait")) (.cons (.kc (.str "adopt")) .nil)))))
 (.cons (.ex (.bm (.ix (.var 1) (.neg (.kc (.int 1)))) .append (.cons (.tup (.cons (.var 5) (.cons (.ix (.var 0) (.var 4)) .nil))) .nil)))
  (.cons (.asg 4 (.bin .add (.var 4) (.kc (.int 1))))
  .nil))
 (.cons (.ex (.bm (.ix (.var 1) (.neg (.kc (.int 1)))) .append (.cons (.tup (.cons (.var 5) .nil)) .nil)))
  .nil))
  .nil))
  .nil))
  .nil))
  .nil))
  .nil))
  .nil)))
def c_law_parsed : Ss := (.cons (.asg 1 (.lst (.cons (.lst .nil) .nil)))
  (.cons (.asg 2 (.lst .nil))
  (.cons (.asg 3 (.lst .nil))
  (.cons (.asg 4 (.kc (.int 0)))
  (.cons (.whl (.cmp .lt (.var 4) (.bi .len (.cons (.var 0) .nil))) c_law_parsed_b1)
  (.cons (.ret (.bi .tuple (.cons (.bin .add (.var 3) (.lst (.cons (.bi .tuple (.cons (.ix (.var 1) (.kc (.int 0))) .nil)) .nil))) .nil)))
  .nil))))))
def c_law_a_token : Ss := (.cons (.asg 1 (.tup (.cons (.kc (.str "say")) (.cons (.kc (.str "pause")) (.cons (.kc (.str "start")) (.cons (.kc (.str "wait")) (.cons (.kc (.str "adopt")) (.cons (.kc (.str "return")) (.cons (.kc (.str "fail")) (.cons (.kc (.str "try")) (.cons (.kc (.str "catch")) (.cons (.kc (.str "repeat")) (.cons (.kc (.str "{")) (.cons (.kc (.str "}")) (.cons (.kc (.str ";")) .nil)))))))))))))))
  (.cons (.ite (.cmp .gt (.call "_law_draw" (.cons (.var 0) (.cons (.kc (.int 3)) .nil))) (.kc (.int 0)))
 (.cons (.ret (.ix (.var 1) (.call "_law_draw" (.cons (.var 0) (.cons (.kc (.int 13)) .nil)))))
  .nil)
 .nil)
  (.cons (.ret (.ix (.tup (.cons (.kc (.str "a")) (.cons (.kc (.str "b")) (.cons (.kc (.str "d")) (.cons (.kc (.str "e")) (.cons (.kc (.str "0")) (.cons (.kc (.str "7")) (.cons (.kc (.str "8")) (.cons (.kc (.str "100")) (.cons (.kc (.str "101")) (.cons (.kc (.str "07")) (.cons (.kc (.str "x")) (.cons (.kc (.str "A")) (.cons (.kc (.str "nine99999")) (.cons (.kc (.str "-1")) (.cons (.kc (.str ".")) (.cons (.kc (.str "1000")) .nil))))))))))))))))) (.call "_law_draw" (.cons (.var 0) (.cons (.kc (.int 16)) .nil)))))
  .nil)))
def c_law_spoilt_e1 : E := (.call "_law_a_token" (.cons (.var 0) .nil))
def c_law_spoilt : Ss := (.cons (.asg 2 (.call "_law_draw" (.cons (.var 0) (.cons (.kc (.int 6)) .nil))))
  (.cons (.asg 3 (.call "_law_draw" (.cons (.var 0) (.cons (.bin .add (.bi .len (.cons (.var 1) .nil)) (.kc (.int 1))) .nil))))
  (.cons (.ite (.cmp .eq (.var 2) (.kc (.int 0)))
 (.cons (.ret (.sl (.var 1) .no (.var 3)))
  .nil)
 .nil)
  (.cons (.ite (.cmp .eq (.var 2) (.kc (.int 1)))
 (.cons (.ret (.bin .add (.sl (.var 1) .no (.var 3)) (.sl (.var 1) (.bin .add (.var 3) (.kc (.int 1))) .no)))
  .nil)
 .nil)
  (.cons (.ite (.cmp .eq (.var 2) (.kc (.int 2)))
 (.cons (.ret (.bin .add (.bin .add (.sl (.var 1) .no (.var 3)) (.lst (.cons (.call "_law_a_token" (.cons (.var 0) .nil)) .nil))) (.sl (.var 1) (.var 3) .no)))
  .nil)
 .nil)
  (.cons (.ite (.cmp .eq (.var 2) (.kc (.int 3)))
 (.cons (.ret (.bin .add (.bin .add (.sl (.var 1) .no (.var 3)) (.lst (.cons (.call "_law_a_token" (.cons (.var 0) .nil)) .nil))) (.sl (.var 1) (.bin .add (.var 3) (.kc (.int 1))) .no)))
  .nil)
 .nil)
  (.cons (.ite (.cmp .eq (.var 2) (.kc (.int 4)))
 (.cons (.ret (.lc c_law_spoilt_e1 [4] (.nm 4) (.rng (.cons (.call "_law_draw" (.cons (.var 0) (.cons (.kc (.int 9)) .nil))) .nil)) .no))
  .nil)
 .nil)
  (.cons (.ret (.var 1))
  .nil))))))))
def c_law_right : Ss := (.cons (.asg 2 (.call "_law_first_wrong" (.cons (.var 0) .nil)))
  (.cons (.try_ (.cons (.asg 3 (.call "program_of" (.cons (.var 1) .nil)))
  .nil) "TickError" 4
 (.cons (.ite (.cmp .gt (.var 2) (.kc (.int 0)))
 (.cons (.ret (.land (.cons (.isx (.var 4) "FaultyText") (.cons (.lnot (.isx (.var 4) "BadProgram")) (.cons (.call "_law_same" (.cons (.fld (.var 4) "token") (.cons (.var 2) .nil))) .nil)))))
  .nil)
 .nil)
  (.cons (.ret (.land (.cons (.isx (.var 4) "BadProgram") (.cons (.lnot (.isx (.var 4) "FaultyText")) (.cons (.lnot (.call "_law_is_program" (.cons (.call "_law_parsed" (.cons (.var 0) .nil)) .nil))) .nil)))))
  .nil)))
  (.cons (.ret (.land (.cons (.cmp .eq (.var 2) (.kc (.int 0))) (.cons (.call "_law_is_program" (.cons (.call "_law_parsed" (.cons (.var 0) .nil)) .nil)) (.cons (.call "_law_same" (.cons (.var 3) (.cons (.call "_law_parsed" (.cons (.var 0) .nil)) .nil))) .nil)))))
  .nil)))
def c_law_k05_b1 : Ss := (.cons (.asg 3 (.call "_law_box" (.cons (.var 0) (.cons (.bin .add (.kc (.int 5)) (.var 2)) .nil))))
  (.cons (.asg 4 (.call "_law_spoilt" (.cons (.var 3) (.cons (.var 1) .nil))))
  (.cons (.ite (.lnot (.call "_law_right" (.cons (.var 4) (.cons (.call "_law_loose" (.cons (.var 3) (.cons (.var 4) .nil))) .nil))))
 (.cons (.ret (.kc (.bl false)))
  .nil)
 .nil)
  .nil)))
def c_law_k05 : Ss := (.cons (.asg 1 (.call "_law_all_tokens" (.cons (.call "_law_program" (.cons (.var 0) (.cons (.kc (.int 0)) (.cons (.kc (.int 3)) (.cons (.kc (.int 5)) (.cons (.kc (.int 200)) .nil)))))) .nil)))
  (.cons (.for_ (.nm 2) (.rng (.cons (.kc (.int 4)) .nil)) c_law_k05_b1)
  (.cons (.ret (.kc (.bl true)))
  .nil)))
def c_wall_b1 : Ss := (.cons .pass
  .nil)
def c_wall : Ss := (.cons (.whl (.kc (.bl true)) c_wall_b1)
  .nil)
def c_Task__init : Ss := (.cons (.asf (.var 0) "places" (.lst (.cons (.lst (.cons (.var 1) (.cons (.kc (.int 0)) (.cons (.kc (.str "body")) (.cons (.kc (.int 0)) .nil))))) .nil)))
  (.cons (.asf (.var 0) "holds" (.dct [] .nil))
  (.cons (.asf (.var 0) "outcome" (.kc (.str "running")))
  (.cons (.asf (.var 0) "settled" (.neg (.kc (.int 1))))
  (.cons (.asf (.var 0) "followers" (.tup .nil))
  .nil)))))
def c_Task_copy : Ss := (.cons (.ex (.call "_wall" (.cons (.kc (.int 0)) .nil)))
  .nil)
def c_Task_copy_v2_e1 : E := (.bi .list (.cons (.var 2) .nil))
def c_Task_copy_v2 : Ss := (.cons (.asg 1 (.make "Task" (.cons (.tup .nil) .nil)))
  (.cons (.asf (.var 1) "places" (.lc c_Task_copy_v2_e1 [2] (.nm 2) (.lst (.fld (.var 0) "places")) .no))
  (.cons (.asf (.var 1) "holds" (.bi .dict (.cons (.fld (.var 0) "holds") .nil)))
  (.cons (.asf (.var 1) "outcome" (.fld (.var 0) "outcome"))
  (.cons (.asf (.var 1) "settled" (.fld (.var 0) "settled"))
  (.cons (.asf (.var 1) "followers" (.fld (.var 0) "followers"))
  (.cons (.ret (.var 1))
  .nil)))))))
def c_Machine__init : Ss := (.cons (.asf (.var 0) "program" (.var 1))
  (.cons (.asf (.var 0) "tasks" (.lst .nil))
  (.cons (.asf (.var 0) "queue" (.lst .nil))
  (.cons (.asf (.var 0) "said" (.lst .nil))
  (.cons (.asf (.var 0) "now" (.kc (.int 0)))
  .nil)))))
def c_Machine_copy : Ss := (.cons (.ex (.call "_wall" (.cons (.kc (.int 1)) .nil)))
  .nil)
def c_Machine_copy_v2_e1 : E := (.meth (.var 2) "copy" .nil)
def c_Machine_copy_v2 : Ss := (.cons (.asg 1 (.make "Machine" (.cons (.fld (.var 0) "program") .nil)))
  (.cons (.asf (.var 1) "tasks" (.lc c_Machine_copy_v2_e1 [2] (.nm 2) (.lst (.fld (.var 0) "tasks")) .no))
  (.cons (.asf (.var 1) "queue" (.bi .list (.cons (.fld (.var 0) "queue") .nil)))
  (.cons (.asf (.var 1) "said" (.bi .list (.cons (.fld (.var 0) "said") .nil)))
  (.cons (.asf (.var 1) "now" (.fld (.var 0) "now"))
  (.cons (.ret (.var 1))
  .nil))))))
def c_Machine_tick : Ss := (.cons (.ret (.fld (.var 0) "now"))
  .nil)
def c_Machine_jobs : Ss := (.cons (.ret (.bi .len (.cons (.fld (.var 0) "queue") .nil)))
  .nil)
def c_Machine_entries : Ss := (.cons (.ret (.bi .tuple (.cons (.fld (.var 0) "said") .nil)))
  .nil)
def c_Machine_outcomes_e1 : E := (.fld (.var 1) "outcome")
def c_Machine_outcomes : Ss := (.cons (.ret (.bi .tuple (.cons (.lc c_Machine_outcomes_e1 [1] (.nm 1) (.lst (.fld (.var 0) "tasks")) .no) .nil)))
  .nil)
def c_Machine_outcomes_v2 : Ss := (.cons (.ex (.call "_wall" (.cons (.kc (.int 2)) .nil)))
  .nil)
def c_Machine_outcomes_v3 : Ss := (.cons (.ex (.call "_wall" (.cons (.kc (.int 0)) .nil)))
  .nil)
def c_Machine_start : Ss := (.cons (.asg 2 (.bi .len (.cons (.fld (.var 0) "tasks") .nil)))
  (.cons (.ex (.bm (.fld (.var 0) "tasks") .append (.cons (.make "Task" (.cons (.ix (.fld (.var 0) "program") (.var 1)) .nil)) .nil)))
  (.cons (.ex (.meth (.var 0) "go_on" (.cons (.var 2) .nil)))
  (.cons (.ret (.var 2))
  .nil))))
def c_Machine_step : Ss := (.cons (.ite (.cmp .eq (.bi .len (.cons (.fld (.var 0) "queue") .nil)) (.kc (.int 0)))
 (.cons (.ret (.kc (.bl false)))
  .nil)
 .nil)
  (.cons (.ast [1, 2, 3, 4] (.ix (.fld (.var 0) "queue") (.kc (.int 0))))
  (.cons (.asf (.var 0) "queue" (.sl (.fld (.var 0) "queue") (.kc (.int 1)) .no))
  (.cons (.asf (.var 0) "now" (.var 1))
  (.cons (.ite (.cmp .eq (.var 2) (.kc (.str "adopt")))
 (.cons (.ex (.meth (.var 0) "follow" (.cons (.var 3) (.cons (.var 4) (.cons (.kc (.str "settle")) .nil)))))
  .nil)
 (.cons (.ite (.cmp .eq (.var 2) (.kc (.str "settle")))
 (.cons (.ex (.meth (.var 0) "settle" (.cons (.var 3) (.cons (.var 4) .nil))))
  .nil)
 (.cons (.ite (.cmp .eq (.var 4) (.kc (.str "failed")))
 (.cons (.ex (.meth (.var 0) "fail" (.cons (.var 3) .nil)))
  .nil)
 .nil)
  (.cons (.ex (.meth (.var 0) "go_on" (.cons (.var 3) .nil)))
  .nil)))
  .nil))
  (.cons (.ret (.kc (.bl true)))
  .nil))))))
def c_Machine_later : Ss := (.cons (.ex (.bm (.fld (.var 0) "queue") .append (.cons (.tup (.cons (.bin .add (.fld (.var 0) "now") (.kc (.int 1))) (.cons (.var 1) (.cons (.var 2) (.cons (.var 3) .nil))))) .nil)))
  .nil)
def c_Machine_follow : Ss := (.cons (.asg 4 (.ix (.fld (.var 0) "tasks") (.var 2)))
  (.cons (.ite (.cmp .eq (.fld (.var 4) "outcome") (.kc (.str "running")))
 (.cons (.asf (.var 4) "followers" (.bin .add (.fld (.var 4) "followers") (.tup (.cons (.tup (.cons (.var 3) (.cons (.var 1) .nil))) .nil))))
  .nil)
 (.cons (.ex (.meth (.var 0) "later" (.cons (.var 3) (.cons (.var 1) (.cons (.fld (.var 4) "outcome") .nil)))))
  .nil))
  .nil))
def c_Machine_settle_b1 : Ss := (.cons (.ex (.meth (.var 0) "later" (.cons (.var 4) (.cons (.var 5) (.cons (.var 2) .nil)))))
  .nil)
def c_Machine_settle : Ss := (.cons (.asg 3 (.ix (.fld (.var 0) "tasks") (.var 1)))
  (.cons (.asf (.var 3) "outcome" (.var 2))
  (.cons (.asf (.var 3) "settled" (.fld (.var 0) "now"))
  (.cons (.asf (.var 3) "places" (.lst .nil))
  (.cons (.for_ (.tp [4, 5]) (.tup (.fld (.var 3) "followers")) c_Machine_settle_b1)
  .nil)))))
def c_Machine_fail_b1 : Ss := (.cons (.astl [3, 4, 5, 6] (.bm (.var 2) .pop .nil))
  (.cons (.ite (.cmp .eq (.var 5) (.kc (.str "try")))
 (.cons (.ex (.bm (.var 2) .append (.cons (.lst (.cons (.var 6) (.cons (.kc (.int 0)) (.cons (.kc (.str "handler")) (.cons (.kc (.int 0)) .nil))))) .nil)))
  (.cons .retn
  .nil))
 .nil)
  .nil))
def c_Machine_fail : Ss := (.cons (.asg 2 (.fld (.ix (.fld (.var 0) "tasks") (.var 1)) "places"))
  (.cons (.whl (.cmp .gt (.bi .len (.cons (.var 2) .nil)) (.kc (.int 0))) c_Machine_fail_b1)
  (.cons (.ex (.meth (.var 0) "settle" (.cons (.var 1) (.cons (.kc (.str "failed")) .nil))))
  .nil)))
def c_Machine_go_on_b1 : Ss := (.cons (.asg 3 (.ix (.fld (.var 2) "places") (.neg (.kc (.int 1)))))
  (.cons (.ite (.cmp .lt (.ix (.var 3) (.kc (.int 1))) (.bi .len (.cons (.ix (.var 3) (.kc (.int 0))) .nil)))
 (.cons (.asi (.var 3) (.kc (.int 1)) (.bin .add (.ix (.var 3) (.kc (.int 1))) (.kc (.int 1))))
  (.cons (.ite (.lnot (.meth (.var 0) "do" (.cons (.var 1) (.cons (.ix (.ix (.var 3) (.kc (.int 0))) (.bin .sub (.ix (.var 3) (.kc (.int 1))) (.kc (.int 1)))) .nil))))
 (.cons .retn
  .nil)
 .nil)
  .nil))
 (.cons (.ite (.land (.cons (.cmp .eq (.ix (.var 3) (.kc (.int 2))) (.kc (.str "repeat"))) (.cons (.cmp .gt (.ix (.var 3) (.kc (.int 3))) (.kc (.int 1))) .nil)))
 (.cons (.asi (.var 3) (.kc (.int 1)) (.kc (.int 0)))
  (.cons (.asi (.var 3) (.kc (.int 3)) (.bin .sub (.ix (.var 3) (.kc (.int 3))) (.kc (.int 1))))
  .nil))
 (.cons (.ex (.bm (.fld (.var 2) "places") .pop .nil))
  (.cons (.ite (.cmp .eq (.bi .len (.cons (.fld (.var 2) "places") .nil)) (.kc (.int 0)))
 (.cons (.ex (.meth (.var 0) "settle" (.cons (.var 1) (.cons (.kc (.str "returned")) .nil))))
  .nil)
 .nil)
  .nil)))
  .nil))
  .nil))
def c_Machine_go_on : Ss := (.cons (.asg 2 (.ix (.fld (.var 0) "tasks") (.var 1)))
  (.cons (.whl (.cmp .eq (.fld (.var 2) "outcome") (.kc (.str "running"))) c_Machine_go_on_b1)
  .nil))
def c_Machine_do : Ss := (.cons (.asg 3 (.ix (.fld (.var 0) "tasks") (.var 1)))
  (.cons (.asg 4 (.ix (.var 2) (.kc (.int 0))))
  (.cons (.ite (.cmp .eq (.var 4) (.kc (.str "say")))
 (.cons (.ex (.bm (.fld (.var 0) "said") .append (.cons (.tup (.cons (.fld (.var 0) "now") (.cons (.var 1) (.cons (.ix (.var 2) (.kc (.int 1))) .nil)))) .nil)))
  .nil)
 (.cons (.ite (.cmp .eq (.var 4) (.kc (.str "start")))
 (.cons (.asd (.fld (.var 3) "holds") (.ix (.var 2) (.kc (.int 2))) (.meth (.var 0) "start" (.cons (.ix (.var 2) (.kc (.int 1))) .nil)))
  .nil)
 (.cons (.ite (.cmp .eq (.var 4) (.kc (.str "return")))
 (.cons (.ex (.meth (.var 0) "settle" (.cons (.var 1) (.cons (.kc (.str "returned")) .nil))))
  .nil)
 (.cons (.ite (.cmp .eq (.var 4) (.kc (.str "fail")))
 (.cons (.ex (.meth (.var 0) "fail" (.cons (.var 1) .nil)))
  .nil)
 (.cons (.ite (.cmp .eq (.var 4) (.kc (.str "try")))
 (.cons (.ex (.bm (.fld (.var 3) "places") .append (.cons (.lst (.cons (.ix (.var 2) (.kc (.int 1))) (.cons (.kc (.int 0)) (.cons (.kc (.str "try")) (.cons (.ix (.var 2) (.kc (.int 2))) .nil))))) .nil)))
  .nil)
 (.cons (.ite (.cmp .eq (.var 4) (.kc (.str "repeat")))
 (.cons (.ite (.cmp .gt (.ix (.var 2) (.kc (.int 1))) (.kc (.int 0)))
 (.cons (.ex (.bm (.fld (.var 3) "places") .append (.cons (.lst (.cons (.ix (.var 2) (.kc (.int 2))) (.cons (.kc (.int 0)) (.cons (.kc (.str "repeat")) (.cons (.ix (.var 2) (.kc (.int 1))) .nil))))) .nil)))
  .nil)
 .nil)
  .nil)
 (.cons (.ret (.meth (.var 0) "hand_over" (.cons (.var 1) (.cons (.var 2) .nil))))
  .nil))
  .nil))
  .nil))
  .nil))
  .nil))
  .nil))
  (.cons (.ret (.kc (.bl true)))
  .nil))))
def c_Machine_hand_over : Ss := (.cons (.asg 3 (.ix (.fld (.var 0) "tasks") (.var 1)))
  (.cons (.ite (.lor (.cons (.cmp .eq (.ix (.var 2) (.kc (.int 0))) (.kc (.str "pause"))) (.cons (.land (.cons (.cmp .eq (.ix (.var 2) (.kc (.int 0))) (.kc (.str "wait"))) (.cons (.cmp .niD (.ix (.var 2) (.kc (.int 1))) (.fld (.var 3) "holds")) .nil))) .nil)))
 (.cons (.ex (.meth (.var 0) "later" (.cons (.kc (.str "go")) (.cons (.var 1) (.cons (.kc (.str "returned")) .nil)))))
  .nil)
 (.cons (.ite (.cmp .eq (.ix (.var 2) (.kc (.int 0))) (.kc (.str "wait")))
 (.cons (.ex (.meth (.var 0) "follow" (.cons (.var 1) (.cons (.dx (.fld (.var 3) "holds") (.ix (.var 2) (.kc (.int 1)))) (.cons (.kc (.str "go")) .nil)))))
  .nil)
 (.cons (.ite (.cmp .niD (.ix (.var 2) (.kc (.int 1))) (.fld (.var 3) "holds"))
 (.cons (.ex (.meth (.var 0) "settle" (.cons (.var 1) (.cons (.kc (.str "returned")) .nil))))
  .nil)
 (.cons (.ex (.meth (.var 0) "later" (.cons (.kc (.str "adopt")) (.cons (.var 1) (.cons (.dx (.fld (.var 3) "holds") (.ix (.var 2) (.kc (.int 1)))) .nil)))))
  .nil))
  .nil))
  .nil))
  (.cons (.ret (.kc (.bl false)))
  .nil)))
def c_run_machine_b1 : Ss := (.cons .pass
  .nil)
def c_run_machine : Ss := (.cons (.asg 1 (.make "Machine" (.cons (.var 0) .nil)))
  (.cons (.ex (.meth (.var 1) "start" (.cons (.kc (.int 0)) .nil)))
  (.cons (.whl (.meth (.var 1) "step" .nil) c_run_machine_b1)
  (.cons (.ret (.var 1))
  .nil))))
def c_run_program : Ss := (.cons (.asg 1 (.call "run_machine" (.cons (.var 0) .nil)))
  (.cons (.ret (.tup (.cons (.meth (.var 1) "entries" .nil) (.cons (.meth (.var 1) "outcomes" .nil) (.cons (.meth (.var 1) "tick" .nil) .nil)))))
  .nil))
def c_law_begin : Ss := (.cons (.ret (.dct ["program", "tasks", "queue", "said", "tick"] (.cons (.var 0) (.cons (.lst .nil) (.cons (.lst .nil) (.cons (.lst .nil) (.cons (.kc (.int 0)) .nil)))))))
  .nil)
def c_law_start_task : Ss := (.cons (.asg 2 (.bi .len (.cons (.dx (.var 0) (.kc (.str "tasks"))) .nil)))
  (.cons (.ex (.bm (.dx (.var 0) (.kc (.str "tasks"))) .append (.cons (.lst (.cons (.bi .list (.cons (.ix (.dx (.var 0) (.kc (.str "program"))) (.var 1)) .nil)) (.cons (.dct [] .nil) (.cons (.kc (.str "running")) (.cons (.neg (.kc (.int 1))) (.cons (.lst .nil) .nil)))))) .nil)))
  (.cons (.ex (.call "_law_go" (.cons (.var 0) (.cons (.var 2) .nil))))
  (.cons (.ret (.var 2))
  .nil))))
def c_law_later : Ss := (.cons (.ex (.bm (.dx (.var 0) (.kc (.str "queue"))) .append (.cons (.bin .add (.tup (.cons (.bin .add (.dx (.var 0) (.kc (.str "tick"))) (.kc (.int 1))) .nil)) (.var 1)) .nil)))
  .nil)
def c_law_settle_b1 : Ss := (.cons (.ex (.call "_law_later" (.cons (.var 0) (.cons (.bin .add (.var 4) (.tup (.cons (.var 2) .nil))) .nil))))
  .nil)
def c_law_settle : Ss := (.cons (.asg 3 (.ix (.dx (.var 0) (.kc (.str "tasks"))) (.var 1)))
  (.cons (.asi (.var 3) (.kc (.int 0)) (.lst .nil))
  (.cons (.asi (.var 3) (.kc (.int 2)) (.var 2))
  (.cons (.asi (.var 3) (.kc (.int 3)) (.dx (.var 0) (.kc (.str "tick"))))
  (.cons (.for_ (.nm 4) (.lst (.ix (.var 3) (.kc (.int 4)))) c_law_settle_b1)
  .nil)))))
def c_law_fall_b1 : Ss := (.cons (.ite (.cmp .eq (.ix (.ix (.ix (.var 2) (.kc (.int 0))) (.var 3)) (.kc (.int 0))) (.kc (.str "mark")))
 (.cons (.asi (.var 2) (.kc (.int 0)) (.bin .add (.bi .list (.cons (.ix (.ix (.ix (.var 2) (.kc (.int 0))) (.var 3)) (.kc (.int 1))) .nil)) (.sl (.ix (.var 2) (.kc (.int 0))) (.bin .add (.var 3) (.kc (.int 1))) .no)))
  (.cons .retn
  .nil))
 .nil)
  .nil)
def c_law_fall : Ss := (.cons (.asg 2 (.ix (.dx (.var 0) (.kc (.str "tasks"))) (.var 1)))
  (.cons (.for_ (.nm 3) (.rng (.cons (.bi .len (.cons (.ix (.var 2) (.kc (.int 0))) .nil)) .nil)) c_law_fall_b1)
  (.cons (.ex (.call "_law_settle" (.cons (.var 0) (.cons (.var 1) (.cons (.kc (.str "failed")) .nil)))))
  .nil)))
def c_law_follow : Ss := (.cons (.asg 4 (.ix (.dx (.var 0) (.kc (.str "tasks"))) (.var 2)))
  (.cons (.ite (.cmp .eq (.ix (.var 4) (.kc (.int 2))) (.kc (.str "running")))
 (.cons (.ex (.bm (.ix (.var 4) (.kc (.int 4))) .append (.cons (.tup (.cons (.var 3) (.cons (.var 1) .nil))) .nil)))
  .nil)
 (.cons (.ex (.call "_law_later" (.cons (.var 0) (.cons (.tup (.cons (.var 3) (.cons (.var 1) (.cons (.ix (.var 4) (.kc (.int 2))) .nil)))) .nil))))
  .nil))
  .nil))
def c_law_go_b1 : Ss := (.cons (.ite (.cmp .eq (.bi .len (.cons (.ix (.var 2) (.kc (.int 0))) .nil)) (.kc (.int 0)))
 (.cons (.ex (.call "_law_settle" (.cons (.var 0) (.cons (.var 1) (.cons (.kc (.str "returned")) .nil)))))
  (.cons .retn
  .nil))
 .nil)
  (.cons (.asg 3 (.ix (.ix (.var 2) (.kc (.int 0))) (.kc (.int 0))))
  (.cons (.asi (.var 2) (.kc (.int 0)) (.sl (.ix (.var 2) (.kc (.int 0))) (.kc (.int 1)) .no))
  (.cons (.ite (.cmp .eq (.ix (.var 3) (.kc (.int 0))) (.kc (.str "say")))
 (.cons (.ex (.bm (.dx (.var 0) (.kc (.str "said"))) .append (.cons (.tup (.cons (.dx (.var 0) (.kc (.str "tick"))) (.cons (.var 1) (.cons (.ix (.var 3) (.kc (.int 1))) .nil)))) .nil)))
  .nil)
 (.cons (.ite (.cmp .eq (.ix (.var 3) (.kc (.int 0))) (.kc (.str "start")))
 (.cons (.asd (.ix (.var 2) (.kc (.int 1))) (.ix (.var 3) (.kc (.int 2))) (.call "_law_start_task" (.cons (.var 0) (.cons (.ix (.var 3) (.kc (.int 1))) .nil))))
  .nil)
 (.cons (.ite (.cmp .eq (.ix (.var 3) (.kc (.int 0))) (.kc (.str "return")))
 (.cons (.ex (.call "_law_settle" (.cons (.var 0) (.cons (.var 1) (.cons (.kc (.str "returned")) .nil)))))
  .nil)
 (.cons (.ite (.cmp .eq (.ix (.var 3) (.kc (.int 0))) (.kc (.str "fail")))
 (.cons (.ex (.call "_law_fall" (.cons (.var 0) (.cons (.var 1) .nil))))
  .nil)
 (.cons (.ite (.cmp .eq (.ix (.var 3) (.kc (.int 0))) (.kc (.str "try")))
 (.cons (.asi (.var 2) (.kc (.int 0)) (.bin .add (.bin .add (.bi .list (.cons (.ix (.var 3) (.kc (.int 1))) .nil)) (.lst (.cons (.tup (.cons (.kc (.str "mark")) (.cons (.ix (.var 3) (.kc (.int 2))) .nil))) .nil))) (.ix (.var 2) (.kc (.int 0)))))
  .nil)
 (.cons (.ite (.cmp .eq (.ix (.var 3) (.kc (.int 0))) (.kc (.str "repeat")))
 (.cons (.asi (.var 2) (.kc (.int 0)) (.bin .add (.bin .mul (.bi .list (.cons (.ix (.var 3) (.kc (.int 2))) .nil)) (.ix (.var 3) (.kc (.int 1)))) (.ix (.var 2) (.kc (.int 0)))))
  .nil)
 (.cons (.ite (.land (.cons (.cmp .eq (.ix (.var 3) (.kc (.int 0))) (.kc (.str "adopt"))) (.cons (.cmp .inD (.ix (.var 3) (.kc (.int 1))) (.ix (.var 2) (.kc (.int 1)))) .nil)))
 (.cons (.ex (.call "_law_later" (.cons (.var 0) (.cons (.tup (.cons (.kc (.str "adopt")) (.cons (.var 1) (.cons (.dx (.ix (.var 2) (.kc (.int 1))) (.ix (.var 3) (.kc (.int 1)))) .nil)))) .nil))))
  (.cons .retn
  .nil))
 (.cons (.ite (.cmp .eq (.ix (.var 3) (.kc (.int 0))) (.kc (.str "adopt")))
 (.cons (.ex (.call "_law_settle" (.cons (.var 0) (.cons (.var 1) (.cons (.kc (.str "returned")) .nil)))))
  .nil)
 (.cons (.ite (.land (.cons (.cmp .eq (.ix (.var 3) (.kc (.int 0))) (.kc (.str "wait"))) (.cons (.cmp .inD (.ix (.var 3) (.kc (.int 1))) (.ix (.var 2) (.kc (.int 1)))) .nil)))
 (.cons (.ex (.call "_law_follow" (.cons (.var 0) (.cons (.var 1) (.cons (.dx (.ix (.var 2) (.kc (.int 1))) (.ix (.var 3) (.kc (.int 1)))) (.cons (.kc (.str "wake")) .nil))))))
  (.cons .retn
  .nil))
 (.cons (.ite (.cmp .ne (.ix (.var 3) (.kc (.int 0))) (.kc (.str "mark")))
 (.cons (.ex (.call "_law_later" (.cons (.var 0) (.cons (.tup (.cons (.kc (.str "wake")) (.cons (.var 1) (.cons (.kc (.str "returned")) .nil)))) .nil))))
  (.cons .retn
  .nil))
 .nil)
  .nil))
  .nil))
  .nil))
  .nil))
  .nil))
  .nil))
  .nil))
  .nil))
  .nil))
  .nil))))
def c_law_go : Ss := (.cons (.asg 2 (.ix (.dx (.var 0) (.kc (.str "tasks"))) (.var 1)))
  (.cons (.whl (.cmp .eq (.ix (.var 2) (.kc (.int 2))) (.kc (.str "running"))) c_law_go_b1)
  .nil))
def c_law_job : Ss := (.cons (.ite (.cmp .eq (.bi .len (.cons (.dx (.var 0) (.kc (.str "queue"))) .nil)) (.kc (.int 0)))
 (.cons (.ret (.kc (.bl false)))
  .nil)
 .nil)
  (.cons (.ast [1, 2, 3, 4] (.ix (.dx (.var 0) (.kc (.str "queue"))) (.kc (.int 0))))
  (.cons (.asi (.var 0) (.kc (.str "queue")) (.sl (.dx (.var 0) (.kc (.str "queue"))) (.kc (.int 1)) .no))
  (.cons (.asi (.var 0) (.kc (.str "tick")) (.var 1))
  (.cons (.ite (.cmp .eq (.var 2) (.kc (.str "adopt")))
 (.cons (.ex (.call "_law_follow" (.cons (.var 0) (.cons (.var 3) (.cons (.var 4) (.cons (.kc (.str "end")) .nil))))))
  .nil)
 (.cons (.ite (.cmp .eq (.var 2) (.kc (.str "end")))
 (.cons (.ex (.call "_law_settle" (.cons (.var 0) (.cons (.var 3) (.cons (.var 4) .nil)))))
  .nil)
 (.cons (.ite (.cmp .eq (.var 4) (.kc (.str "failed")))
 (.cons (.ex (.call "_law_fall" (.cons (.var 0) (.cons (.var 3) .nil))))
  .nil)
 .nil)
  (.cons (.ex (.call "_law_go" (.cons (.var 0) (.cons (.var 3) .nil))))
  .nil)))
  .nil))
  (.cons (.ret (.kc (.bl true)))
  .nil))))))
def c_law_ran_b1 : Ss := (.cons (.asg 2 (.call "_law_job" (.cons (.var 1) .nil)))
  .nil)
def c_law_ran : Ss := (.cons (.asg 1 (.call "_law_begin" (.cons (.var 0) .nil)))
  (.cons (.ex (.call "_law_start_task" (.cons (.var 1) (.cons (.kc (.int 0)) .nil))))
  (.cons (.asg 2 (.kc (.bl true)))
  (.cons (.whl (.var 2) c_law_ran_b1)
  (.cons (.ret (.var 1))
  .nil)))))
def c_law_k10_e1 : E := (.ix (.var 4) (.kc (.int 2)))
def c_law_k10 : Ss := (.cons (.asg 1 (.call "_law_program" (.cons (.var 0) (.cons (.kc (.int 0)) (.cons (.kc (.int 4)) (.cons (.kc (.int 5)) (.cons (.kc (.int 300)) .nil)))))))
  (.cons (.asg 2 (.call "_law_ran" (.cons (.var 1) .nil)))
  (.cons (.asg 3 (.bi .tuple (.cons (.lc c_law_k10_e1 [4] (.nm 4) (.lst (.dx (.var 2) (.kc (.str "tasks")))) .no) .nil)))
  (.cons (.ret (.call "_law_same" (.cons (.call "run_program" (.cons (.var 1) .nil)) (.cons (.tup (.cons (.bi .tuple (.cons (.dx (.var 2) (.kc (.str "said"))) .nil)) (.cons (.var 3) (.cons (.dx (.var 2) (.kc (.str "tick"))) .nil)))) .nil))))
  .nil))))
def c_Loop__init : Ss := (.cons (.ex (.call "check_program" (.cons (.var 1) .nil)))
  (.cons (.asf (.var 0) "machine" (.make "Machine" (.cons (.var 1) .nil)))
  (.cons (.asf (.var 0) "starts" (.kc (.int 0)))
  (.cons (.asf (.var 0) "past" (.tup .nil))
  .nil))))
def c_Loop_tick : Ss := (.cons (.ret (.meth (.fld (.var 0) "machine") "tick" .nil))
  .nil)
def c_Loop_jobs : Ss := (.cons (.ret (.meth (.fld (.var 0) "machine") "jobs" .nil))
  .nil)
def c_Loop_tasks : Ss := (.cons (.ret (.bi .len (.cons (.meth (.fld (.var 0) "machine") "outcomes" .nil) .nil)))
  .nil)
def c_Loop_entries : Ss := (.cons (.ret (.meth (.fld (.var 0) "machine") "entries" .nil))
  .nil)
def c_Loop_outcome : Ss := (.cons (.ite (.lor (.cons (.cmp .lt (.var 1) (.kc (.int 0))) (.cons (.cmp .ge (.var 1) (.meth (.var 0) "tasks" .nil)) .nil)))
 (.cons (.raise "NoSuchTask" .nil)
  .nil)
 .nil)
  (.cons (.ret (.ix (.meth (.fld (.var 0) "machine") "outcomes" .nil) (.var 1)))
  .nil))
def c_Loop_remember : Ss := (.cons (.asf (.var 0) "past" (.bin .add (.fld (.var 0) "past") (.tup (.cons (.tup (.cons (.fld (.var 0) "machine") (.cons (.fld (.var 0) "starts") .nil))) .nil))))
  (.cons (.asf (.var 0) "machine" (.meth (.fld (.var 0) "machine") "copy" .nil))
  .nil))
def c_Loop_start : Ss := (.cons (.ite (.lor (.cons (.cmp .lt (.var 1) (.kc (.int 0))) (.cons (.cmp .ge (.var 1) (.bi .len (.cons (.fld (.fld (.var 0) "machine") "program") .nil))) .nil)))
 (.cons (.raise "NoSuchPlace" .nil)
  .nil)
 .nil)
  (.cons (.ite (.cmp .eq (.fld (.var 0) "starts") (.gl "MOST_STARTS"))
 (.cons (.raise "TooManyStarts" .nil)
  .nil)
 .nil)
  (.cons (.ex (.meth (.var 0) "remember" .nil))
  (.cons (.asf (.var 0) "starts" (.bin .add (.fld (.var 0) "starts") (.kc (.int 1))))
  (.cons (.ret (.meth (.fld (.var 0) "machine") "start" (.cons (.var 1) .nil)))
  .nil)))))
def c_Loop_step : Ss := (.cons (.ret (.cmp .eq (.meth (.var 0) "do_jobs" (.cons (.kc (.int 1)) .nil)) (.kc (.int 1))))
  .nil)
def c_Loop_step_tick : Ss := (.cons (.ex (.call "_wall" (.cons (.kc (.int 0)) .nil)))
  .nil)
def c_Loop_step_tick_v2 : Ss := (.cons (.ret (.meth (.var 0) "do_jobs" (.cons (.meth (.var 0) "due" .nil) .nil)))
  .nil)
def c_Loop_due : Ss := (.cons (.ex (.call "_wall" (.cons (.kc (.int 1)) .nil)))
  .nil)
def c_Loop_due_v2_e1 : E := (.var 1)
def c_Loop_due_v2 : Ss := (.cons (.ret (.bi .len (.cons (.lc c_Loop_due_v2_e1 [1] (.nm 1) (.lst (.fld (.fld (.var 0) "machine") "queue")) (.cmp .eq (.ix (.var 1) (.kc (.int 0))) (.ix (.ix (.fld (.fld (.var 0) "machine") "queue") (.kc (.int 0))) (.kc (.int 0))))) .nil)))
  .nil)
def c_Loop_finish_b1 : Ss := (.cons (.asg 1 (.bin .add (.var 1) (.kc (.int 1))))
  .nil)
def c_Loop_finish : Ss := (.cons (.ite (.cmp .eq (.meth (.var 0) "jobs" .nil) (.kc (.int 0)))
 (.cons (.ret (.kc (.int 0)))
  .nil)
 .nil)
  (.cons (.ex (.meth (.var 0) "remember" .nil))
  (.cons (.asg 1 (.kc (.int 0)))
  (.cons (.whl (.meth (.fld (.var 0) "machine") "step" .nil) c_Loop_finish_b1)
  (.cons (.ret (.var 1))
  .nil)))))
def c_Loop_do_jobs_b1 : Ss := (.cons (.ex (.meth (.fld (.var 0) "machine") "step" .nil))
  .nil)
def c_Loop_do_jobs : Ss := (.cons (.ite (.cmp .eq (.meth (.var 0) "jobs" .nil) (.kc (.int 0)))
 (.cons (.ret (.kc (.int 0)))
  .nil)
 .nil)
  (.cons (.ex (.meth (.var 0) "remember" .nil))
  (.cons (.for_ (.nm 2) (.rng (.cons (.var 1) .nil)) c_Loop_do_jobs_b1)
  (.cons (.ret (.var 1))
  .nil))))
def c_Loop_undo : Ss := (.cons (.ex (.call "_wall" (.cons (.kc (.int 2)) .nil)))
  .nil)
def c_Loop_fork : Ss := (.cons (.ex (.call "_wall" (.cons (.kc (.int 3)) .nil)))
  .nil)
def c_Loop_fork_v2 : Ss := (.cons (.ex (.call "_wall" (.cons (.kc (.int 0)) .nil)))
  .nil)
def c_Loop_fork_v3 : Ss := (.cons (.asg 1 (.make "Loop" (.cons (.fld (.fld (.var 0) "machine") "program") .nil)))
  (.cons (.asf (.var 1) "machine" (.meth (.fld (.var 0) "machine") "copy" .nil))
  (.cons (.asf (.var 1) "starts" (.fld (.var 0) "starts"))
  (.cons (.asf (.var 1) "past" (.fld (.var 0) "past"))
  (.cons (.ret (.var 1))
  .nil)))))
def c_law_ticks_b1 : Ss := (.cons (.ex (.bm (.var 1) .append (.cons (.lst .nil) .nil)))
  .nil)
def c_law_ticks_b2 : Ss := (.cons (.whl (.cmp .le (.bi .len (.cons (.var 1) .nil)) (.var 2)) c_law_ticks_b1)
  (.cons (.ex (.bm (.ix (.var 1) (.var 2)) .append (.cons (.var 4) .nil)))
  .nil))
def c_law_ticks : Ss := (.cons (.asg 1 (.lst .nil))
  (.cons (.for_ (.tp [2, 3, 4]) (.tup (.var 0)) c_law_ticks_b2)
  (.cons (.ret (.var 1))
  .nil)))
def c_law_ended_b1 : Ss := (.cons (.ex (.meth (.var 2) "start" (.cons (.var 3) .nil)))
  .nil)
def c_law_ended : Ss := (.cons (.asg 2 (.make "Loop" (.cons (.var 0) .nil)))
  (.cons (.for_ (.nm 3) (.tup (.var 1)) c_law_ended_b1)
  (.cons (.ex (.meth (.var 2) "finish" .nil))
  (.cons (.ret (.var 2))
  .nil))))
def c_law_alone_b1 : Ss := (.cons (.asg 3 (.call "_law_job" (.cons (.var 2) .nil)))
  .nil)
def c_law_alone : Ss := (.cons (.asg 2 (.call "_law_begin" (.cons (.var 0) .nil)))
  (.cons (.ex (.call "_law_start_task" (.cons (.var 2) (.cons (.var 1) .nil))))
  (.cons (.asg 3 (.kc (.bl true)))
  (.cons (.whl (.var 3) c_law_alone_b1)
  (.cons (.ret (.call "_law_ticks" (.cons (.dx (.var 2) (.kc (.str "said"))) .nil)))
  .nil)))))
def c_law_k12_e1 : E := (.tup (.cons (.ix (.var 14) (.kc (.int 0))) (.cons (.ix (.var 14) (.kc (.int 2))) .nil)))
def c_law_k12_e2 : E := (.tup (.cons (.var 12) (.cons (.var 13) .nil)))
def c_law_k12_e3 : E := (.tup (.cons (.var 12) (.cons (.var 13) .nil)))
def c_law_k12_b4 : Ss := (.cons (.asg 11 (.bin .add (.var 11) (.lc c_law_k12_e3 [13] (.nm 13) (.tup (.ife (.cmp .lt (.var 12) (.bi .len (.cons (.var 9) .nil))) (.ix (.var 9) (.var 12)) (.lst .nil))) .no)))
  (.cons (.asg 11 (.bin .add (.var 11) (.lc c_law_k12_e2 [13] (.nm 13) (.tup (.ife (.cmp .lt (.var 12) (.bi .len (.cons (.var 10) .nil))) (.ix (.var 10) (.var 12)) (.lst .nil))) .no)))
  .nil))
def c_law_k12_e5 : E := (.cmp .eq (.meth (.var 5) "outcome" (.cons (.var 8) .nil)) (.kc (.str "running")))
def c_law_k12_e6 : E := (.cmp .gt (.ix (.ix (.var 6) (.var 7)) (.kc (.int 0))) (.ix (.ix (.var 6) (.bin .add (.var 7) (.kc (.int 1)))) (.kc (.int 0))))
def c_law_k12 : Ss := (.cons (.asg 1 (.call "_law_program" (.cons (.var 0) (.cons (.kc (.int 0)) (.cons (.kc (.int 4)) (.cons (.kc (.int 5)) (.cons (.kc (.int 300)) .nil)))))))
  (.cons (.asg 2 (.call "_law_box" (.cons (.var 0) (.cons (.kc (.int 6)) .nil))))
  (.cons (.asg 3 (.call "_law_draw" (.cons (.var 2) (.cons (.bi .len (.cons (.var 1) .nil)) .nil))))
  (.cons (.asg 4 (.call "_law_draw" (.cons (.var 2) (.cons (.bi .len (.cons (.var 1) .nil)) .nil))))
  (.cons (.asg 5 (.call "_law_ended" (.cons (.var 1) (.cons (.tup (.cons (.var 3) (.cons (.var 4) .nil))) .nil))))
  (.cons (.asg 6 (.meth (.var 5) "entries" .nil))
  (.cons (.ite (.bi .any (.cons (.lc c_law_k12_e6 [7] (.nm 7) (.rng (.cons (.bin .sub (.bi .len (.cons (.var 6) .nil)) (.kc (.int 1))) .nil)) .no) .nil))
 (.cons (.ret (.kc (.bl false)))
  .nil)
 .nil)
  (.cons (.ite (.lor (.cons (.cmp .ne (.meth (.var 5) "jobs" .nil) (.kc (.int 0))) (.cons (.bi .any (.cons (.lc c_law_k12_e5 [8] (.nm 8) (.rng (.cons (.meth (.var 5) "tasks" .nil) .nil)) .no) .nil)) .nil)))
 (.cons (.ret (.kc (.bl false)))
  .nil)
 .nil)
  (.cons (.asg 9 (.call "_law_alone" (.cons (.var 1) (.cons (.var 3) .nil))))
  (.cons (.asg 10 (.call "_law_alone" (.cons (.var 1) (.cons (.var 4) .nil))))
  (.cons (.asg 11 (.lst .nil))
  (.cons (.for_ (.nm 12) (.rng (.cons (.bi .max (.cons (.bi .len (.cons (.var 9) .nil)) (.cons (.bi .len (.cons (.var 10) .nil)) .nil))) .nil)) c_law_k12_b4)
  (.cons (.ret (.call "_law_same" (.cons (.bi .tuple (.cons (.lc c_law_k12_e1 [14] (.nm 14) (.tup (.var 6)) .no) .nil)) (.cons (.bi .tuple (.cons (.var 11) .nil)) .nil))))
  .nil)))))))))))))
def c_shifted_b1 : Ss := (.cons (.ite (.cmp .eq (.ix (.var 3) (.kc (.int 0))) (.kc (.str "start")))
 (.cons (.ex (.bm (.var 2) .append (.cons (.tup (.cons (.kc (.str "start")) (.cons (.bin .add (.ix (.var 3) (.kc (.int 1))) (.var 1)) (.cons (.ix (.var 3) (.kc (.int 2))) .nil)))) .nil)))
  .nil)
 (.cons (.ite (.cmp .eq (.ix (.var 3) (.kc (.int 0))) (.kc (.str "try")))
 (.cons (.ex (.bm (.var 2) .append (.cons (.tup (.cons (.kc (.str "try")) (.cons (.call "shifted" (.cons (.ix (.var 3) (.kc (.int 1))) (.cons (.var 1) .nil))) (.cons (.call "shifted" (.cons (.ix (.var 3) (.kc (.int 2))) (.cons (.var 1) .nil))) .nil)))) .nil)))
  .nil)
 (.cons (.ite (.cmp .eq (.ix (.var 3) (.kc (.int 0))) (.kc (.str "repeat")))
 (.cons (.ex (.bm (.var 2) .append (.cons (.tup (.cons (.kc (.str "repeat")) (.cons (.ix (.var 3) (.kc (.int 1))) (.cons (.call "shifted" (.cons (.ix (.var 3) (.kc (.int 2))) (.cons (.var 1) .nil))) .nil)))) .nil)))
  .nil)
 (.cons (.ex (.bm (.var 2) .append (.cons (.var 3) .nil)))
  .nil))
  .nil))
  .nil))
  .nil)
def c_shifted : Ss := (.cons (.asg 2 (.lst .nil))
  (.cons (.for_ (.nm 3) (.tup (.var 0)) c_shifted_b1)
  (.cons (.ret (.bi .tuple (.cons (.var 2) .nil)))
  .nil)))
def c_joined_e1 : E := (.call "shifted" (.cons (.var 2) (.cons (.bi .len (.cons (.var 0) .nil)) .nil)))
def c_joined : Ss := (.cons (.ret (.bin .add (.bi .tuple (.cons (.var 0) .nil)) (.bi .tuple (.cons (.lc c_joined_e1 [2] (.nm 2) (.tup (.var 1)) .no) .nil))))
  .nil)
def c_by_ticks_e1 : E := (.bi .tuple (.cons (.var 5) .nil))
def c_by_ticks_b2 : Ss := (.cons (.ex (.bm (.var 1) .append (.cons (.lst .nil) .nil)))
  .nil)
def c_by_ticks_b3 : Ss := (.cons (.whl (.cmp .le (.bi .len (.cons (.var 1) .nil)) (.var 2)) c_by_ticks_b2)
  (.cons (.ex (.bm (.ix (.var 1) (.var 2)) .append (.cons (.var 4) .nil)))
  .nil))
def c_by_ticks : Ss := (.cons (.asg 1 (.lst .nil))
  (.cons (.for_ (.tp [2, 3, 4]) (.tup (.var 0)) c_by_ticks_b3)
  (.cons (.ret (.bi .tuple (.cons (.lc c_by_ticks_e1 [5] (.nm 5) (.lst (.var 1)) .no) .nil)))
  .nil)))
def c_places : Ss := (.cons (.asg 2 (.tup (.cons (.tup (.cons (.kc (.str "start")) (.cons (.kc (.int 1)) (.cons (.kc (.str "a")) .nil)))) (.cons (.tup (.cons (.kc (.str "try")) (.cons (.tup (.cons (.tup (.cons (.kc (.str "wait")) (.cons (.kc (.str "a")) .nil))) .nil)) (.cons (.tup .nil) .nil)))) (.cons (.tup (.cons (.kc (.str "repeat")) (.cons (.var 1) (.cons (.tup (.cons (.tup (.cons (.kc (.str "say")) (.cons (.gl "MARK") .nil))) (.cons (.gl "PAUSE") .nil))) .nil)))) .nil)))))
  (.cons (.ret (.call "by_ticks" (.cons (.meth (.call "run_machine" (.cons (.call "joined" (.cons (.tup (.cons (.var 2) .nil)) (.cons (.var 0) .nil))) .nil)) "entries" .nil) .nil)))
  .nil))
def c_places_v2 : Ss := (.cons (.asg 2 (.tup (.cons (.tup (.cons (.kc (.str "start")) (.cons (.kc (.int 1)) (.cons (.kc (.str "a")) .nil)))) (.cons (.tup (.cons (.kc (.str "try")) (.cons (.tup (.cons (.tup (.cons (.kc (.str "wait")) (.cons (.kc (.str "a")) .nil))) .nil)) (.cons (.tup .nil) .nil)))) (.cons (.tup (.cons (.kc (.str "repeat")) (.cons (.var 1) (.cons (.tup (.cons (.tup (.cons (.kc (.str "say")) (.cons (.gl "MARK") .nil))) (.cons (.gl "PAUSE_profiles") .nil))) .nil)))) .nil)))))
  (.cons (.ret (.call "by_ticks" (.cons (.meth (.call "run_machine" (.cons (.call "joined" (.cons (.tup (.cons (.var 2) .nil)) (.cons (.var 0) .nil))) .nil)) "entries" .nil) .nil)))
  .nil))
def c_profile_of_e1 : E := (.bm (.ix (.var 4) (.var 6)) .index (.cons (.gl "MARK") .nil))
def c_profile_of : Ss := (.cons (.asg 1 (.call "run_machine" (.cons (.var 0) .nil)))
  (.cons (.asg 2 (.call "by_ticks" (.cons (.meth (.var 1) "entries" .nil) .nil)))
  (.cons (.asg 3 (.fld (.ix (.fld (.var 1) "tasks") (.kc (.int 0))) "settled"))
  (.cons (.asg 4 (.call "places" (.cons (.var 0) (.cons (.bi .len (.cons (.var 2) .nil)) .nil))))
  (.cons (.asg 5 (.bi .tuple (.cons (.lc c_profile_of_e1 [6] (.nm 6) (.rng (.cons (.bin .add (.var 3) (.kc (.int 1))) (.cons (.bi .len (.cons (.var 2) .nil)) .nil))) .no) .nil)))
  (.cons (.ret (.tup (.cons (.var 2) (.cons (.var 3) (.cons (.cmp .eq (.fld (.ix (.fld (.var 1) "tasks") (.kc (.int 0))) "outcome") (.kc (.str "returned"))) (.cons (.var 5) .nil))))))
  .nil))))))
def c_law_shift_b1 : Ss := (.cons (.ite (.cmp .eq (.ix (.var 3) (.kc (.int 0))) (.kc (.str "start")))
 (.cons (.ex (.bm (.var 2) .append (.cons (.tup (.cons (.kc (.str "start")) (.cons (.bin .add (.ix (.var 3) (.kc (.int 1))) (.var 1)) (.cons (.ix (.var 3) (.kc (.int 2))) .nil)))) .nil)))
  .nil)
 (.cons (.ite (.cmp .eq (.ix (.var 3) (.kc (.int 0))) (.kc (.str "try")))
 (.cons (.ex (.bm (.var 2) .append (.cons (.tup (.cons (.kc (.str "try")) (.cons (.call "_law_shift" (.cons (.ix (.var 3) (.kc (.int 1))) (.cons (.var 1) .nil))) (.cons (.call "_law_shift" (.cons (.ix (.var 3) (.kc (.int 2))) (.cons (.var 1) .nil))) .nil)))) .nil)))
  .nil)
 (.cons (.ite (.cmp .eq (.ix (.var 3) (.kc (.int 0))) (.kc (.str "repeat")))
 (.cons (.ex (.bm (.var 2) .append (.cons (.tup (.cons (.kc (.str "repeat")) (.cons (.ix (.var 3) (.kc (.int 1))) (.cons (.call "_law_shift" (.cons (.ix (.var 3) (.kc (.int 2))) (.cons (.var 1) .nil))) .nil)))) .nil)))
  .nil)
 (.cons (.ex (.bm (.var 2) .append (.cons (.var 3) .nil)))
  .nil))
  .nil))
  .nil))
  .nil)
def c_law_shift : Ss := (.cons (.asg 2 (.lst .nil))
  (.cons (.for_ (.nm 3) (.tup (.var 0)) c_law_shift_b1)
  (.cons (.ret (.bi .tuple (.cons (.var 2) .nil)))
  .nil)))
def c_law_put_e1 : E := (.call "_law_shift" (.cons (.var 2) (.cons (.bi .len (.cons (.var 0) .nil)) .nil)))
def c_law_put : Ss := (.cons (.ret (.bin .add (.bi .tuple (.cons (.var 0) .nil)) (.bi .tuple (.cons (.lc c_law_put_e1 [2] (.nm 2) (.tup (.var 1)) .no) .nil))))
  .nil)
def c_law_profile_e1 : E := (.bi .tuple (.cons (.var 8) .nil))
def c_law_profile_e2 : E := (.bm (.ix (.var 5) (.var 7)) .index (.cons (.kc (.str "!")) .nil))
def c_law_profile : Ss := (.cons (.asg 1 (.call "_law_ran" (.cons (.var 0) .nil)))
  (.cons (.asg 2 (.call "_law_ticks" (.cons (.dx (.var 1) (.kc (.str "said"))) .nil)))
  (.cons (.asg 3 (.ix (.ix (.dx (.var 1) (.kc (.str "tasks"))) (.kc (.int 0))) (.kc (.int 3))))
  (.cons (.asg 4 (.tup (.cons (.tup (.cons (.kc (.str "start")) (.cons (.kc (.int 1)) (.cons (.kc (.str "a")) .nil)))) (.cons (.tup (.cons (.kc (.str "try")) (.cons (.tup (.cons (.tup (.cons (.kc (.str "wait")) (.cons (.kc (.str "a")) .nil))) .nil)) (.cons (.tup .nil) .nil)))) (.cons (.tup (.cons (.kc (.str "repeat")) (.cons (.bi .len (.cons (.var 2) .nil)) (.cons (.tup (.cons (.tup (.cons (.kc (.str "say")) (.cons (.kc (.str "!")) .nil))) (.cons (.tup (.cons (.kc (.str "pause")) .nil)) .nil))) .nil)))) .nil)))))
  (.cons (.asg 5 (.call "_law_ticks" (.cons (.dx (.call "_law_ran" (.cons (.call "_law_put" (.cons (.tup (.cons (.var 4) .nil)) (.cons (.var 0) .nil))) .nil)) (.kc (.str "said"))) .nil)))
  (.cons (.asg 6 (.bi .tuple (.cons (.lc c_law_profile_e2 [7] (.nm 7) (.rng (.cons (.bin .add (.var 3) (.kc (.int 1))) (.cons (.bi .len (.cons (.var 2) .nil)) .nil))) .no) .nil)))
  (.cons (.ret (.tup (.cons (.bi .tuple (.cons (.lc c_law_profile_e1 [8] (.nm 8) (.lst (.var 2)) .no) .nil)) (.cons (.var 3) (.cons (.cmp .eq (.ix (.ix (.dx (.var 1) (.kc (.str "tasks"))) (.kc (.int 0))) (.kc (.int 2))) (.kc (.str "returned"))) (.cons (.var 6) .nil))))))
  .nil)))))))
def c_law_k20 : Ss := (.cons (.asg 1 (.call "_law_program" (.cons (.var 0) (.cons (.kc (.int 0)) (.cons (.kc (.int 4)) (.cons (.kc (.int 5)) (.cons (.kc (.int 300)) .nil)))))))
  (.cons (.ret (.call "_law_same" (.cons (.call "profile_of" (.cons (.var 1) .nil)) (.cons (.call "_law_profile" (.cons (.var 1) .nil)) .nil))))
  .nil))
def c_is_profile_b1 : Ss := (.cons (.ite (.lor (.cons (.cmp .lt (.ix (.var 4) (.var 6)) (.kc (.int 0))) (.cons (.cmp .gt (.ix (.var 4) (.var 6)) (.bi .len (.cons (.ix (.var 5) (.var 6)) .nil))) .nil)))
 (.cons (.ret (.kc (.bl false)))
  .nil)
 .nil)
  (.cons (.ite (.land (.cons (.cmp .lt (.var 2) (.kc (.int 2))) (.cons (.cmp .ne (.ix (.var 4) (.var 6)) (.bi .len (.cons (.ix (.var 5) (.var 6)) .nil))) .nil)))
 (.cons (.ret (.kc (.bl false)))
  .nil)
 .nil)
  .nil))
def c_is_profile : Ss := (.cons (.ast [1, 2, 3, 4] (.var 0))
  (.cons (.ite (.land (.cons (.cmp .gt (.bi .len (.cons (.var 1) .nil)) (.kc (.int 0))) (.cons (.cmp .eq (.bi .len (.cons (.ix (.var 1) (.neg (.kc (.int 1)))) .nil)) (.kc (.int 0))) .nil)))
 (.cons (.ret (.kc (.bl false)))
  .nil)
 .nil)
  (.cons (.asg 5 (.sl (.var 1) (.bin .add (.var 2) (.kc (.int 1))) .no))
  (.cons (.ite (.cmp .ne (.bi .len (.cons (.var 4) .nil)) (.bi .len (.cons (.var 5) .nil)))
 (.cons (.ret (.kc (.bl false)))
  .nil)
 .nil)
  (.cons (.for_ (.nm 6) (.rng (.cons (.bi .len (.cons (.var 5) .nil)) .nil)) c_is_profile_b1)
  (.cons (.ret (.kc (.bl true)))
  .nil))))))
def c_says_e1 : E := (.tup (.cons (.kc (.str "say")) (.cons (.var 1) .nil)))
def c_says : Ss := (.cons (.ret (.bi .tuple (.cons (.lc c_says_e1 [1] (.nm 1) (.tup (.var 0)) .no) .nil)))
  .nil)
def c_late_body_b1 : Ss := (.cons (.asg 2 (.bin .add (.bin .add (.var 2) (.tup (.cons (.gl "PAUSE") .nil))) (.call "says" (.cons (.var 3) .nil))))
  .nil)
def c_late_body : Ss := (.cons (.asg 2 (.tup (.cons (.tup (.cons (.kc (.str "repeat")) (.cons (.var 0) (.cons (.tup (.cons (.gl "PAUSE") .nil)) .nil)))) .nil)))
  (.cons (.for_ (.nm 3) (.lst (.var 1)) c_late_body_b1)
  (.cons (.ret (.var 2))
  .nil)))
def c_standard_program_e1 : E := (.sl (.ix (.var 7) (.var 11)) (.ix (.var 4) (.var 11)) .no)
def c_standard_program_e2 : E := (.sl (.ix (.var 7) (.var 11)) .no (.ix (.var 4) (.var 11)))
def c_standard_program_b3 : Ss := (.cons (.asg 8 (.bin .add (.bin .add (.var 8) (.tup (.cons (.gl "PAUSE") .nil))) (.call "says" (.cons (.ix (.var 5) (.var 9)) .nil))))
  .nil)
def c_standard_program_e4 : E := (.tup .nil)
def c_standard_program : Ss := (.cons (.ite (.lnot (.call "is_profile" (.cons (.var 0) .nil)))
 (.cons (.raise "NoSuchProfile" .nil)
  .nil)
 .nil)
  (.cons (.ast [1, 2, 3, 4] (.var 0))
  (.cons (.asg 5 (.bin .add (.var 1) (.bi .tuple (.cons (.lc c_standard_program_e4 [6] (.nm 6) (.rng (.cons (.bin .add (.var 2) (.kc (.int 3))) .nil)) .no) .nil))))
  (.cons (.asg 7 (.sl (.var 1) (.bin .add (.var 2) (.kc (.int 1))) .no))
  (.cons (.asg 8 (.bin .add (.call "says" (.cons (.ix (.var 5) (.kc (.int 0))) .nil)) (.tup (.cons (.tup (.cons (.kc (.str "start")) (.cons (.kc (.int 1)) (.cons (.kc (.str "a")) .nil)))) .nil))))
  (.cons (.ite (.cmp .eq (.var 2) (.kc (.int 1)))
 (.cons (.asg 8 (.bin .add (.bin .add (.var 8) (.tup (.cons (.gl "PAUSE") .nil))) (.call "says" (.cons (.ix (.var 5) (.kc (.int 1))) .nil))))
  .nil)
 .nil)
  (.cons (.ite (.cmp .gt (.var 2) (.kc (.int 1)))
 (.cons (.asg 8 (.bin .add (.bin .add (.var 8) (.tup (.cons (.tup (.cons (.kc (.str "start")) (.cons (.kc (.int 2)) (.cons (.kc (.str "b")) .nil)))) (.cons (.tup (.cons (.kc (.str "start")) (.cons (.kc (.int 3)) (.cons (.kc (.str "c")) .nil)))) (.cons (.tup (.cons (.kc (.str "wait")) (.cons (.kc (.str "b")) .nil))) .nil))))) (.call "says" (.cons (.ix (.var 5) (.kc (.int 2))) .nil))))
  (.cons (.for_ (.nm 9) (.rng (.cons (.kc (.int 3)) (.cons (.bin .add (.var 2) (.kc (.int 1))) .nil))) c_standard_program_b3)
  .nil))
 .nil)
  (.cons (.asg 10 (.call "late_body" (.cons (.var 2) (.cons (.lc c_standard_program_e2 [11] (.nm 11) (.rng (.cons (.bi .len (.cons (.var 7) .nil)) .nil)) .no) .nil))))
  (.cons (.asg 12 (.call "late_body" (.cons (.var 2) (.cons (.lc c_standard_program_e1 [11] (.nm 11) (.rng (.cons (.bi .len (.cons (.var 7) .nil)) .nil)) .no) .nil))))
  (.cons (.ret (.tup (.cons (.bin .add (.var 8) (.tup (.cons (.ife (.var 3) (.tup (.cons (.kc (.str "return")) .nil)) (.tup (.cons (.kc (.str "fail")) .nil))) .nil))) (.cons (.var 10) (.cons (.bin .add (.tup (.cons (.gl "PAUSE") .nil)) (.call "says" (.cons (.ix (.var 5) (.kc (.int 1))) .nil))) (.cons (.var 12) .nil))))))
  .nil))))))))))
def c_law_drawn_b1 : Ss := (.cons (.ex (.bm (.var 5) .append (.cons (.ife (.cmp .gt (.call "_law_draw" (.cons (.var 0) (.cons (.kc (.int 3)) .nil))) (.kc (.int 0))) (.bi .len (.cons (.var 6) .nil)) (.call "_law_draw" (.cons (.var 0) (.cons (.kc (.int 4)) .nil)))) .nil)))
  .nil)
def c_law_drawn_e2 : E := (.call "_law_word" (.cons (.var 0) .nil))
def c_law_drawn_b3 : Ss := (.cons (.ex (.bm (.var 1) .append (.cons (.bi .tuple (.cons (.lc c_law_drawn_e2 [3] (.nm 3) (.rng (.cons (.call "_law_draw" (.cons (.var 0) (.cons (.kc (.int 4)) .nil))) .nil)) .no) .nil)) .nil)))
  .nil)
def c_law_drawn : Ss := (.cons (.asg 1 (.lst .nil))
  (.cons (.for_ (.nm 2) (.rng (.cons (.call "_law_draw" (.cons (.var 0) (.cons (.kc (.int 7)) .nil))) .nil)) c_law_drawn_b3)
  (.cons (.asg 4 (.call "_law_draw" (.cons (.var 0) (.cons (.kc (.int 6)) .nil))))
  (.cons (.asg 5 (.lst .nil))
  (.cons (.for_ (.nm 6) (.lst (.sl (.var 1) (.bin .add (.var 4) (.kc (.int 1))) .no)) c_law_drawn_b1)
  (.cons (.ite (.cmp .eq (.call "_law_draw" (.cons (.var 0) (.cons (.kc (.int 6)) .nil))) (.kc (.int 0)))
 (.cons (.asg 5 (.bin .add (.var 5) (.lst (.cons (.kc (.int 0)) .nil))))
  .nil)
 .nil)
  (.cons (.ret (.tup (.cons (.bi .tuple (.cons (.var 1) .nil)) (.cons (.var 4) (.cons (.cmp .eq (.call "_law_draw" (.cons (.var 0) (.cons (.kc (.int 2)) .nil))) (.kc (.int 0))) (.cons (.bi .tuple (.cons (.var 5) .nil)) .nil))))))
  .nil)))))))
def c_law_changed : Ss := (.cons (.ast [2, 3, 4, 5] (.var 1))
  (.cons (.asg 6 (.call "_law_draw" (.cons (.var 0) (.cons (.kc (.int 6)) .nil))))
  (.cons (.ite (.cmp .eq (.var 6) (.kc (.int 0)))
 (.cons (.asg 3 (.bin .add (.var 3) (.kc (.int 1))))
  .nil)
 .nil)
  (.cons (.ite (.land (.cons (.cmp .eq (.var 6) (.kc (.int 1))) (.cons (.cmp .gt (.bi .len (.cons (.var 2) .nil)) (.kc (.int 0))) .nil)))
 (.cons (.asg 2 (.bin .add (.sl (.var 2) .no (.neg (.kc (.int 1)))) (.tup (.cons (.tup .nil) .nil))))
  .nil)
 .nil)
  (.cons (.ite (.land (.cons (.cmp .eq (.var 6) (.kc (.int 2))) (.cons (.cmp .gt (.bi .len (.cons (.var 5) .nil)) (.kc (.int 0))) .nil)))
 (.cons (.asg 5 (.bin .add (.sl (.var 5) .no (.neg (.kc (.int 1)))) (.tup (.cons (.bin .add (.ix (.var 5) (.neg (.kc (.int 1)))) (.kc (.int 1))) .nil))))
  .nil)
 .nil)
  (.cons (.ite (.land (.cons (.cmp .eq (.var 6) (.kc (.int 3))) (.cons (.cmp .gt (.bi .len (.cons (.var 5) .nil)) (.kc (.int 0))) .nil)))
 (.cons (.asg 5 (.bin .add (.tup (.cons (.bin .sub (.ix (.var 5) (.kc (.int 0))) (.kc (.int 1))) .nil)) (.sl (.var 5) (.kc (.int 1)) .no)))
  .nil)
 .nil)
  (.cons (.ite (.cmp .eq (.var 6) (.kc (.int 4)))
 (.cons (.asg 2 (.bin .add (.var 2) (.tup (.cons (.tup (.cons (.kc (.str "a")) .nil)) .nil))))
  .nil)
 .nil)
  (.cons (.ret (.tup (.cons (.var 2) (.cons (.var 3) (.cons (.var 4) (.cons (.var 5) .nil))))))
  .nil))))))))
def c_law_is_right_b1 : Ss := (.cons (.asg 6 (.bi .len (.cons (.ix (.var 1) (.bin .add (.bin .add (.var 2) (.kc (.int 1))) (.var 5))) .nil)))
  (.cons (.ite (.lor (.cons (.cmp .lt (.ix (.var 4) (.var 5)) (.kc (.int 0))) (.cons (.cmp .gt (.ix (.var 4) (.var 5)) (.var 6)) (.cons (.land (.cons (.cmp .lt (.var 2) (.kc (.int 2))) (.cons (.cmp .lt (.ix (.var 4) (.var 5)) (.var 6)) .nil))) .nil))))
 (.cons (.ret (.kc (.bl false)))
  .nil)
 .nil)
  .nil))
def c_law_is_right : Ss := (.cons (.ast [1, 2, 3, 4] (.var 0))
  (.cons (.ite (.land (.cons (.cmp .gt (.bi .len (.cons (.var 1) .nil)) (.kc (.int 0))) (.cons (.cmp .eq (.bi .len (.cons (.ix (.var 1) (.neg (.kc (.int 1)))) .nil)) (.kc (.int 0))) .nil)))
 (.cons (.ret (.kc (.bl false)))
  .nil)
 .nil)
  (.cons (.ite (.cmp .ne (.bi .len (.cons (.var 4) .nil)) (.bi .max (.cons (.kc (.int 0)) (.cons (.bin .sub (.bin .sub (.bi .len (.cons (.var 1) .nil)) (.var 2)) (.kc (.int 1))) .nil))))
 (.cons (.ret (.kc (.bl false)))
  .nil)
 .nil)
  (.cons (.for_ (.nm 5) (.rng (.cons (.bi .len (.cons (.var 4) .nil)) .nil)) c_law_is_right_b1)
  (.cons (.ret (.kc (.bl true)))
  .nil)))))
def c_law_made : Ss := (.cons (.try_ (.cons (.ret (.tup (.cons (.kc (.str "told")) (.cons (.call "standard_program" (.cons (.var 0) .nil)) .nil))))
  .nil) "TickError" 1
 (.cons (.ite (.land (.cons (.isx (.var 1) "NoSuchProfile") (.cons (.isx (.var 1) "ValueError") (.cons (.lnot (.isx (.var 1) "BadProgram")) .nil))))
 (.cons (.ret (.tup (.cons (.kc (.str "refused")) (.cons (.kc .non) .nil))))
  .nil)
 .nil)
  (.cons (.ret (.tup (.cons (.kc (.str "else")) (.cons (.kc .non) .nil))))
  .nil)))
  .nil)
def c_law_says_e1 : E := (.tup (.cons (.kc (.str "say")) (.cons (.var 1) .nil)))
def c_law_says : Ss := (.cons (.ret (.bi .tuple (.cons (.lc c_law_says_e1 [1] (.nm 1) (.tup (.var 0)) .no) .nil)))
  .nil)
def c_law_late_b1 : Ss := (.cons (.asg 2 (.bin .add (.bin .add (.var 2) (.tup (.cons (.tup (.cons (.kc (.str "pause")) .nil)) .nil))) (.call "_law_says" (.cons (.var 3) .nil))))
  .nil)
def c_law_late : Ss := (.cons (.asg 2 (.tup (.cons (.tup (.cons (.kc (.str "repeat")) (.cons (.var 0) (.cons (.tup (.cons (.tup (.cons (.kc (.str "pause")) .nil)) .nil)) .nil)))) .nil)))
  (.cons (.for_ (.nm 3) (.lst (.var 1)) c_law_late_b1)
  (.cons (.ret (.var 2))
  .nil)))
def c_law_standard_e1 : E := (.sl (.ix (.var 10) (.var 6)) (.ix (.var 4) (.var 6)) .no)
def c_law_standard_e2 : E := (.sl (.ix (.var 10) (.var 6)) .no (.ix (.var 4) (.var 6)))
def c_law_standard_b3 : Ss := (.cons (.asg 7 (.bin .add (.bin .add (.var 7) (.tup (.cons (.tup (.cons (.kc (.str "pause")) .nil)) .nil))) (.call "_law_says" (.cons (.var 8) .nil))))
  .nil)
def c_law_standard_e4 : E := (.tup .nil)
def c_law_standard : Ss := (.cons (.ast [1, 2, 3, 4] (.var 0))
  (.cons (.asg 5 (.bin .add (.bi .list (.cons (.var 1) .nil)) (.lc c_law_standard_e4 [6] (.nm 6) (.rng (.cons (.bin .add (.var 2) (.kc (.int 3))) .nil)) .no)))
  (.cons (.asg 7 (.bin .add (.call "_law_says" (.cons (.ix (.var 5) (.kc (.int 0))) .nil)) (.tup (.cons (.tup (.cons (.kc (.str "start")) (.cons (.kc (.int 1)) (.cons (.kc (.str "a")) .nil)))) .nil))))
  (.cons (.ite (.cmp .eq (.var 2) (.kc (.int 1)))
 (.cons (.asg 7 (.bin .add (.bin .add (.var 7) (.tup (.cons (.tup (.cons (.kc (.str "pause")) .nil)) .nil))) (.call "_law_says" (.cons (.ix (.var 5) (.kc (.int 1))) .nil))))
  .nil)
 .nil)
  (.cons (.ite (.cmp .ge (.var 2) (.kc (.int 2)))
 (.cons (.asg 7 (.bin .add (.bin .add (.var 7) (.tup (.cons (.tup (.cons (.kc (.str "start")) (.cons (.kc (.int 2)) (.cons (.kc (.str "b")) .nil)))) (.cons (.tup (.cons (.kc (.str "start")) (.cons (.kc (.int 3)) (.cons (.kc (.str "c")) .nil)))) (.cons (.tup (.cons (.kc (.str "wait")) (.cons (.kc (.str "b")) .nil))) .nil))))) (.call "_law_says" (.cons (.ix (.var 5) (.kc (.int 2))) .nil))))
  (.cons (.for_ (.nm 8) (.tup (.sl (.var 5) (.kc (.int 3)) (.bin .add (.var 2) (.kc (.int 1))))) c_law_standard_b3)
  .nil))
 .nil)
  (.cons (.asg 9 (.tup (.cons (.kc (.str "return")) .nil)))
  (.cons (.ite (.lnot (.var 3))
 (.cons (.asg 9 (.tup (.cons (.kc (.str "fail")) .nil)))
  .nil)
 .nil)
  (.cons (.asg 10 (.sl (.var 1) (.bin .add (.var 2) (.kc (.int 1))) .no))
  (.cons (.asg 11 (.call "_law_late" (.cons (.var 2) (.cons (.lc c_law_standard_e2 [6] (.nm 6) (.rng (.cons (.bi .len (.cons (.var 4) .nil)) .nil)) .no) .nil))))
  (.cons (.asg 12 (.call "_law_late" (.cons (.var 2) (.cons (.lc c_law_standard_e1 [6] (.nm 6) (.rng (.cons (.bi .len (.cons (.var 4) .nil)) .nil)) .no) .nil))))
  (.cons (.ret (.tup (.cons (.bin .add (.var 7) (.tup (.cons (.var 9) .nil))) (.cons (.var 11) (.cons (.bin .add (.tup (.cons (.tup (.cons (.kc (.str "pause")) .nil)) .nil)) (.call "_law_says" (.cons (.ix (.var 5) (.kc (.int 1))) .nil))) (.cons (.var 12) .nil))))))
  .nil)))))))))))
def c_law_k21_b1 : Ss := (.cons (.asg 4 (.call "_law_is_right" (.cons (.var 3) .nil)))
  (.cons (.ite (.lnot (.call "_law_same" (.cons (.call "is_profile" (.cons (.var 3) .nil)) (.cons (.var 4) .nil))))
 (.cons (.ret (.kc (.bl false)))
  .nil)
 .nil)
  (.cons (.asg 5 (.call "_law_made" (.cons (.var 3) .nil)))
  (.cons (.ite (.land (.cons (.var 4) (.cons (.lnot (.call "_law_same" (.cons (.var 5) (.cons (.tup (.cons (.kc (.str "told")) (.cons (.call "_law_standard" (.cons (.var 3) .nil)) .nil))) .nil)))) .nil)))
 (.cons (.ret (.kc (.bl false)))
  .nil)
 .nil)
  (.cons (.ite (.land (.cons (.var 4) (.cons (.lnot (.call "_law_same" (.cons (.call "_law_profile" (.cons (.ix (.var 5) (.kc (.int 1))) .nil)) (.cons (.var 3) .nil)))) .nil)))
 (.cons (.ret (.kc (.bl false)))
  .nil)
 .nil)
  (.cons (.ite (.land (.cons (.lnot (.var 4)) (.cons (.lnot (.call "_law_same" (.cons (.var 5) (.cons (.tup (.cons (.kc (.str "refused")) (.cons (.kc .non) .nil))) .nil)))) .nil)))
 (.cons (.ret (.kc (.bl false)))
  .nil)
 .nil)
  .nil))))))
def c_law_k21 : Ss := (.cons (.asg 1 (.call "_law_box" (.cons (.var 0) (.cons (.kc (.int 6)) .nil))))
  (.cons (.asg 2 (.call "_law_profile" (.cons (.call "_law_program" (.cons (.var 0) (.cons (.kc (.int 0)) (.cons (.kc (.int 4)) (.cons (.kc (.int 5)) (.cons (.kc (.int 300)) .nil)))))) .nil)))
  (.cons (.for_ (.nm 3) (.tup (.tup (.cons (.var 2) (.cons (.call "_law_changed" (.cons (.var 1) (.cons (.var 2) .nil))) (.cons (.call "_law_drawn" (.cons (.var 1) .nil)) (.cons (.call "_law_drawn" (.cons (.call "_law_box" (.cons (.var 0) (.cons (.kc (.int 7)) .nil))) .nil)) .nil)))))) c_law_k21_b1)
  (.cons (.ret (.kc (.bl true)))
  .nil))))
def c_are_alike : Ss := (.cons (.ret (.cmp .eq (.call "profile_of" (.cons (.var 0) .nil)) (.call "profile_of" (.cons (.var 1) .nil))))
  .nil)
def c_law_other : Ss := (.cons (.asg 2 (.call "_law_draw" (.cons (.var 0) (.cons (.kc (.int 6)) .nil))))
  (.cons (.ite (.cmp .eq (.var 2) (.kc (.int 0)))
 (.cons (.ret (.call "_law_put" (.cons (.tup (.cons (.tup (.cons (.tup (.cons (.kc (.str "start")) (.cons (.kc (.int 1)) (.cons (.kc (.str "a")) .nil)))) (.cons (.tup (.cons (.kc (.str "wait")) (.cons (.kc (.str "a")) .nil))) .nil))) .nil)) (.cons (.var 1) .nil))))
  .nil)
 .nil)
  (.cons (.ite (.cmp .eq (.var 2) (.kc (.int 1)))
 (.cons (.ret (.call "_law_put" (.cons (.tup (.cons (.tup (.cons (.tup (.cons (.kc (.str "start")) (.cons (.kc (.int 1)) (.cons (.kc (.str "a")) .nil)))) (.cons (.tup (.cons (.kc (.str "adopt")) (.cons (.kc (.str "a")) .nil))) .nil))) .nil)) (.cons (.var 1) .nil))))
  .nil)
 .nil)
  (.cons (.asg 3 (.call "_law_draw" (.cons (.var 0) (.cons (.bi .len (.cons (.var 1) .nil)) .nil))))
  (.cons (.asg 4 (.bi .list (.cons (.var 1) .nil)))
  (.cons (.ite (.cmp .eq (.var 2) (.kc (.int 2)))
 (.cons (.asi (.var 4) (.var 3) (.bin .add (.ix (.var 4) (.var 3)) (.tup (.cons (.tup (.cons (.kc (.str "pause")) .nil)) .nil))))
  .nil)
 .nil)
  (.cons (.ite (.cmp .eq (.var 2) (.kc (.int 3)))
 (.cons (.asi (.var 4) (.var 3) (.bin .add (.tup (.cons (.tup (.cons (.kc (.str "try")) (.cons (.tup .nil) (.cons (.tup .nil) .nil)))) .nil)) (.ix (.var 4) (.var 3))))
  .nil)
 .nil)
  (.cons (.ite (.cmp .eq (.var 2) (.kc (.int 4)))
 (.cons (.asi (.var 4) (.var 3) (.sl (.ix (.var 4) (.var 3)) (.kc (.int 1)) .no))
  .nil)
 .nil)
  (.cons (.ret (.bi .tuple (.cons (.var 4) .nil)))
  .nil)))))))))
def c_law_other_v2 : Ss := (.cons (.asg 2 (.call "_law_draw" (.cons (.var 0) (.cons (.bi .len (.cons (.var 1) .nil)) .nil))))
  (.cons (.asg 3 (.bi .list (.cons (.var 1) .nil)))
  (.cons (.asg 4 (.call "_law_draw" (.cons (.var 0) (.cons (.bin .add (.bi .len (.cons (.ix (.var 3) (.var 2)) .nil)) (.kc (.int 1))) .nil))))
  (.cons (.asg 5 (.ix (.tup (.cons (.tup (.cons (.kc (.str "pause")) .nil)) (.cons (.tup (.cons (.kc (.str "say")) (.cons (.kc (.str "a")) .nil))) (.cons (.tup (.cons (.kc (.str "fail")) .nil)) (.cons (.tup (.cons (.kc (.str "return")) .nil)) (.cons (.tup (.cons (.kc (.str "wait")) (.cons (.kc (.str "a")) .nil))) (.cons (.tup (.cons (.kc (.str "adopt")) (.cons (.kc (.str "a")) .nil))) .nil))))))) (.call "_law_draw" (.cons (.var 0) (.cons (.kc (.int 6)) .nil)))))
  (.cons (.asg 6 (.call "_law_draw" (.cons (.var 0) (.cons (.kc (.int 4)) .nil))))
  (.cons (.ite (.cmp .eq (.var 6) (.kc (.int 0)))
 (.cons (.asi (.var 3) (.var 2) (.bin .add (.sl (.ix (.var 3) (.var 2)) .no (.var 4)) (.sl (.ix (.var 3) (.var 2)) (.bin .add (.var 4) (.kc (.int 1))) .no)))
  .nil)
 .nil)
  (.cons (.ite (.cmp .eq (.var 6) (.kc (.int 1)))
 (.cons (.asi (.var 3) (.var 2) (.bin .add (.bin .add (.sl (.ix (.var 3) (.var 2)) .no (.var 4)) (.tup (.cons (.var 5) .nil))) (.sl (.ix (.var 3) (.var 2)) (.bin .add (.var 4) (.kc (.int 1))) .no)))
  .nil)
 .nil)
  (.cons (.ite (.cmp .gt (.var 6) (.kc (.int 1)))
 (.cons (.asi (.var 3) (.var 2) (.bin .add (.bin .add (.sl (.ix (.var 3) (.var 2)) .no (.var 4)) (.tup (.cons (.var 5) .nil))) (.sl (.ix (.var 3) (.var 2)) (.var 4) .no)))
  .nil)
 .nil)
  (.cons (.ret (.bi .tuple (.cons (.var 3) .nil)))
  .nil)))))))))
def c_law_k22_b1 : Ss := (.cons (.asg 4 (.call "_law_other" (.cons (.var 2) (.cons (.var 1) .nil))))
  (.cons (.asg 5 (.call "_law_other" (.cons (.var 2) (.cons (.var 1) .nil))))
  (.cons (.ite (.lnot (.call "_law_same" (.cons (.call "are_alike" (.cons (.var 4) (.cons (.var 5) .nil))) (.cons (.cmp .eq (.call "_law_profile" (.cons (.var 4) .nil)) (.call "_law_profile" (.cons (.var 5) .nil))) .nil))))
 (.cons (.ret (.kc (.bl false)))
  .nil)
 .nil)
  .nil)))
def c_law_k22 : Ss := (.cons (.asg 1 (.call "_law_program" (.cons (.var 0) (.cons (.kc (.int 0)) (.cons (.kc (.int 4)) (.cons (.kc (.int 5)) (.cons (.kc (.int 120)) .nil)))))))
  (.cons (.asg 2 (.call "_law_box" (.cons (.var 0) (.cons (.kc (.int 6)) .nil))))
  (.cons (.for_ (.nm 3) (.rng (.cons (.kc (.int 3)) .nil)) c_law_k22_b1)
  (.cons (.ret (.call "_law_same" (.cons (.call "are_alike" (.cons (.var 1) (.cons (.var 1) .nil))) (.cons (.kc (.bl true)) .nil))))
  .nil))))
def c_law_words_e1 : E := (.ix (.var 1) (.kc (.int 2)))
def c_law_words : Ss := (.cons (.ret (.bi .tuple (.cons (.lc c_law_words_e1 [1] (.nm 1) (.lst (.dx (.call "_law_ran" (.cons (.var 0) .nil)) (.kc (.str "said")))) .no) .nil)))
  .nil)
def c_law_context_b1 : Ss := (.cons (.ite (.lor (.cons (.cmp .gt (.bin .add (.call "_law_size" (.cons (.var 5) (.cons (.ix (.var 5) (.var 6)) .nil))) (.kc (.int 1))) (.kc (.int 30))) (.cons (.cmp .gt (.call "_law_count" (.cons (.ix (.var 5) (.var 6)) .nil)) (.kc (.int 24))) .nil)))
 (.cons (.asi (.var 5) (.var 6) (.tup (.cons (.tup (.cons (.kc (.str "say")) (.cons (.kc (.str "c")) .nil))) (.cons (.tup (.cons (.kc (.str "start")) (.cons (.var 4) (.cons (.kc (.str "a")) .nil)))) (.cons (.tup (.cons (.kc (.str "wait")) (.cons (.kc (.str "a")) .nil))) (.cons (.tup (.cons (.kc (.str "say")) (.cons (.kc (.str "d")) .nil))) .nil))))))
  .nil)
 .nil)
  .nil)
def c_law_context_b2 : Ss := (.cons (.ex (.bm (.var 5) .append (.cons (.call "_law_block" (.cons (.call "_law_box" (.cons (.var 0) (.cons (.bin .add (.bin .add (.var 1) (.kc (.int 1))) (.var 6)) .nil))) (.cons (.kc (.int 2)) (.cons (.var 3) (.cons (.var 6) (.cons (.bin .add (.var 4) (.kc (.int 1))) .nil)))))) .nil)))
  .nil)
def c_law_context : Ss := (.cons (.asg 4 (.bin .add (.kc (.int 1)) (.call "_law_draw" (.cons (.call "_law_box" (.cons (.var 0) (.cons (.var 1) .nil))) (.cons (.var 2) .nil)))))
  (.cons (.asg 5 (.lst .nil))
  (.cons (.for_ (.nm 6) (.rng (.cons (.var 4) .nil)) c_law_context_b2)
  (.cons (.for_ (.nm 6) (.revr (.var 4)) c_law_context_b1)
  (.cons (.ret (.bi .tuple (.cons (.var 5) .nil)))
  .nil)))))
def c_law_k23_b1 : Ss := (.cons (.asg 9 (.call "_law_put" (.cons (.var 6) (.cons (.var 7) .nil))))
  (.cons (.asg 10 (.call "_law_put" (.cons (.var 6) (.cons (.var 8) .nil))))
  (.cons (.ite (.lor (.cons (.cmp .ne (.call "_law_words" (.cons (.var 9) .nil)) (.call "_law_words" (.cons (.var 10) .nil))) (.cons (.cmp .ne (.call "_law_profile" (.cons (.var 9) .nil)) (.call "_law_profile" (.cons (.var 10) .nil))) .nil)))
 (.cons (.ret (.kc (.bl false)))
  .nil)
 .nil)
  .nil)))
def c_law_k23_b2 : Ss := (.cons (.asg 6 (.call "_law_context" (.cons (.var 0) (.cons (.bin .add (.kc (.int 8)) (.bin .mul (.kc (.int 4)) (.var 5))) (.cons (.kc (.int 3)) (.cons (.kc (.int 5)) .nil))))))
  (.cons (.for_ (.tp [7, 8]) (.tup (.var 4)) c_law_k23_b1)
  .nil))
def c_law_k23 : Ss := (.cons (.asg 1 (.call "_law_program" (.cons (.var 0) (.cons (.kc (.int 0)) (.cons (.kc (.int 4)) (.cons (.kc (.int 5)) (.cons (.kc (.int 40)) .nil)))))))
  (.cons (.asg 2 (.call "_law_put" (.cons (.tup (.cons (.tup (.cons (.tup (.cons (.kc (.str "start")) (.cons (.kc (.int 1)) (.cons (.kc (.str "a")) .nil)))) (.cons (.tup (.cons (.kc (.str "wait")) (.cons (.kc (.str "a")) .nil))) .nil))) .nil)) (.cons (.var 1) .nil))))
  (.cons (.asg 3 (.call "_law_put" (.cons (.tup (.cons (.tup (.cons (.tup (.cons (.kc (.str "start")) (.cons (.kc (.int 1)) (.cons (.kc (.str "a")) .nil)))) (.cons (.tup (.cons (.kc (.str "adopt")) (.cons (.kc (.str "a")) .nil))) .nil))) .nil)) (.cons (.var 1) .nil))))
  (.cons (.asg 4 (.lst (.cons (.tup (.cons (.var 1) (.cons (.call "standard_program" (.cons (.call "profile_of" (.cons (.var 1) .nil)) .nil)) .nil))) .nil)))
  (.cons (.ite (.call "are_alike" (.cons (.var 2) (.cons (.var 3) .nil)))
 (.cons (.ex (.bm (.var 4) .append (.cons (.tup (.cons (.var 2) (.cons (.var 3) .nil))) .nil)))
  .nil)
 .nil)
  (.cons (.for_ (.nm 5) (.rng (.cons (.kc (.int 3)) .nil)) c_law_k23_b2)
  (.cons (.ret (.kc (.bl true)))
  .nil)))))))
def c_words_in_b1 : Ss := (.cons (.ite (.cmp .eq (.ix (.var 2) (.kc (.int 0))) (.kc (.str "say")))
 (.cons (.ex (.bm (.var 1) .append (.cons (.ix (.var 2) (.kc (.int 1))) .nil)))
  .nil)
 (.cons (.ite (.cmp .eq (.ix (.var 2) (.kc (.int 0))) (.kc (.str "try")))
 (.cons (.asg 1 (.bin .add (.bin .add (.var 1) (.call "words_in" (.cons (.ix (.var 2) (.kc (.int 1))) .nil))) (.call "words_in" (.cons (.ix (.var 2) (.kc (.int 2))) .nil))))
  .nil)
 (.cons (.ite (.cmp .eq (.ix (.var 2) (.kc (.int 0))) (.kc (.str "repeat")))
 (.cons (.asg 1 (.bin .add (.var 1) (.call "words_in" (.cons (.ix (.var 2) (.kc (.int 2))) .nil))))
  .nil)
 .nil)
  .nil))
  .nil))
  .nil)
def c_words_in : Ss := (.cons (.asg 1 (.lst .nil))
  (.cons (.for_ (.nm 2) (.tup (.var 0)) c_words_in_b1)
  (.cons (.ret (.var 1))
  .nil)))
def c_words_of_b1 : Ss := (.cons (.asg 1 (.bin .add (.var 1) (.call "words_in" (.cons (.var 2) .nil))))
  .nil)
def c_words_of : Ss := (.cons (.asg 1 (.lst .nil))
  (.cons (.for_ (.nm 2) (.tup (.var 0)) c_words_of_b1)
  (.cons (.ret (.var 1))
  .nil)))
def c_words_said_e1 : E := (.var 3)
def c_words_said : Ss := (.cons (.ret (.bi .tuple (.cons (.lc c_words_said_e1 [1, 2, 3] (.tp [1, 2, 3]) (.tup (.meth (.call "run_machine" (.cons (.var 0) .nil)) "entries" .nil)) .no) .nil)))
  .nil)
def c_free_words_b1 : Ss := (.cons (.ite (.cmp .niS (.bi .str (.cons (.var 5) .nil)) (.var 2))
 (.cons (.ex (.bm (.var 4) .append (.cons (.bi .str (.cons (.var 5) .nil)) .nil)))
  .nil)
 .nil)
  (.cons (.asg 5 (.bin .add (.var 5) (.kc (.int 1))))
  .nil))
def c_free_words_b2 : Ss := (.cons (.asg 2 (.bin .add (.var 2) (.call "words_of" (.cons (.var 3) .nil))))
  .nil)
def c_free_words : Ss := (.cons (.asg 2 (.lst .nil))
  (.cons (.for_ (.nm 3) (.tup (.var 0)) c_free_words_b2)
  (.cons (.asg 4 (.lst .nil))
  (.cons (.asg 5 (.kc (.int 0)))
  (.cons (.whl (.cmp .lt (.bi .len (.cons (.var 4) .nil)) (.var 1)) c_free_words_b1)
  (.cons (.ret (.var 4))
  .nil))))))
def c_telling_context : Ss := (.cons (.asg 4 (.bi .max (.cons (.bi .len (.cons (.ix (.var 2) (.kc (.int 0))) .nil)) (.cons (.bin .add (.ix (.var 2) (.kc (.int 1))) (.kc (.int 2))) (.cons (.bi .len (.cons (.ix (.var 3) (.kc (.int 0))) .nil)) (.cons (.bin .add (.ix (.var 3) (.kc (.int 1))) (.kc (.int 2))) .nil))))))
  (.cons (.ast [5, 6, 7] (.call "free_words" (.cons (.tup (.cons (.var 0) (.cons (.var 1) .nil))) (.cons (.kc (.int 3)) .nil))))
  (.cons (.asg 8 (.tup (.cons (.kc (.str "try")) (.cons (.tup (.cons (.tup (.cons (.kc (.str "wait")) (.cons (.kc (.str "b")) .nil))) .nil)) (.cons (.tup (.cons (.tup (.cons (.kc (.str "say")) (.cons (.var 7) .nil))) .nil)) .nil)))))
  (.cons (.asg 9 (.tup (.cons (.kc (.str "repeat")) (.cons (.var 4) (.cons (.tup (.cons (.tup (.cons (.kc (.str "say")) (.cons (.var 7) .nil))) (.cons (.tup (.cons (.kc (.str "pause")) .nil)) .nil))) .nil)))))
  (.cons (.asg 10 (.tup (.cons (.tup (.cons (.kc (.str "start")) (.cons (.kc (.int 1)) (.cons (.kc (.str "a")) .nil)))) (.cons (.tup (.cons (.kc (.str "start")) (.cons (.kc (.int 3)) (.cons (.kc (.str "b")) .nil)))) (.cons (.tup (.cons (.kc (.str "start")) (.cons (.kc (.int 2)) (.cons (.kc (.str "c")) .nil)))) (.cons (.var 8) (.cons (.var 9) .nil)))))))
  (.cons (.asg 11 (.tup (.cons (.tup (.cons (.kc (.str "repeat")) (.cons (.var 4) (.cons (.tup (.cons (.tup (.cons (.kc (.str "say")) (.cons (.var 5) .nil))) (.cons (.tup (.cons (.kc (.str "pause")) .nil)) .nil))) .nil)))) .nil)))
  (.cons (.asg 12 (.tup (.cons (.tup (.cons (.kc (.str "repeat")) (.cons (.var 4) (.cons (.tup (.cons (.tup (.cons (.kc (.str "say")) (.cons (.var 6) .nil))) (.cons (.tup (.cons (.kc (.str "pause")) .nil)) .nil))) .nil)))) .nil)))
  (.cons (.ret (.tup (.cons (.var 10) (.cons (.var 11) (.cons (.var 12) .nil)))))
  .nil))))))))
def c_tell_apart : Ss := (.cons (.asg 2 (.call "profile_of" (.cons (.var 0) .nil)))
  (.cons (.asg 3 (.call "profile_of" (.cons (.var 1) .nil)))
  (.cons (.ite (.cmp .eq (.var 2) (.var 3))
 (.cons (.ret (.kc .non))
  .nil)
 .nil)
  (.cons (.asg 4 (.call "telling_context" (.cons (.var 0) (.cons (.var 1) (.cons (.var 2) (.cons (.var 3) .nil))))))
  (.cons (.ret (.tup (.cons (.var 4) (.cons (.call "words_said" (.cons (.call "joined" (.cons (.var 4) (.cons (.var 0) .nil))) .nil)) (.cons (.call "words_said" (.cons (.call "joined" (.cons (.var 4) (.cons (.var 1) .nil))) .nil)) .nil)))))
  .nil)))))
def c_law_are_right_e1 : E := (.cmp .inS (.var 4) (.var 2))
def c_law_are_right_e2 : E := (.call "_law_are_right" (.cons (.var 5) (.cons (.bin .add (.var 1) (.kc (.int 1))) .nil)))
def c_law_are_right_b3 : Ss := (.cons (.ite (.cmp .eq (.ix (.var 3) (.kc (.int 0))) (.kc (.str "say")))
 (.cons (.ite (.lor (.cons (.cmp .ne (.bi .len (.cons (.var 3) .nil)) (.kc (.int 2))) (.cons (.cmp .lt (.bi .len (.cons (.ix (.var 3) (.kc (.int 1))) .nil)) (.kc (.int 1))) (.cons (.cmp .gt (.bi .len (.cons (.ix (.var 3) (.kc (.int 1))) .nil)) (.kc (.int 8))) (.cons (.lnot (.bi .all (.cons (.lc c_law_are_right_e1 [4] (.nm 4) (.tup (.ix (.var 3) (.kc (.int 1)))) .no) .nil))) .nil)))))
 (.cons (.ret (.kc (.bl false)))
  .nil)
 .nil)
  .nil)
 (.cons (.ite (.cmp .inS (.ix (.var 3) (.kc (.int 0))) (.tup (.cons (.kc (.str "start")) (.cons (.kc (.str "wait")) (.cons (.kc (.str "adopt")) .nil)))))
 (.cons (.ite (.cmp .niS (.ix (.var 3) (.neg (.kc (.int 1)))) (.tup (.cons (.kc (.str "a")) (.cons (.kc (.str "b")) (.cons (.kc (.str "c")) (.cons (.kc (.str "d")) .nil))))))
 (.cons (.ret (.kc (.bl false)))
  .nil)
 .nil)
  .nil)
 (.cons (.ite (.lor (.cons (.cmp .eq (.ix (.var 3) (.kc (.int 0))) (.kc (.str "try"))) (.cons (.cmp .eq (.ix (.var 3) (.kc (.int 0))) (.kc (.str "repeat"))) .nil)))
 (.cons (.ite (.lor (.cons (.cmp .eq (.var 1) (.kc (.int 2))) (.cons (.lnot (.bi .all (.cons (.lc c_law_are_right_e2 [5] (.nm 5) (.tup (.sl (.var 3) (.kc (.int 1)) .no)) (.isi (.var 5) .tup)) .nil))) .nil)))
 (.cons (.ret (.kc (.bl false)))
  .nil)
 .nil)
  (.cons (.ite (.land (.cons (.cmp .eq (.ix (.var 3) (.kc (.int 0))) (.kc (.str "repeat"))) (.cons (.cmp .lt (.ix (.var 3) (.kc (.int 1))) (.kc (.int 0))) .nil)))
 (.cons (.ret (.kc (.bl false)))
  .nil)
 .nil)
  .nil))
 (.cons (.ite (.cmp .niS (.var 3) (.tup (.cons (.tup (.cons (.kc (.str "pause")) .nil)) (.cons (.tup (.cons (.kc (.str "return")) .nil)) (.cons (.tup (.cons (.kc (.str "fail")) .nil)) .nil)))))
 (.cons (.ret (.kc (.bl false)))
  .nil)
 .nil)
  .nil))
  .nil))
  .nil))
  .nil)
def c_law_are_right : Ss := (.cons (.asg 2 (.kc (.str "abcdefghijklmnopqrstuvwxyz0123456789")))
  (.cons (.for_ (.nm 3) (.tup (.var 0)) c_law_are_right_b3)
  (.cons (.ret (.kc (.bl true)))
  .nil)))
def c_law_k24_e1 : E := (.land (.cons (.call "_law_are_right" (.cons (.var 8) (.cons (.kc (.int 0)) .nil))) (.cons (.cmp .le (.call "_law_count" (.cons (.var 8) .nil)) (.kc (.int 40))) .nil)))
def c_law_k24_e2 : E := (.call "_law_is_context" (.cons (.ix (.var 6) (.var 7)) (.cons (.var 7) (.cons (.bi .len (.cons (.var 6) .nil)) .nil))))
def c_law_k24_b3 : Ss := (.cons (.asg 4 (.call "_law_other" (.cons (.var 2) (.cons (.var 1) .nil))))
  (.cons (.asg 5 (.call "tell_apart" (.cons (.var 1) (.cons (.var 4) .nil))))
  (.cons (.ite (.cmp .eq (.call "_law_profile" (.cons (.var 1) .nil)) (.call "_law_profile" (.cons (.var 4) .nil)))
 (.cons (.ite (.cmp .ntN (.var 5) (.kc .non))
 (.cons (.ret (.kc (.bl false)))
  .nil)
 .nil)
  .nil)
 (.cons (.ite (.lor (.cons (.lnot (.isi (.var 5) .tup)) (.cons (.cmp .ne (.bi .len (.cons (.var 5) .nil)) (.kc (.int 3))) (.cons (.lnot (.isi (.ix (.var 5) (.kc (.int 0))) .tup)) .nil))))
 (.cons (.ret (.kc (.bl false)))
  .nil)
 .nil)
  (.cons (.asg 6 (.ix (.var 5) (.kc (.int 0))))
  (.cons (.ite (.lor (.cons (.cmp .lt (.bi .len (.cons (.var 6) .nil)) (.kc (.int 1))) (.cons (.cmp .gt (.bi .len (.cons (.var 6) .nil)) (.kc (.int 3))) .nil)))
 (.cons (.ret (.kc (.bl false)))
  .nil)
 .nil)
  (.cons (.ite (.lnot (.bi .all (.cons (.lc c_law_k24_e2 [7] (.nm 7) (.rng (.cons (.bi .len (.cons (.var 6) .nil)) .nil)) .no) .nil)))
 (.cons (.ret (.kc (.bl false)))
  .nil)
 .nil)
  (.cons (.ite (.lnot (.bi .all (.cons (.lc c_law_k24_e1 [8] (.nm 8) (.tup (.var 6)) .no) .nil)))
 (.cons (.ret (.kc (.bl false)))
  .nil)
 .nil)
  (.cons (.ite (.lnot (.call "_law_same" (.cons (.ix (.var 5) (.kc (.int 1))) (.cons (.call "_law_words" (.cons (.call "_law_put" (.cons (.var 6) (.cons (.var 1) .nil))) .nil)) .nil))))
 (.cons (.ret (.kc (.bl false)))
  .nil)
 .nil)
  (.cons (.ite (.lor (.cons (.lnot (.call "_law_same" (.cons (.ix (.var 5) (.kc (.int 2))) (.cons (.call "_law_words" (.cons (.call "_law_put" (.cons (.var 6) (.cons (.var 4) .nil))) .nil)) .nil)))) (.cons (.cmp .eq (.ix (.var 5) (.kc (.int 1))) (.ix (.var 5) (.kc (.int 2)))) .nil)))
 (.cons (.ret (.kc (.bl false)))
  .nil)
 .nil)
  .nil))))))))
  .nil)))
def c_law_k24 : Ss := (.cons (.asg 1 (.call "_law_program" (.cons (.var 0) (.cons (.kc (.int 0)) (.cons (.kc (.int 4)) (.cons (.kc (.int 5)) (.cons (.kc (.int 120)) .nil)))))))
  (.cons (.asg 2 (.call "_law_box" (.cons (.var 0) (.cons (.kc (.int 6)) .nil))))
  (.cons (.for_ (.nm 3) (.rng (.cons (.kc (.int 3)) .nil)) c_law_k24_b3)
  (.cons (.ret (.kc (.bl true)))
  .nil))))
def c_law_k25 : Ss := (.cons (.asg 1 (.call "_law_program" (.cons (.var 0) (.cons (.kc (.int 0)) (.cons (.kc (.int 4)) (.cons (.kc (.int 5)) (.cons (.kc (.int 300)) .nil)))))))
  (.cons (.asg 2 (.call "profile_of" (.cons (.var 1) .nil)))
  (.cons (.asg 3 (.call "_law_put" (.cons (.tup (.cons (.tup (.cons (.tup (.cons (.kc (.str "start")) (.cons (.kc (.int 1)) (.cons (.kc (.str "a")) .nil)))) (.cons (.tup (.cons (.kc (.str "wait")) (.cons (.kc (.str "a")) .nil))) .nil))) .nil)) (.cons (.var 1) .nil))))
  (.cons (.asg 4 (.call "_law_put" (.cons (.tup (.cons (.tup (.cons (.tup (.cons (.kc (.str "start")) (.cons (.kc (.int 1)) (.cons (.kc (.str "a")) .nil)))) (.cons (.tup (.cons (.kc (.str "adopt")) (.cons (.kc (.str "a")) .nil))) .nil))) .nil)) (.cons (.var 1) .nil))))
  (.cons (.asg 5 (.call "profile_of" (.cons (.var 3) .nil)))
  (.cons (.asg 6 (.call "profile_of" (.cons (.var 4) .nil)))
  (.cons (.ite (.lnot (.call "_law_same" (.cons (.sl (.var 5) .no (.kc (.int 3))) (.cons (.tup (.cons (.ix (.var 2) (.kc (.int 0))) (.cons (.bin .add (.ix (.var 2) (.kc (.int 1))) (.kc (.int 1))) (.cons (.ix (.var 2) (.kc (.int 2))) .nil)))) .nil))))
 (.cons (.ret (.kc (.bl false)))
  .nil)
 .nil)
  (.cons (.ite (.lnot (.call "_law_same" (.cons (.sl (.var 6) .no (.kc (.int 3))) (.cons (.tup (.cons (.ix (.var 2) (.kc (.int 0))) (.cons (.bi .max (.cons (.bin .add (.ix (.var 2) (.kc (.int 1))) (.kc (.int 1))) (.cons (.kc (.int 2)) .nil))) (.cons (.ix (.var 2) (.kc (.int 2))) .nil)))) .nil))))
 (.cons (.ret (.kc (.bl false)))
  .nil)
 .nil)
  (.cons (.ret (.call "_law_same" (.cons (.call "are_alike" (.cons (.var 3) (.cons (.var 4) .nil))) (.cons (.cmp .gt (.ix (.var 2) (.kc (.int 1))) (.kc (.int 0))) .nil))))
  .nil)))))))))
def c_put_into : Ss := (.cons (.asg 2 (.call "joined" (.cons (.var 0) (.cons (.var 1) .nil))))
  (.cons (.ex (.call "check_program" (.cons (.var 2) .nil)))
  (.cons (.ret (.var 2))
  .nil)))
def c_law_k26_e1 : E := (.bin .add (.call "_law_size" (.cons (.var 6) (.cons (.var 5) .nil))) (.kc (.int 1)))
def c_law_k26_e2 : E := (.tup (.cons (.tup (.cons (.kc (.str "start")) (.cons (.kc (.int 7)) (.cons (.kc (.str "b")) .nil)))) .nil))
def c_law_k26_b3 : Ss := (.cons (.asg 2 (.call "_law_program" (.cons (.var 0) (.cons (.bin .mul (.kc (.int 10)) (.var 1)) (.cons (.kc (.int 4)) (.cons (.kc (.int 5)) (.cons (.kc (.int 200)) .nil)))))))
  (.cons (.asg 3 (.call "_law_context" (.cons (.var 0) (.cons (.bin .add (.bin .mul (.kc (.int 10)) (.var 1)) (.kc (.int 5))) (.cons (.kc (.int 3)) (.cons (.kc (.int 5)) .nil))))))
  (.cons (.asg 4 (.call "_law_box" (.cons (.var 0) (.cons (.bin .add (.bin .mul (.kc (.int 10)) (.var 1)) (.kc (.int 9))) .nil))))
  (.cons (.ite (.cmp .eq (.call "_law_draw" (.cons (.var 4) (.cons (.kc (.int 3)) .nil))) (.kc (.int 0)))
 (.cons (.asg 3 (.tup (.cons (.tup (.cons (.tup (.cons (.kc (.str "repeat")) (.cons (.bin .add (.kc (.int 1)) (.call "_law_draw" (.cons (.var 4) (.cons (.kc (.int 9)) .nil)))) (.cons (.tup (.cons (.tup (.cons (.kc (.str "start")) (.cons (.kc (.int 1)) (.cons (.kc (.str "a")) .nil)))) .nil)) .nil)))) .nil)) .nil)))
  .nil)
 .nil)
  (.cons (.ite (.cmp .eq (.call "_law_draw" (.cons (.var 4) (.cons (.kc (.int 5)) .nil))) (.kc (.int 0)))
 (.cons (.asg 3 (.bi .tuple (.cons (.lc c_law_k26_e2 [5] (.nm 5) (.rng (.cons (.kc (.int 7)) .nil)) .no) .nil)))
  .nil)
 .nil)
  (.cons (.asg 6 (.call "_law_put" (.cons (.var 3) (.cons (.var 2) .nil))))
  (.cons (.ite (.lor (.cons (.cmp .gt (.bi .len (.cons (.var 6) .nil)) (.kc (.int 8))) (.cons (.cmp .gt (.bi .max (.cons (.lc c_law_k26_e1 [5] (.nm 5) (.tup (.var 6)) .no) .nil)) (.kc (.int 600))) .nil)))
 (.cons (.asg 6 (.kc .non))
  .nil)
 .nil)
  (.cons (.ite (.lnot (.call "_law_same" (.cons (.call "_law_told" (.cons (.var 3) (.cons (.var 2) .nil))) (.cons (.tup (.cons (.ife (.cmp .ntN (.var 6) (.kc .non)) (.kc (.str "told")) (.kc (.str "refused"))) (.cons (.var 6) .nil))) .nil))))
 (.cons (.ret (.kc (.bl false)))
  .nil)
 .nil)
  .nil))))))))
def c_law_k26 : Ss := (.cons (.for_ (.nm 1) (.rng (.cons (.kc (.int 3)) .nil)) c_law_k26_b3)
  (.cons (.ret (.kc (.bl true)))
  .nil))
def c_count_in_b1 : Ss := (.cons (.ite (.isi (.var 3) .tup)
 (.cons (.asg 1 (.bin .add (.var 1) (.call "count_in" (.cons (.var 3) .nil))))
  .nil)
 .nil)
  .nil)
def c_count_in_b2 : Ss := (.cons (.asg 1 (.bin .add (.var 1) (.kc (.int 1))))
  (.cons (.for_ (.nm 3) (.tup (.sl (.var 2) (.kc (.int 1)) .no)) c_count_in_b1)
  .nil))
def c_count_in : Ss := (.cons (.asg 1 (.kc (.int 0)))
  (.cons (.for_ (.nm 2) (.tup (.var 0)) c_count_in_b2)
  (.cons (.ret (.var 1))
  .nil)))
def c_with_statement_b1 : Ss := (.cons (.ite (.isi (.ix (.var 5) (.var 6)) .tup)
 (.cons (.asg 7 (.call "count_in" (.cons (.ix (.var 5) (.var 6)) .nil)))
  (.cons (.ite (.land (.cons (.cmp .le (.kc (.int 0)) (.var 1)) (.cons (.cmp .lt (.var 1) (.var 7)) .nil)))
 (.cons (.asi (.var 5) (.var 6) (.call "with_statement" (.cons (.ix (.var 5) (.var 6)) (.cons (.var 1) (.cons (.var 2) .nil)))))
  .nil)
 .nil)
  (.cons (.asg 1 (.bin .sub (.var 1) (.var 7)))
  .nil)))
 .nil)
  .nil)
def c_with_statement_b2 : Ss := (.cons (.ite (.cmp .eq (.var 1) (.kc (.int 0)))
 (.cons (.ex (.bm (.var 3) .append (.cons (.var 2) .nil)))
  .nil)
 .nil)
  (.cons (.asg 1 (.bin .sub (.var 1) (.kc (.int 1))))
  (.cons (.asg 5 (.bi .list (.cons (.var 4) .nil)))
  (.cons (.for_ (.nm 6) (.rng (.cons (.kc (.int 1)) (.cons (.bi .len (.cons (.var 5) .nil)) .nil))) c_with_statement_b1)
  (.cons (.ex (.bm (.var 3) .append (.cons (.bi .tuple (.cons (.var 5) .nil)) .nil)))
  .nil)))))
def c_with_statement : Ss := (.cons (.asg 3 (.lst .nil))
  (.cons (.for_ (.nm 4) (.tup (.var 0)) c_with_statement_b2)
  (.cons (.ite (.cmp .eq (.var 1) (.kc (.int 0)))
 (.cons (.ex (.bm (.var 3) .append (.cons (.var 2) .nil)))
  .nil)
 .nil)
  (.cons (.ret (.bi .tuple (.cons (.var 3) .nil)))
  .nil))))
def c_put_pauses : Ss := (.cons (.asg 4 (.bi .list (.cons (.var 0) .nil)))
  (.cons (.asi (.var 4) (.var 1) (.call "with_statement" (.cons (.ix (.var 0) (.var 1)) (.cons (.var 2) (.cons (.tup (.cons (.kc (.str "repeat")) (.cons (.var 3) (.cons (.tup (.cons (.tup (.cons (.kc (.str "pause")) .nil)) .nil)) .nil)))) .nil)))))
  (.cons (.ret (.bi .tuple (.cons (.var 4) .nil)))
  .nil)))
def c_slack_b1 : Ss := (.cons (.ite (.cmp .ne (.call "words_said" (.cons (.call "put_pauses" (.cons (.var 0) (.cons (.var 1) (.cons (.var 2) (.cons (.var 5) .nil))))) .nil)) (.var 4))
 (.cons (.ret (.bin .sub (.var 5) (.kc (.int 1))))
  .nil)
 .nil)
  .nil)
def c_slack : Ss := (.cons (.ex (.call "check_place" (.cons (.var 0) (.cons (.var 1) (.cons (.var 2) .nil)))))
  (.cons (.asg 4 (.call "words_said" (.cons (.var 0) .nil)))
  (.cons (.for_ (.nm 5) (.rng (.cons (.kc (.int 1)) (.cons (.bin .add (.var 3) (.kc (.int 1))) .nil))) c_slack_b1)
  (.cons (.ret (.var 3))
  .nil))))
def c_law_paused_b1 : Ss := (.cons (.ite (.isi (.ix (.var 5) (.var 6)) .tup)
 (.cons (.asg 7 (.call "_law_count" (.cons (.ix (.var 5) (.var 6)) .nil)))
  (.cons (.ite (.land (.cons (.cmp .le (.kc (.int 0)) (.var 1)) (.cons (.cmp .lt (.var 1) (.var 7)) .nil)))
 (.cons (.asi (.var 5) (.var 6) (.call "_law_paused" (.cons (.ix (.var 5) (.var 6)) (.cons (.var 1) (.cons (.var 2) .nil)))))
  .nil)
 .nil)
  (.cons (.asg 1 (.bin .sub (.var 1) (.var 7)))
  .nil)))
 .nil)
  .nil)
def c_law_paused_b2 : Ss := (.cons (.ite (.cmp .eq (.var 1) (.kc (.int 0)))
 (.cons (.ex (.bm (.var 3) .append (.cons (.var 2) .nil)))
  .nil)
 .nil)
  (.cons (.asg 1 (.bin .sub (.var 1) (.kc (.int 1))))
  (.cons (.asg 5 (.bi .list (.cons (.var 4) .nil)))
  (.cons (.for_ (.nm 6) (.rng (.cons (.kc (.int 1)) (.cons (.bi .len (.cons (.var 5) .nil)) .nil))) c_law_paused_b1)
  (.cons (.ex (.bm (.var 3) .append (.cons (.bi .tuple (.cons (.var 5) .nil)) .nil)))
  .nil)))))
def c_law_paused : Ss := (.cons (.asg 3 (.lst .nil))
  (.cons (.for_ (.nm 4) (.tup (.var 0)) c_law_paused_b2)
  (.cons (.ite (.cmp .eq (.var 1) (.kc (.int 0)))
 (.cons (.ex (.bm (.var 3) .append (.cons (.var 2) .nil)))
  .nil)
 .nil)
  (.cons (.ret (.bi .tuple (.cons (.var 3) .nil)))
  .nil))))
def c_law_with_pause : Ss := (.cons (.asg 4 (.tup (.cons (.kc (.str "repeat")) (.cons (.var 3) (.cons (.tup (.cons (.tup (.cons (.kc (.str "pause")) .nil)) .nil)) .nil)))))
  (.cons (.ret (.bin .add (.bin .add (.sl (.var 0) .no (.var 1)) (.tup (.cons (.call "_law_paused" (.cons (.ix (.var 0) (.var 1)) (.cons (.var 2) (.cons (.var 4) .nil)))) .nil))) (.sl (.var 0) (.bin .add (.var 1) (.kc (.int 1))) .no)))
  .nil))
def c_law_k30_b1 : Ss := (.cons (.ite (.land (.cons (.cmp .eq (.var 9) (.bin .sub (.var 10) (.kc (.int 1)))) (.cons (.cmp .eq (.call "_law_words" (.cons (.call "_law_with_pause" (.cons (.var 1) (.cons (.var 5) (.cons (.var 6) (.cons (.var 10) .nil))))) .nil)) (.var 3)) .nil)))
 (.cons (.asg 9 (.var 10))
  .nil)
 .nil)
  .nil)
def c_law_k30_b2 : Ss := (.cons (.asg 5 (.call "_law_draw" (.cons (.var 2) (.cons (.bi .len (.cons (.var 1) .nil)) .nil))))
  (.cons (.asg 6 (.call "_law_draw" (.cons (.var 2) (.cons (.bin .add (.call "_law_count" (.cons (.ix (.var 1) (.var 5)) .nil)) (.kc (.int 1))) .nil))))
  (.cons (.asg 7 (.call "_law_draw" (.cons (.var 2) (.cons (.kc (.int 13)) .nil))))
  (.cons (.ite (.cmp .eq (.call "_law_draw" (.cons (.var 2) (.cons (.kc (.int 8)) .nil))) (.kc (.int 0)))
 (.cons (.asg 6 (.bin .add (.bin .add (.call "_law_count" (.cons (.ix (.var 1) (.var 5)) .nil)) (.kc (.int 1))) (.call "_law_draw" (.cons (.var 2) (.cons (.kc (.int 2)) .nil)))))
  .nil)
 .nil)
  (.cons (.ite (.cmp .eq (.call "_law_draw" (.cons (.var 2) (.cons (.kc (.int 10)) .nil))) (.kc (.int 0)))
 (.cons (.asg 5 (.ix (.tup (.cons (.neg (.kc (.int 1))) (.cons (.bi .len (.cons (.var 1) .nil)) .nil))) (.call "_law_draw" (.cons (.var 2) (.cons (.kc (.int 2)) .nil)))))
  .nil)
 .nil)
  (.cons (.asg 8 (.tup (.cons (.kc (.str "refused")) (.cons (.kc (.int 0)) .nil))))
  (.cons (.ite (.land (.cons (.cmp .le (.kc (.int 0)) (.var 5)) (.cons (.cmp .lt (.var 5) (.bi .len (.cons (.var 1) .nil))) (.cons (.cmp .le (.var 6) (.call "_law_count" (.cons (.ix (.var 1) (.var 5)) .nil))) .nil))))
 (.cons (.asg 9 (.kc (.int 0)))
  (.cons (.for_ (.nm 10) (.rng (.cons (.kc (.int 1)) (.cons (.bin .add (.var 7) (.kc (.int 1))) .nil))) c_law_k30_b1)
  (.cons (.asg 8 (.tup (.cons (.kc (.str "told")) (.cons (.var 9) .nil))))
  .nil)))
 .nil)
  (.cons (.ite (.lnot (.call "_law_same" (.cons (.call "_law_told" (.cons (.var 1) (.cons (.var 5) (.cons (.var 6) (.cons (.var 7) .nil))))) (.cons (.var 8) .nil))))
 (.cons (.ret (.kc (.bl false)))
  .nil)
 .nil)
  .nil))))))))
def c_law_k30 : Ss := (.cons (.asg 1 (.call "_law_program" (.cons (.var 0) (.cons (.kc (.int 0)) (.cons (.kc (.int 4)) (.cons (.kc (.int 5)) (.cons (.kc (.int 120)) .nil)))))))
  (.cons (.asg 2 (.call "_law_box" (.cons (.var 0) (.cons (.kc (.int 6)) .nil))))
  (.cons (.asg 3 (.call "_law_words" (.cons (.var 1) .nil)))
  (.cons (.for_ (.nm 4) (.rng (.cons (.kc (.int 3)) .nil)) c_law_k30_b2)
  (.cons (.ret (.kc (.bl true)))
  .nil)))))
def c_rows_of_b1 : Ss := (.cons (.ex (.bm (.var 2) .append (.cons (.bin .add (.tup (.cons (.bin .add (.ix (.var 0) (.var 3)) (.tup (.cons (.var 4) .nil))) .nil)) (.var 5)) .nil)))
  .nil)
def c_rows_of_b2 : Ss := (.cons (.for_ (.nm 5) (.lst (.call "rows_of" (.cons (.sl (.var 0) (.bin .add (.var 3) (.kc (.int 1))) .no) (.cons (.bin .sub (.var 1) (.var 4)) .nil)))) c_rows_of_b1)
  .nil)
def c_rows_of_b3 : Ss := (.cons (.for_ (.nm 4) (.rng (.cons (.kc (.int 1)) (.cons (.bin .add (.var 1) (.kc (.int 1))) .nil))) c_rows_of_b2)
  .nil)
def c_rows_of : Ss := (.cons (.ite (.cmp .eq (.var 1) (.kc (.int 0)))
 (.cons (.ret (.lst (.cons (.tup .nil) .nil)))
  .nil)
 .nil)
  (.cons (.asg 2 (.lst .nil))
  (.cons (.for_ (.nm 3) (.rng (.cons (.bi .len (.cons (.var 0) .nil)) .nil)) c_rows_of_b3)
  (.cons (.ret (.call "sorted" (.cons (.var 2) .nil)))
  .nil))))
def c_with_rows_b1 : Ss := (.cons (.asg 2 (.call "put_pauses" (.cons (.var 2) (.cons (.var 3) (.cons (.var 4) (.cons (.var 5) .nil))))))
  .nil)
def c_with_rows : Ss := (.cons (.asg 2 (.var 0))
  (.cons (.for_ (.tp [3, 4, 5]) (.revt (.var 1)) c_with_rows_b1)
  (.cons (.ret (.var 2))
  .nil)))
def c_fewest_pauses_b1 : Ss := (.cons (.ite (.cmp .eq (.call "profile_of" (.cons (.call "with_rows" (.cons (.var 0) (.cons (.var 8) .nil))) .nil)) (.var 3))
 (.cons (.ret (.var 8))
  .nil)
 .nil)
  .nil)
def c_fewest_pauses_b2 : Ss := (.cons (.for_ (.nm 8) (.lst (.call "rows_of" (.cons (.var 4) (.cons (.var 7) .nil)))) c_fewest_pauses_b1)
  .nil)
def c_fewest_pauses_e3 : E := (.tup (.cons (.var 5) (.cons (.var 6) .nil)))
def c_fewest_pauses_b4 : Ss := (.cons (.asg 4 (.bin .add (.var 4) (.lc c_fewest_pauses_e3 [6] (.nm 6) (.rng (.cons (.bin .add (.call "count_in" (.cons (.ix (.var 0) (.var 5)) .nil)) (.kc (.int 1))) .nil)) .no)))
  .nil)
def c_fewest_pauses : Ss := (.cons (.ite (.cmp .gt (.var 2) (.gl "MOST_PAUSES"))
 (.cons (.raise "TooMuch" .nil)
  .nil)
 .nil)
  (.cons (.asg 3 (.call "profile_of" (.cons (.var 1) .nil)))
  (.cons (.asg 4 (.lst .nil))
  (.cons (.for_ (.nm 5) (.rng (.cons (.bi .len (.cons (.var 0) .nil)) .nil)) c_fewest_pauses_b4)
  (.cons (.for_ (.nm 7) (.rng (.cons (.bin .add (.var 2) (.kc (.int 1))) .nil)) c_fewest_pauses_b2)
  (.cons (.ret (.kc .non))
  .nil))))))
def c_law_rows_b1 : Ss := (.cons (.ex (.bm (.var 2) .append (.cons (.bin .add (.tup (.cons (.bin .add (.ix (.var 0) (.var 3)) (.tup (.cons (.var 4) .nil))) .nil)) (.var 5)) .nil)))
  .nil)
def c_law_rows_b2 : Ss := (.cons (.for_ (.nm 5) (.lst (.call "_law_rows" (.cons (.sl (.var 0) (.bin .add (.var 3) (.kc (.int 1))) .no) (.cons (.bin .sub (.var 1) (.var 4)) .nil)))) c_law_rows_b1)
  .nil)
def c_law_rows_b3 : Ss := (.cons (.for_ (.nm 4) (.rng (.cons (.kc (.int 1)) (.cons (.bin .add (.var 1) (.kc (.int 1))) .nil))) c_law_rows_b2)
  .nil)
def c_law_rows : Ss := (.cons (.ite (.cmp .eq (.var 1) (.kc (.int 0)))
 (.cons (.ret (.lst (.cons (.tup .nil) .nil)))
  .nil)
 .nil)
  (.cons (.asg 2 (.lst .nil))
  (.cons (.for_ (.nm 3) (.rng (.cons (.bi .len (.cons (.var 0) .nil)) .nil)) c_law_rows_b3)
  (.cons (.ret (.call "sorted" (.cons (.var 2) .nil)))
  .nil))))
def c_law_k31_b1 : Ss := (.cons (.ite (.land (.cons (.cmp .isN (.var 12) (.kc .non)) (.cons (.cmp .eq (.call "_law_profile" (.cons (.call "_law_with" (.cons (.var 1) (.cons (.var 14) .nil))) .nil)) (.var 11)) .nil)))
 (.cons (.asg 12 (.var 14))
  .nil)
 .nil)
  .nil)
def c_law_k31_b2 : Ss := (.cons (.for_ (.nm 14) (.lst (.call "_law_rows" (.cons (.var 3) (.cons (.var 13) .nil)))) c_law_k31_b1)
  .nil)
def c_law_k31_b3 : Ss := (.cons (.asg 4 (.call "_law_draw" (.cons (.var 2) (.cons (.bi .len (.cons (.var 6) .nil)) .nil))))
  (.cons (.asg 8 (.call "_law_paused" (.cons (.ix (.var 6) (.var 4)) (.cons (.call "_law_draw" (.cons (.var 2) (.cons (.bin .add (.call "_law_count" (.cons (.ix (.var 6) (.var 4)) .nil)) (.kc (.int 1))) .nil))) (.cons (.tup (.cons (.kc (.str "pause")) .nil)) .nil)))))
  (.cons (.asg 6 (.bin .add (.bin .add (.sl (.var 6) .no (.var 4)) (.tup (.cons (.var 8) .nil))) (.sl (.var 6) (.bin .add (.var 4) (.kc (.int 1))) .no)))
  .nil)))
def c_law_k31_e4 : E := (.tup (.cons (.var 4) (.cons (.var 5) .nil)))
def c_law_k31_b5 : Ss := (.cons (.asg 3 (.bin .add (.var 3) (.lc c_law_k31_e4 [5] (.nm 5) (.rng (.cons (.bin .add (.call "_law_count" (.cons (.ix (.var 1) (.var 4)) .nil)) (.kc (.int 1))) .nil)) .no)))
  .nil)
def c_law_k31 : Ss := (.cons (.asg 1 (.call "_law_program" (.cons (.var 0) (.cons (.kc (.int 0)) (.cons (.kc (.int 2)) (.cons (.kc (.int 3)) (.cons (.kc (.int 30)) .nil)))))))
  (.cons (.asg 2 (.call "_law_box" (.cons (.var 0) (.cons (.kc (.int 6)) .nil))))
  (.cons (.asg 3 (.lst .nil))
  (.cons (.for_ (.nm 4) (.rng (.cons (.bi .len (.cons (.var 1) .nil)) .nil)) c_law_k31_b5)
  (.cons (.ite (.cmp .gt (.bi .len (.cons (.var 3) .nil)) (.kc (.int 12)))
 (.cons (.ret (.kc (.bl true)))
  .nil)
 .nil)
  (.cons (.asg 6 (.var 1))
  (.cons (.for_ (.nm 7) (.rng (.cons (.call "_law_draw" (.cons (.var 2) (.cons (.kc (.int 3)) .nil))) .nil)) c_law_k31_b3)
  (.cons (.ite (.cmp .eq (.call "_law_draw" (.cons (.var 2) (.cons (.kc (.int 5)) .nil))) (.kc (.int 0)))
 (.cons (.asg 6 (.call "_law_program" (.cons (.var 0) (.cons (.kc (.int 7)) (.cons (.kc (.int 2)) (.cons (.kc (.int 3)) (.cons (.kc (.int 30)) .nil)))))))
  .nil)
 .nil)
  (.cons (.asg 9 (.call "_law_draw" (.cons (.var 2) (.cons (.kc (.int 5)) .nil))))
  (.cons (.asg 10 (.tup (.cons (.kc (.str "refused")) (.cons (.kc .non) .nil))))
  (.cons (.ite (.cmp .le (.var 9) (.kc (.int 3)))
 (.cons (.asg 11 (.call "_law_profile" (.cons (.var 6) .nil)))
  (.cons (.asg 12 (.kc .non))
  (.cons (.for_ (.nm 13) (.rng (.cons (.bin .add (.var 9) (.kc (.int 1))) .nil)) c_law_k31_b2)
  (.cons (.asg 10 (.tup (.cons (.kc (.str "told")) (.cons (.var 12) .nil))))
  .nil))))
 .nil)
  (.cons (.ret (.call "_law_same" (.cons (.call "_law_told" (.cons (.var 1) (.cons (.var 6) (.cons (.var 9) .nil)))) (.cons (.var 10) .nil))))
  .nil))))))))))))
def c_with_pauses : Ss := (.cons (.ex (.call "check_place" (.cons (.var 0) (.cons (.var 1) (.cons (.var 2) .nil)))))
  (.cons (.asg 4 (.call "put_pauses" (.cons (.var 0) (.cons (.var 1) (.cons (.var 2) (.cons (.var 3) .nil))))))
  (.cons (.ex (.call "check_program" (.cons (.var 4) .nil)))
  (.cons (.ret (.var 4))
  .nil))))
def c_law_due_e1 : E := (.bin .add (.call "_law_size" (.cons (.var 4) (.cons (.var 5) .nil))) (.kc (.int 1)))
def c_law_due : Ss := (.cons (.ite (.lor (.cons (.cmp .lt (.var 1) (.kc (.int 0))) (.cons (.cmp .ge (.var 1) (.bi .len (.cons (.var 0) .nil))) (.cons (.cmp .lt (.var 2) (.kc (.int 0))) (.cons (.cmp .gt (.var 2) (.call "_law_count" (.cons (.ix (.var 0) (.var 1)) .nil))) .nil)))))
 (.cons (.ret (.kc (.str "place")))
  .nil)
 .nil)
  (.cons (.asg 4 (.call "_law_with_pause" (.cons (.var 0) (.cons (.var 1) (.cons (.var 2) (.cons (.var 3) .nil))))))
  (.cons (.ite (.lor (.cons (.cmp .gt (.bi .max (.cons (.lc c_law_due_e1 [5] (.nm 5) (.tup (.var 4)) .no) .nil)) (.kc (.int 600))) (.cons (.cmp .gt (.call "_law_depth" (.cons (.ix (.var 4) (.var 1)) .nil)) (.kc (.int 2))) .nil)))
 (.cons (.ret (.kc (.str "program")))
  .nil)
 .nil)
  (.cons (.ret (.var 4))
  .nil))))
def c_law_depth_b1 : Ss := (.cons (.ite (.isi (.var 3) .tup)
 (.cons (.asg 1 (.bi .max (.cons (.var 1) (.cons (.bin .add (.kc (.int 1)) (.call "_law_depth" (.cons (.var 3) .nil))) .nil))))
  .nil)
 .nil)
  .nil)
def c_law_depth_b2 : Ss := (.cons (.for_ (.nm 3) (.tup (.sl (.var 2) (.kc (.int 1)) .no)) c_law_depth_b1)
  .nil)
def c_law_depth : Ss := (.cons (.asg 1 (.kc (.int 0)))
  (.cons (.for_ (.nm 2) (.tup (.var 0)) c_law_depth_b2)
  (.cons (.ret (.var 1))
  .nil)))
def c_law_k32_b1 : Ss := (.cons (.asg 4 (.bin .sub (.call "_law_draw" (.cons (.var 2) (.cons (.bin .add (.bi .len (.cons (.var 1) .nil)) (.kc (.int 1))) .nil))) (.call "_law_draw" (.cons (.var 2) (.cons (.kc (.int 2)) .nil)))))
  (.cons (.asg 5 (.call "_law_count" (.cons (.ix (.var 1) (.bi .min (.cons (.bi .max (.cons (.var 4) (.cons (.kc (.int 0)) .nil))) (.cons (.bin .sub (.bi .len (.cons (.var 1) .nil)) (.kc (.int 1))) .nil)))) .nil)))
  (.cons (.asg 6 (.bin .sub (.call "_law_draw" (.cons (.var 2) (.cons (.bin .add (.var 5) (.kc (.int 3))) .nil))) (.call "_law_draw" (.cons (.var 2) (.cons (.kc (.int 2)) .nil)))))
  (.cons (.asg 7 (.ix (.tup (.cons (.kc (.int 0)) (.cons (.kc (.int 1)) (.cons (.kc (.int 2)) (.cons (.call "_law_draw" (.cons (.var 2) (.cons (.kc (.int 12)) .nil))) (.cons (.kc (.int 99)) (.cons (.kc (.int 100)) .nil))))))) (.call "_law_draw" (.cons (.var 2) (.cons (.kc (.int 6)) .nil)))))
  (.cons (.asg 8 (.call "_law_due" (.cons (.var 1) (.cons (.var 4) (.cons (.var 6) (.cons (.var 7) .nil))))))
  (.cons (.ite (.lnot (.call "_law_same" (.cons (.call "_law_told" (.cons (.var 1) (.cons (.var 4) (.cons (.var 6) (.cons (.var 7) .nil))))) (.cons (.var 8) .nil))))
 (.cons (.ret (.kc (.bl false)))
  .nil)
 .nil)
  .nil))))))
def c_law_k32 : Ss := (.cons (.asg 1 (.call "_law_program" (.cons (.var 0) (.cons (.kc (.int 0)) (.cons (.kc (.int 4)) (.cons (.kc (.int 5)) (.cons (.kc (.int 300)) .nil)))))))
  (.cons (.asg 2 (.call "_law_box" (.cons (.var 0) (.cons (.kc (.int 6)) .nil))))
  (.cons (.for_ (.nm 3) (.rng (.cons (.kc (.int 5)) .nil)) c_law_k32_b1)
  (.cons (.ret (.kc (.bl true)))
  .nil))))
def c_law_start_outside : Ss := (.cons (.ret (.call "_law_start_task" (.cons (.var 0) (.cons (.var 1) .nil))))
  .nil)
def c_law_frozen_e1 : E := (.lst (.cons (.bi .list (.cons (.ix (.var 2) (.kc (.int 0))) .nil)) (.cons (.bi .dict (.cons (.ix (.var 2) (.kc (.int 1))) .nil)) (.cons (.ix (.var 2) (.kc (.int 2))) (.cons (.ix (.var 2) (.kc (.int 3))) (.cons (.bi .list (.cons (.ix (.var 2) (.kc (.int 4))) .nil)) .nil))))))
def c_law_frozen : Ss := (.cons (.asg 1 (.lc c_law_frozen_e1 [2] (.nm 2) (.lst (.dx (.var 0) (.kc (.str "tasks")))) .no))
  (.cons (.ret (.dct ["program", "tasks", "queue", "said", "tick"] (.cons (.dx (.var 0) (.kc (.str "program"))) (.cons (.var 1) (.cons (.bi .list (.cons (.dx (.var 0) (.kc (.str "queue"))) .nil)) (.cons (.bi .list (.cons (.dx (.var 0) (.kc (.str "said"))) .nil)) (.cons (.dx (.var 0) (.kc (.str "tick"))) .nil)))))))
  .nil))
def c_law_shows_e1 : E := (.call "_law_same" (.cons (.meth (.var 0) "outcome" (.cons (.var 2) .nil)) (.cons (.ix (.ix (.dx (.var 1) (.kc (.str "tasks"))) (.var 2)) (.kc (.int 2))) .nil)))
def c_law_shows : Ss := (.cons (.ite (.lor (.cons (.lnot (.call "_law_same" (.cons (.meth (.var 0) "tick" .nil) (.cons (.dx (.var 1) (.kc (.str "tick"))) .nil)))) (.cons (.lnot (.call "_law_same" (.cons (.meth (.var 0) "jobs" .nil) (.cons (.bi .len (.cons (.dx (.var 1) (.kc (.str "queue"))) .nil)) .nil)))) .nil)))
 (.cons (.ret (.kc (.bl false)))
  .nil)
 .nil)
  (.cons (.ite (.lor (.cons (.lnot (.call "_law_same" (.cons (.meth (.var 0) "tasks" .nil) (.cons (.bi .len (.cons (.dx (.var 1) (.kc (.str "tasks"))) .nil)) .nil)))) (.cons (.lnot (.call "_law_same" (.cons (.meth (.var 0) "entries" .nil) (.cons (.bi .tuple (.cons (.dx (.var 1) (.kc (.str "said"))) .nil)) .nil)))) .nil)))
 (.cons (.ret (.kc (.bl false)))
  .nil)
 .nil)
  (.cons (.ret (.bi .all (.cons (.lc c_law_shows_e1 [2] (.nm 2) (.rng (.cons (.bi .len (.cons (.dx (.var 1) (.kc (.str "tasks"))) .nil)) .nil)) .no) .nil)))
  .nil)))
def c_law_jobs_b1 : Ss := (.cons (.ex (.call "_law_job" (.cons (.var 0) .nil)))
  (.cons (.asg 2 (.bin .add (.var 2) (.kc (.int 1))))
  .nil))
def c_law_jobs : Ss := (.cons (.asg 2 (.kc (.int 0)))
  (.cons (.asg 3 (.kc (.int 0)))
  (.cons (.ite (.cmp .gt (.bi .len (.cons (.dx (.var 0) (.kc (.str "queue"))) .nil)) (.kc (.int 0)))
 (.cons (.asg 3 (.ix (.ix (.dx (.var 0) (.kc (.str "queue"))) (.kc (.int 0))) (.kc (.int 0))))
  .nil)
 .nil)
  (.cons (.whl (.land (.cons (.cmp .gt (.bi .len (.cons (.dx (.var 0) (.kc (.str "queue"))) .nil)) (.kc (.int 0))) (.cons (.lor (.cons (.cmp .eq (.var 1) (.kc (.int 2))) (.cons (.land (.cons (.cmp .eq (.var 1) (.kc (.int 0))) (.cons (.cmp .lt (.var 2) (.kc (.int 1))) .nil))) (.cons (.land (.cons (.cmp .eq (.var 1) (.kc (.int 1))) (.cons (.cmp .eq (.ix (.ix (.dx (.var 0) (.kc (.str "queue"))) (.kc (.int 0))) (.kc (.int 0))) (.var 3)) .nil))) .nil)))) .nil))) c_law_jobs_b1)
  (.cons (.ret (.var 2))
  .nil)))))
def c_law_begun : Ss := (.cons (.try_ (.cons (.ret (.tup (.cons (.kc (.str "told")) (.cons (.meth (.var 0) "start" (.cons (.var 1) .nil)) .nil))))
  .nil) "TickError" 2
 (.cons (.ite (.land (.cons (.isx (.var 2) "NoSuchPlace") (.cons (.lnot (.isx (.var 2) "TooManyStarts")) .nil)))
 (.cons (.ret (.tup (.cons (.kc (.str "place")) (.cons (.kc .non) .nil))))
  .nil)
 .nil)
  (.cons (.ret (.tup (.cons (.ife (.isx (.var 2) "TooManyStarts") (.kc (.str "many")) (.kc (.str "else"))) (.cons (.kc .non) .nil))))
  .nil)))
  .nil)
def c_law_k50_b1 : Ss := (.cons (.ite (.lor (.cons (.lnot (.call "_law_loop_deed" (.cons (.call "_law_box" (.cons (.var 0) (.cons (.bin .add (.kc (.int 5)) (.var 4)) .nil))) (.cons (.var 2) (.cons (.var 3) .nil))))) (.cons (.lnot (.call "_law_shows" (.cons (.var 2) (.cons (.ix (.var 3) (.kc (.int 0))) .nil)))) .nil)))
 (.cons (.ret (.kc (.bl false)))
  .nil)
 .nil)
  .nil)
def c_law_k50 : Ss := (.cons (.asg 1 (.call "_law_program" (.cons (.var 0) (.cons (.kc (.int 0)) (.cons (.kc (.int 4)) (.cons (.kc (.int 5)) (.cons (.kc (.int 120)) .nil)))))))
  (.cons (.asg 2 (.make "Loop" (.cons (.var 1) .nil)))
  (.cons (.asg 3 (.lst (.cons (.call "_law_begin" (.cons (.var 1) .nil)) (.cons (.kc (.int 0)) (.cons (.lst .nil) .nil)))))
  (.cons (.for_ (.nm 4) (.rng (.cons (.bi .min (.cons (.bi .max (.cons (.bin .sub (.bi .len (.cons (.var 0) .nil)) (.kc (.int 5))) (.cons (.kc (.int 3)) .nil))) (.cons (.kc (.int 14)) .nil))) .nil)) c_law_k50_b1)
  (.cons (.ret (.kc (.bl true)))
  .nil)))))
def c_law_is_refused : Ss := (.cons (.try_ (.cons (.ex (.meth (.var 0) "outcome" (.cons (.var 1) .nil)))
  .nil) "TickError" 2
 (.cons (.ret (.land (.cons (.isx (.var 2) "NoSuchTask") (.cons (.isx (.var 2) "ValueError") (.cons (.lnot (.isx (.var 2) "NoSuchPlace")) .nil)))))
  .nil))
  (.cons (.ret (.kc (.bl false)))
  .nil))
def c_law_k51_b1 : Ss := (.cons (.asg 12 (.cmp .gt (.bi .len (.cons (.ix (.var 11) (.kc (.int 2))) .nil)) (.kc (.int 0))))
  (.cons (.ite (.lnot (.call "_law_same" (.cons (.meth (.var 10) "undo" .nil) (.cons (.var 12) .nil))))
 (.cons (.ret (.kc (.bl false)))
  .nil)
 .nil)
  (.cons (.asi (.var 11) (.kc (.int 2)) (.sl (.ix (.var 11) (.kc (.int 2))) .no (.neg (.kc (.int 1)))))
  .nil)))
def c_law_k51_b2 : Ss := (.cons (.for_ (.tp [10, 11]) (.tup (.tup (.cons (.tup (.cons (.var 2) (.cons (.var 3) .nil))) (.cons (.tup (.cons (.var 5) (.cons (.var 6) .nil))) .nil)))) c_law_k51_b1)
  .nil)
def c_law_k51_b3 : Ss := (.cons (.asg 8 (.call "_law_box" (.cons (.var 0) (.cons (.bin .add (.kc (.int 8)) (.var 4)) .nil))))
  (.cons (.asg 9 (.ife (.cmp .eq (.call "_law_draw" (.cons (.var 8) (.cons (.kc (.int 2)) .nil))) (.kc (.int 0))) (.call "_law_loop_deed" (.cons (.var 8) (.cons (.var 2) (.cons (.var 3) .nil)))) (.call "_law_loop_deed" (.cons (.var 8) (.cons (.var 5) (.cons (.var 6) .nil))))))
  (.cons (.ite (.lor (.cons (.lnot (.var 9)) (.cons (.lnot (.call "_law_shows" (.cons (.var 2) (.cons (.ix (.var 3) (.kc (.int 0))) .nil)))) (.cons (.lnot (.call "_law_shows" (.cons (.var 5) (.cons (.ix (.var 6) (.kc (.int 0))) .nil)))) .nil))))
 (.cons (.ret (.kc (.bl false)))
  .nil)
 .nil)
  .nil)))
def c_law_k51_e4 : E := (.tup (.cons (.call "_law_frozen" (.cons (.ix (.var 7) (.kc (.int 0))) .nil)) (.cons (.ix (.var 7) (.kc (.int 1))) .nil)))
def c_law_k51_b5 : Ss := (.cons (.ite (.lnot (.call "_law_loop_deed" (.cons (.call "_law_box" (.cons (.var 0) (.cons (.bin .add (.kc (.int 4)) (.var 4)) .nil))) (.cons (.var 2) (.cons (.var 3) .nil)))))
 (.cons (.ret (.kc (.bl false)))
  .nil)
 .nil)
  .nil)
def c_law_k51 : Ss := (.cons (.asg 1 (.call "_law_program" (.cons (.var 0) (.cons (.kc (.int 0)) (.cons (.kc (.int 3)) (.cons (.kc (.int 5)) (.cons (.kc (.int 80)) .nil)))))))
  (.cons (.asg 2 (.make "Loop" (.cons (.var 1) .nil)))
  (.cons (.asg 3 (.lst (.cons (.call "_law_begin" (.cons (.var 1) .nil)) (.cons (.kc (.int 0)) (.cons (.lst .nil) .nil)))))
  (.cons (.for_ (.nm 4) (.rng (.cons (.kc (.int 4)) .nil)) c_law_k51_b5)
  (.cons (.asg 5 (.meth (.var 2) "fork" .nil))
  (.cons (.asg 6 (.lst (.cons (.call "_law_frozen" (.cons (.ix (.var 3) (.kc (.int 0))) .nil)) (.cons (.ix (.var 3) (.kc (.int 1))) (.cons (.lc c_law_k51_e4 [7] (.nm 7) (.lst (.ix (.var 3) (.kc (.int 2)))) .no) .nil)))))
  (.cons (.for_ (.nm 4) (.rng (.cons (.bi .min (.cons (.bi .max (.cons (.bin .sub (.bi .len (.cons (.var 0) .nil)) (.kc (.int 8))) (.cons (.kc (.int 2)) .nil))) (.cons (.kc (.int 8)) .nil))) .nil)) c_law_k51_b3)
  (.cons (.ite (.lor (.cons (.lnot (.call "_law_is_refused" (.cons (.var 2) (.cons (.neg (.kc (.int 1))) .nil)))) (.cons (.lnot (.call "_law_is_refused" (.cons (.var 5) (.cons (.bi .len (.cons (.dx (.ix (.var 6) (.kc (.int 0))) (.kc (.str "tasks"))) .nil)) .nil)))) .nil)))
 (.cons (.ret (.kc (.bl false)))
  .nil)
 .nil)
  (.cons (.whl (.lor (.cons (.cmp .gt (.bi .len (.cons (.ix (.var 3) (.kc (.int 2))) .nil)) (.kc (.int 0))) (.cons (.cmp .gt (.bi .len (.cons (.ix (.var 6) (.kc (.int 2))) .nil)) (.kc (.int 0))) .nil))) c_law_k51_b2)
  (.cons (.asg 13 (.call "_law_begin" (.cons (.var 1) .nil)))
  (.cons (.ret (.land (.cons (.call "_law_shows" (.cons (.var 2) (.cons (.var 13) .nil))) (.cons (.call "_law_shows" (.cons (.var 5) (.cons (.var 13) .nil))) (.cons (.cmp .isN (.meth (.var 2) "undo" .nil) (.kc (.bl false))) .nil)))))
  .nil)))))))))))
def c_law_k52_b1 : Ss := (.cons (.ite (.lnot (.var 8))
 (.cons (.asg 9 (.ix (.call "_law_begun" (.cons (.var 2) (.cons (.kc (.int 0)) .nil))) (.kc (.int 0))))
  (.cons (.asg 8 (.cmp .eq (.var 9) (.kc (.str "told"))))
  (.cons (.ite (.land (.cons (.lnot (.var 8)) (.cons (.lor (.cons (.cmp .ne (.var 9) (.kc (.str "many"))) (.cons (.cmp .ntN (.meth (.var 2) "undo" .nil) (.kc (.bl true))) .nil))) .nil)))
 (.cons (.ret (.kc (.bl false)))
  .nil)
 .nil)
  .nil)))
 .nil)
  .nil)
def c_law_k52_b2 : Ss := (.cons (.asg 7 (.ife (.cmp .lt (.var 5) (.kc (.int 19))) (.kc (.str "told")) (.kc (.str "many"))))
  (.cons (.ite (.cmp .ne (.ix (.call "_law_begun" (.cons (.var 2) (.cons (.call "_law_draw" (.cons (.var 6) (.cons (.bi .len (.cons (.var 1) .nil)) .nil))) .nil))) (.kc (.int 0))) (.var 7))
 (.cons (.ret (.kc (.bl false)))
  .nil)
 .nil)
  (.cons (.ite (.land (.cons (.cmp .lt (.var 5) (.kc (.int 19))) (.cons (.cmp .eq (.call "_law_draw" (.cons (.var 6) (.cons (.kc (.int 3)) .nil))) (.kc (.int 0))) .nil)))
 (.cons (.ex (.meth (.var 2) "step" .nil))
  .nil)
 .nil)
  .nil)))
def c_law_k52_e3 : E := (.meth (.var 2) "outcome" (.cons (.var 5) .nil))
def c_law_k52 : Ss := (.cons (.asg 1 (.call "_law_program" (.cons (.var 0) (.cons (.kc (.int 0)) (.cons (.kc (.int 2)) (.cons (.kc (.int 4)) (.cons (.kc (.int 40)) .nil)))))))
  (.cons (.asg 2 (.make "Loop" (.cons (.var 1) .nil)))
  (.cons (.asg 3 (.meth (.var 2) "start" (.cons (.kc (.int 0)) .nil)))
  (.cons (.ite (.lnot (.call "_law_same" (.cons (.var 3) (.cons (.kc (.int 0)) .nil))))
 (.cons (.ret (.kc (.bl false)))
  .nil)
 .nil)
  (.cons (.ex (.meth (.var 2) "finish" .nil))
  (.cons (.asg 4 (.call "run_program" (.cons (.var 1) .nil)))
  (.cons (.ite (.lor (.cons (.lnot (.call "_law_same" (.cons (.meth (.var 2) "entries" .nil) (.cons (.ix (.var 4) (.kc (.int 0))) .nil)))) (.cons (.lnot (.call "_law_same" (.cons (.meth (.var 2) "tick" .nil) (.cons (.ix (.var 4) (.kc (.int 2))) .nil)))) .nil)))
 (.cons (.ret (.kc (.bl false)))
  .nil)
 .nil)
  (.cons (.ite (.lnot (.call "_law_same" (.cons (.bi .tuple (.cons (.lc c_law_k52_e3 [5] (.nm 5) (.rng (.cons (.meth (.var 2) "tasks" .nil) .nil)) .no) .nil)) (.cons (.ix (.var 4) (.kc (.int 1))) .nil))))
 (.cons (.ret (.kc (.bl false)))
  .nil)
 .nil)
  (.cons (.asg 6 (.call "_law_box" (.cons (.var 0) (.cons (.kc (.int 3)) .nil))))
  (.cons (.for_ (.nm 5) (.rng (.cons (.kc (.int 21)) .nil)) c_law_k52_b2)
  (.cons (.ite (.lor (.cons (.cmp .ne (.ix (.call "_law_begun" (.cons (.var 2) (.cons (.neg (.kc (.int 1))) .nil))) (.kc (.int 0))) (.kc (.str "place"))) (.cons (.cmp .ne (.ix (.call "_law_begun" (.cons (.var 2) (.cons (.bi .len (.cons (.var 1) .nil)) .nil))) (.kc (.int 0))) (.kc (.str "place"))) .nil)))
 (.cons (.ret (.kc (.bl false)))
  .nil)
 .nil)
  (.cons (.asg 8 (.kc (.bl false)))
  (.cons (.for_ (.nm 5) (.rng (.cons (.kc (.int 60)) .nil)) c_law_k52_b1)
  (.cons (.ret (.land (.cons (.var 8) (.cons (.cmp .eq (.ix (.call "_law_begun" (.cons (.var 2) (.cons (.kc (.int 0)) .nil))) (.kc (.int 0))) (.kc (.str "many"))) (.cons (.cmp .eq (.ix (.call "_law_begun" (.cons (.meth (.var 2) "fork" .nil) (.cons (.kc (.int 0)) .nil))) (.kc (.int 0))) (.kc (.str "many"))) .nil)))))
  .nil))))))))))))))
def c_agreed_b1 : Ss := (.cons (.ite (.cmp .ne (.ix (.ix (.var 2) (.var 3)) (.kc (.int 2))) (.ix (.var 1) (.var 3)))
 (.cons (.ret (.var 3))
  .nil)
 .nil)
  .nil)
def c_agreed : Ss := (.cons (.asg 2 (.meth (.var 0) "entries" .nil))
  (.cons (.for_ (.nm 3) (.rng (.cons (.bi .min (.cons (.bi .len (.cons (.var 2) .nil)) (.cons (.bi .len (.cons (.var 1) .nil)) .nil))) .nil)) c_agreed_b1)
  (.cons (.ret (.bi .min (.cons (.bi .len (.cons (.var 2) .nil)) (.cons (.bi .len (.cons (.var 1) .nil)) .nil))))
  .nil)))
def c_Search__init : Ss := (.cons (.asf (.var 0) "starts" (.var 1))
  (.cons (.asf (.var 0) "words" (.var 2))
  (.cons (.asf (.var 0) "most" (.kc (.int 0)))
  .nil)))
def c_Search_can_go_on : Ss := (.cons (.asg 2 (.call "agreed" (.cons (.var 1) (.cons (.fld (.var 0) "words") .nil))))
  (.cons (.asf (.var 0) "most" (.bi .max (.cons (.fld (.var 0) "most") (.cons (.var 2) .nil))))
  (.cons (.ret (.cmp .eq (.var 2) (.bi .min (.cons (.bi .len (.cons (.meth (.var 1) "entries" .nil) .nil)) (.cons (.bi .len (.cons (.fld (.var 0) "words") .nil)) .nil)))))
  .nil)))
def c_Search_moments_b1 : Ss := (.cons (.asg 4 (.meth (.var 1) "copy" .nil))
  (.cons (.ex (.meth (.var 4) "start" (.cons (.ix (.fld (.var 0) "starts") (.var 3)) .nil)))
  (.cons (.ite (.meth (.var 0) "can_go_on" (.cons (.var 4) .nil))
 (.cons (.asg 5 (.meth (.var 0) "moments" (.cons (.var 4) (.cons (.var 2) (.cons (.bin .add (.var 3) (.kc (.int 1))) .nil)))))
  (.cons (.ite (.cmp .ntN (.var 5) (.kc .non))
 (.cons (.ret (.bin .add (.tup (.cons (.var 2) .nil)) (.var 5)))
  .nil)
 .nil)
  .nil))
 .nil)
  (.cons (.ite (.lor (.cons (.cmp .eq (.var 3) (.kc (.int 0))) (.cons (.lnot (.meth (.var 1) "step" .nil)) (.cons (.lnot (.meth (.var 0) "can_go_on" (.cons (.var 1) .nil))) .nil))))
 (.cons (.ret (.kc .non))
  .nil)
 .nil)
  (.cons (.asg 2 (.bin .add (.var 2) (.kc (.int 1))))
  .nil)))))
def c_Search_moments : Ss := (.cons (.ite (.cmp .eq (.var 3) (.bi .len (.cons (.fld (.var 0) "starts") .nil)))
 (.cons (.ret (.meth (.var 0) "ended" (.cons (.var 1) .nil)))
  .nil)
 .nil)
  (.cons (.whl (.kc (.bl true)) c_Search_moments_b1)
  .nil))
def c_Search_ended_b1 : Ss := (.cons (.ite (.cmp .eq (.fld (.var 0) "most") (.bi .len (.cons (.fld (.var 0) "words") .nil)))
 (.cons (.ret (.tup .nil))
  .nil)
 .nil)
  (.cons (.ite (.lnot (.meth (.var 1) "step" .nil))
 (.cons (.ret (.kc .non))
  .nil)
 .nil)
  .nil))
def c_Search_ended : Ss := (.cons (.whl (.meth (.var 0) "can_go_on" (.cons (.var 1) .nil)) c_Search_ended_b1)
  (.cons (.ret (.kc .non))
  .nil))
def c_said_how_e1 : E := (.cmp .le (.dx (.var 4) (.var 3)) (.gl "MOST_SIZE_logs"))
def c_said_how_e2 : E := (.land (.cons (.cmp .le (.kc (.int 0)) (.var 3)) (.cons (.cmp .lt (.var 3) (.bi .len (.cons (.var 0) .nil))) .nil)))
def c_said_how : Ss := (.cons (.ex (.call "check_program" (.cons (.var 0) .nil)))
  (.cons (.ite (.lnot (.gen true c_said_how_e2 3 (.tup (.var 1))))
 (.cons (.raise "NoSuchPlace" .nil)
  .nil)
 .nil)
  (.cons (.asg 4 (.call "body_sizes" (.cons (.var 0) .nil)))
  (.cons (.ite (.lor (.cons (.cmp .gt (.bi .len (.cons (.var 1) .nil)) (.gl "MOST_STARTS")) (.cons (.cmp .gt (.bi .len (.cons (.var 2) .nil)) (.gl "MOST_WORDS")) (.cons (.lnot (.gen true c_said_how_e1 3 (.tup (.var 1)))) .nil))))
 (.cons (.raise "TooMuch" .nil)
  .nil)
 .nil)
  (.cons (.asg 5 (.make "Search" (.cons (.var 1) (.cons (.var 2) .nil))))
  (.cons (.asg 6 (.meth (.var 5) "moments" (.cons (.make "Machine" (.cons (.var 0) .nil)) (.cons (.kc (.int 0)) (.cons (.kc (.int 0)) .nil)))))
  (.cons (.ret (.ife (.cmp .ntN (.var 6) (.kc .non)) (.tup (.cons (.kc (.str "moments")) (.cons (.var 6) .nil))) (.tup (.cons (.kc (.str "until")) (.cons (.fld (.var 5) "most") .nil)))))
  .nil)))))))
def c_law_all_said_b1 : Ss := (.cons (.ex (.bm (.var 4) .append (.cons (.tup (.cons (.bin .add (.tup (.cons (.var 2) .nil)) (.var 7)) (.cons (.var 8) .nil))) .nil)))
  .nil)
def c_law_all_said_b2 : Ss := (.cons (.asg 6 (.call "_law_frozen" (.cons (.var 0) .nil)))
  (.cons (.ex (.call "_law_start_task" (.cons (.var 6) (.cons (.ix (.var 1) (.kc (.int 0))) .nil))))
  (.cons (.for_ (.tp [7, 8]) (.tup (.call "_law_all_said" (.cons (.var 6) (.cons (.sl (.var 1) (.kc (.int 1)) .no) (.cons (.var 2) .nil))))) c_law_all_said_b1)
  (.cons (.asg 5 (.land (.cons (.cmp .gt (.bi .len (.cons (.dx (.var 0) (.kc (.str "tasks"))) .nil)) (.kc (.int 0))) (.cons (.call "_law_job" (.cons (.var 0) .nil)) .nil))))
  (.cons (.asg 2 (.bin .add (.var 2) (.kc (.int 1))))
  .nil)))))
def c_law_all_said_e3 : E := (.ix (.var 3) (.kc (.int 2)))
def c_law_all_said_b4 : Ss := (.cons (.asg 2 (.bin .add (.var 2) (.kc (.int 1))))
  .nil)
def c_law_all_said : Ss := (.cons (.ite (.cmp .eq (.bi .len (.cons (.var 1) .nil)) (.kc (.int 0)))
 (.cons (.whl (.call "_law_job" (.cons (.var 0) .nil)) c_law_all_said_b4)
  (.cons (.ret (.lst (.cons (.tup (.cons (.tup .nil) (.cons (.bi .tuple (.cons (.lc c_law_all_said_e3 [3] (.nm 3) (.lst (.dx (.var 0) (.kc (.str "said")))) .no) .nil)) .nil))) .nil)))
  .nil))
 .nil)
  (.cons (.asg 4 (.lst .nil))
  (.cons (.asg 5 (.kc (.bl true)))
  (.cons (.whl (.var 5) c_law_all_said_b2)
  (.cons (.ret (.var 4))
  .nil)))))
def c_law_agreed_b1 : Ss := (.cons (.ite (.cmp .ne (.ix (.var 0) (.var 2)) (.ix (.var 1) (.var 2)))
 (.cons (.ret (.var 2))
  .nil)
 .nil)
  .nil)
def c_law_agreed : Ss := (.cons (.for_ (.nm 2) (.rng (.cons (.bi .min (.cons (.bi .len (.cons (.var 0) .nil)) (.cons (.bi .len (.cons (.var 1) .nil)) .nil))) .nil)) c_law_agreed_b1)
  (.cons (.ret (.bi .min (.cons (.bi .len (.cons (.var 0) .nil)) (.cons (.bi .len (.cons (.var 1) .nil)) .nil))))
  .nil))
def c_law_how_b1 : Ss := (.cons (.asg 5 (.call "_law_agreed" (.cons (.var 4) (.cons (.var 1) .nil))))
  (.cons (.ite (.cmp .eq (.var 5) (.bi .len (.cons (.var 1) .nil)))
 (.cons (.ret (.tup (.cons (.kc (.str "moments")) (.cons (.var 3) .nil))))
  .nil)
 .nil)
  (.cons (.asg 2 (.bi .max (.cons (.var 2) (.cons (.var 5) .nil))))
  .nil)))
def c_law_how : Ss := (.cons (.asg 2 (.kc (.int 0)))
  (.cons (.for_ (.tp [3, 4]) (.tup (.var 0)) c_law_how_b1)
  (.cons (.ret (.tup (.cons (.kc (.str "until")) (.cons (.var 2) .nil))))
  .nil)))
def c_law_k53_b1 : Ss := (.cons (.asg 7 (.sl (.ix (.ix (.var 5) (.bin .mod (.bin .add (.bin .mul (.call "_law_draw" (.cons (.var 2) (.cons (.kc (.int 1000)) .nil))) (.kc (.int 1000))) (.call "_law_draw" (.cons (.var 2) (.cons (.kc (.int 1000)) .nil)))) (.bi .len (.cons (.var 5) .nil)))) (.kc (.int 1))) .no (.call "_law_draw" (.cons (.var 2) (.cons (.kc (.int 13)) .nil)))))
  (.cons (.asg 8 (.call "_law_draw" (.cons (.var 2) (.cons (.bin .add (.bi .len (.cons (.var 7) .nil)) (.kc (.int 1))) .nil))))
  (.cons (.asg 9 (.call "_law_draw" (.cons (.var 2) (.cons (.kc (.int 5)) .nil))))
  (.cons (.ite (.cmp .eq (.var 9) (.kc (.int 0)))
 (.cons (.asg 7 (.bin .add (.bin .add (.sl (.var 7) .no (.var 8)) (.tup (.cons (.call "_law_word" (.cons (.var 2) .nil)) .nil))) (.sl (.var 7) (.var 8) .no)))
  .nil)
 (.cons (.ite (.cmp .eq (.var 9) (.kc (.int 1)))
 (.cons (.asg 7 (.bin .add (.sl (.var 7) .no (.var 8)) (.sl (.var 7) (.bin .add (.var 8) (.kc (.int 1))) .no)))
  .nil)
 (.cons (.ite (.cmp .eq (.var 9) (.kc (.int 2)))
 (.cons (.asg 7 (.bin .add (.bin .add (.sl (.var 7) .no (.var 8)) (.tup (.cons (.call "_law_word" (.cons (.var 2) .nil)) .nil))) (.sl (.var 7) (.bin .add (.var 8) (.kc (.int 1))) .no)))
  .nil)
 .nil)
  .nil))
  .nil))
  (.cons (.asg 7 (.sl (.var 7) .no (.kc (.int 12))))
  (.cons (.ite (.lnot (.call "_law_same" (.cons (.call "said_how" (.cons (.var 1) (.cons (.var 3) (.cons (.var 7) .nil)))) (.cons (.call "_law_how" (.cons (.var 5) (.cons (.var 7) .nil))) .nil))))
 (.cons (.ret (.kc (.bl false)))
  .nil)
 .nil)
  .nil))))))
def c_law_k53_e2 : E := (.call "_law_draw" (.cons (.var 2) (.cons (.bi .len (.cons (.var 1) .nil)) .nil)))
def c_law_k53 : Ss := (.cons (.asg 1 (.call "_law_program" (.cons (.var 0) (.cons (.kc (.int 0)) (.cons (.kc (.int 3)) (.cons (.kc (.int 4)) (.cons (.kc (.int 12)) .nil)))))))
  (.cons (.asg 2 (.call "_law_box" (.cons (.var 0) (.cons (.kc (.int 4)) .nil))))
  (.cons (.asg 3 (.bi .tuple (.cons (.lc c_law_k53_e2 [4] (.nm 4) (.rng (.cons (.call "_law_draw" (.cons (.var 2) (.cons (.kc (.int 4)) .nil))) .nil)) .no) .nil)))
  (.cons (.asg 5 (.call "_law_all_said" (.cons (.call "_law_begin" (.cons (.var 1) .nil)) (.cons (.var 3) (.cons (.kc (.int 0)) .nil)))))
  (.cons (.for_ (.nm 6) (.rng (.cons (.kc (.int 4)) .nil)) c_law_k53_b1)
  (.cons (.ret (.kc (.bl true)))
  .nil))))))
def c_law_k54_e1 : E := (.land (.cons (.cmp .le (.kc (.int 0)) (.var 9)) (.cons (.cmp .lt (.var 9) (.bi .len (.cons (.var 1) .nil))) .nil)))
def c_law_k54_e2 : E := (.cmp .le (.dx (.var 2) (.var 9)) (.kc (.int 30)))
def c_law_k54_e3 : E := (.kc (.str "q"))
def c_law_k54_e4 : E := (.bin .sub (.call "_law_draw" (.cons (.var 3) (.cons (.bin .add (.bi .len (.cons (.var 1) .nil)) (.kc (.int 1))) .nil))) (.bin .fdv (.call "_law_draw" (.cons (.var 3) (.cons (.kc (.int 12)) .nil))) (.kc (.int 11))))
def c_law_k54_b5 : Ss := (.cons (.asg 5 (.bi .tuple (.cons (.lc c_law_k54_e4 [6] (.nm 6) (.rng (.cons (.call "_law_draw" (.cons (.var 3) (.cons (.kc (.int 6)) .nil))) .nil)) .no) .nil)))
  (.cons (.asg 7 (.bi .tuple (.cons (.lc c_law_k54_e3 [6] (.nm 6) (.rng (.cons (.ix (.tup (.cons (.kc (.int 0)) (.cons (.kc (.int 1)) (.cons (.kc (.int 12)) (.cons (.kc (.int 13)) (.cons (.kc (.int 14)) .nil)))))) (.call "_law_draw" (.cons (.var 3) (.cons (.kc (.int 5)) .nil)))) .nil)) .no) .nil)))
  (.cons (.asg 8 (.kc (.str "")))
  (.cons (.ite (.lnot (.bi .all (.cons (.lc c_law_k54_e1 [9] (.nm 9) (.tup (.var 5)) .no) .nil)))
 (.cons (.asg 8 (.kc (.str "place")))
  .nil)
 (.cons (.ite (.lor (.cons (.cmp .gt (.bi .len (.cons (.var 5) .nil)) (.kc (.int 3))) (.cons (.cmp .gt (.bi .len (.cons (.var 7) .nil)) (.kc (.int 12))) (.cons (.lnot (.bi .all (.cons (.lc c_law_k54_e2 [9] (.nm 9) (.tup (.var 5)) .no) .nil))) .nil))))
 (.cons (.asg 8 (.kc (.str "much")))
  .nil)
 .nil)
  .nil))
  (.cons (.try_ (.cons (.ex (.call "said_how" (.cons (.var 1) (.cons (.var 5) (.cons (.var 7) .nil)))))
  (.cons (.asg 10 (.kc (.str "")))
  .nil)) "TickError" 11
 (.cons (.asg 10 (.ife (.isx (.var 11) "NoSuchPlace") (.kc (.str "place")) (.ife (.isx (.var 11) "TooMuch") (.kc (.str "much")) (.kc (.str "else")))))
  .nil))
  (.cons (.ite (.cmp .ne (.var 10) (.var 8))
 (.cons (.ret (.kc (.bl false)))
  .nil)
 .nil)
  .nil))))))
def c_law_k54 : Ss := (.cons (.asg 1 (.call "_law_program" (.cons (.var 0) (.cons (.kc (.int 0)) (.cons (.kc (.int 3)) (.cons (.kc (.int 5)) (.cons (.ix (.tup (.cons (.kc (.int 30)) (.cons (.kc (.int 34)) (.cons (.kc (.int 120)) .nil)))) (.call "_law_draw" (.cons (.call "_law_box" (.cons (.var 0) (.cons (.kc (.int 5)) .nil))) (.cons (.kc (.int 3)) .nil)))) .nil)))))))
  (.cons (.asg 2 (.call "_law_sizes" (.cons (.var 1) .nil)))
  (.cons (.asg 3 (.call "_law_box" (.cons (.var 0) (.cons (.kc (.int 4)) .nil))))
  (.cons (.for_ (.nm 4) (.rng (.cons (.kc (.int 4)) .nil)) c_law_k54_b5)
  (.cons (.ret (.kc (.bl true)))
  .nil)))))
def c_fresh_words_b1 : Ss := (.cons (.asg 5 (.bin .add (.kc (.str "x")) (.bi .str (.cons (.var 4) .nil))))
  (.cons (.ite (.cmp .niS (.var 5) (.var 2))
 (.cons (.ex (.bm (.var 3) .append (.cons (.var 5) .nil)))
  .nil)
 .nil)
  (.cons (.asg 4 (.bin .add (.var 4) (.kc (.int 1))))
  .nil)))
def c_fresh_words : Ss := (.cons (.asg 2 (.bin .add (.bi .list (.cons (.call "words_of" (.cons (.ix (.var 0) (.kc (.int 0))) .nil)) .nil)) (.bi .list (.cons (.call "words_of" (.cons (.ix (.var 0) (.kc (.int 1))) .nil)) .nil))))
  (.cons (.asg 3 (.lst .nil))
  (.cons (.asg 4 (.kc (.int 0)))
  (.cons (.whl (.cmp .lt (.bi .len (.cons (.var 3) .nil)) (.var 1)) c_fresh_words_b1)
  (.cons (.ret (.var 3))
  .nil)))))
def c_end_of : Ss := (.cons (.ret (.ife (.var 0) (.tup (.cons (.kc (.str "return")) .nil)) (.tup (.cons (.kc (.str "fail")) .nil))))
  .nil)
def c_waits : Ss := (.cons (.ret (.tup (.cons (.kc (.str "repeat")) (.cons (.var 0) (.cons (.tup (.cons (.gl "PAUSE_frames") .nil)) .nil)))))
  .nil)
def c_own_end_b1 : Ss := (.cons (.asg 1 (.bi .max (.cons (.var 1) (.cons (.meth (.call "run_machine" (.cons (.call "joined" (.cons (.var 2) (.cons (.tup (.cons (.tup (.cons (.call "end_of" (.cons (.var 3) .nil)) .nil)) .nil)) .nil))) .nil)) "tick" .nil) .nil))))
  .nil)
def c_own_end_b2 : Ss := (.cons (.for_ (.nm 3) (.tup (.tup (.cons (.kc (.bl true)) (.cons (.kc (.bl false)) .nil)))) c_own_end_b1)
  .nil)
def c_own_end : Ss := (.cons (.asg 1 (.kc (.int 0)))
  (.cons (.for_ (.nm 2) (.tup (.var 0)) c_own_end_b2)
  (.cons (.ret (.var 1))
  .nil)))
def c_generic_b1 : Ss := (.cons (.asg 9 (.bin .add (.var 9) (.tup (.cons (.gl "PAUSE_frames") (.cons (.tup (.cons (.kc (.str "say")) (.cons (.ix (.var 3) (.bin .mul (.kc (.int 2)) (.var 6))) .nil))) .nil)))))
  .nil)
def c_generic_b2 : Ss := (.cons (.asg 4 (.bin .add (.var 4) (.tup (.cons (.gl "PAUSE_frames") (.cons (.tup (.cons (.kc (.str "say")) (.cons (.ix (.var 3) (.bin .mul (.kc (.int 2)) (.var 6))) .nil))) .nil)))))
  (.cons (.asg 5 (.bin .add (.var 5) (.tup (.cons (.gl "PAUSE_frames") (.cons (.tup (.cons (.kc (.str "say")) (.cons (.ix (.var 3) (.bin .add (.bin .mul (.kc (.int 2)) (.var 6)) (.kc (.int 1)))) .nil))) .nil)))))
  .nil))
def c_generic : Ss := (.cons (.asg 4 (.tup .nil))
  (.cons (.asg 5 (.tup .nil))
  (.cons (.for_ (.nm 6) (.rng (.cons (.bin .add (.var 0) (.kc (.int 1))) (.cons (.bin .add (.var 2) (.kc (.int 1))) .nil))) c_generic_b2)
  (.cons (.asg 7 (.tup (.cons (.tup (.cons (.kc (.str "say")) (.cons (.ix (.var 3) (.kc (.int 0))) .nil))) (.cons (.tup (.cons (.kc (.str "start")) (.cons (.kc (.int 1)) (.cons (.kc (.str "a")) .nil)))) .nil))))
  (.cons (.ite (.cmp .lt (.var 0) (.kc (.int 2)))
 (.cons (.asg 8 (.ife (.cmp .eq (.var 0) (.kc (.int 1))) (.tup (.cons (.gl "PAUSE_frames") (.cons (.tup (.cons (.kc (.str "say")) (.cons (.ix (.var 3) (.kc (.int 2))) .nil))) .nil))) (.tup .nil)))
  (.cons (.ret (.tup (.cons (.bin .add (.bin .add (.var 7) (.var 8)) (.tup (.cons (.call "end_of" (.cons (.var 1) .nil)) .nil))) (.cons (.bin .add (.tup (.cons (.call "waits" (.cons (.var 0) .nil)) .nil)) (.var 4)) .nil))))
  .nil))
 .nil)
  (.cons (.asg 9 (.tup (.cons (.tup (.cons (.kc (.str "say")) (.cons (.ix (.var 3) (.kc (.int 4))) .nil))) .nil)))
  (.cons (.for_ (.nm 6) (.rng (.cons (.kc (.int 3)) (.cons (.bin .add (.var 0) (.kc (.int 1))) .nil))) c_generic_b1)
  (.cons (.asg 10 (.bin .add (.bin .add (.bin .add (.var 7) (.tup (.cons (.tup (.cons (.kc (.str "start")) (.cons (.kc (.int 2)) (.cons (.kc (.str "b")) .nil)))) (.cons (.tup (.cons (.kc (.str "start")) (.cons (.kc (.int 3)) (.cons (.kc (.str "c")) .nil)))) (.cons (.tup (.cons (.kc (.str "wait")) (.cons (.kc (.str "b")) .nil))) .nil))))) (.var 9)) (.tup (.cons (.call "end_of" (.cons (.var 1) .nil)) .nil))))
  (.cons (.ret (.tup (.cons (.var 10) (.cons (.bin .add (.tup (.cons (.call "waits" (.cons (.var 0) .nil)) .nil)) (.var 4)) (.cons (.tup (.cons (.gl "PAUSE_frames") (.cons (.tup (.cons (.kc (.str "say")) (.cons (.ix (.var 3) (.kc (.int 2))) .nil))) .nil))) (.cons (.bin .add (.tup (.cons (.call "waits" (.cons (.var 0) .nil)) .nil)) (.var 5)) .nil))))))
  .nil)))))))))
def c_silent : Ss := (.cons (.ret (.tup (.cons (.tup (.cons (.call "waits" (.cons (.var 0) .nil)) (.cons (.call "end_of" (.cons (.var 1) .nil)) .nil))) .nil)))
  .nil)
def c_with_word : Ss := (.cons (.ite (.cmp .le (.var 2) (.var 0))
 (.cons (.ret (.tup (.cons (.tup (.cons (.call "waits" (.cons (.var 2) .nil)) (.cons (.tup (.cons (.kc (.str "say")) (.cons (.var 4) .nil))) (.cons (.call "waits" (.cons (.bin .sub (.var 0) (.var 2)) .nil)) (.cons (.call "end_of" (.cons (.var 1) .nil)) .nil))))) .nil)))
  .nil)
 .nil)
  (.cons (.asg 5 (.tup (.cons (.call "waits" (.cons (.var 2) .nil)) (.cons (.tup (.cons (.kc (.str "say")) (.cons (.var 4) .nil))) .nil))))
  (.cons (.ite (.var 3)
 (.cons (.ret (.tup (.cons (.tup (.cons (.tup (.cons (.kc (.str "start")) (.cons (.kc (.int 1)) (.cons (.kc (.str "a")) .nil)))) (.cons (.call "waits" (.cons (.var 0) .nil)) (.cons (.call "end_of" (.cons (.var 1) .nil)) .nil)))) (.cons (.var 5) .nil))))
  .nil)
 .nil)
  (.cons (.asg 6 (.tup (.cons (.tup (.cons (.kc (.str "start")) (.cons (.kc (.int 1)) (.cons (.kc (.str "b")) .nil)))) (.cons (.tup (.cons (.kc (.str "start")) (.cons (.kc (.int 2)) (.cons (.kc (.str "c")) .nil)))) (.cons (.tup (.cons (.kc (.str "wait")) (.cons (.kc (.str "b")) .nil))) (.cons (.call "waits" (.cons (.bin .sub (.var 0) (.kc (.int 2))) .nil)) (.cons (.call "end_of" (.cons (.var 1) .nil)) .nil)))))))
  (.cons (.ret (.tup (.cons (.var 6) (.cons (.tup (.cons (.gl "PAUSE_frames") .nil)) (.cons (.var 5) .nil)))))
  .nil)))))
def c_tells : Ss := (.cons (.ret (.cmp .ne (.call "profile_of" (.cons (.call "joined" (.cons (.var 0) (.cons (.var 2) .nil))) .nil)) (.call "profile_of" (.cons (.call "joined" (.cons (.var 1) (.cons (.var 2) .nil))) .nil))))
  .nil)
def c_witness_b1 : Ss := (.cons (.ite (.call "tells" (.cons (.var 0) (.cons (.var 1) (.cons (.var 8) .nil))))
 (.cons (.ret (.var 8))
  .nil)
 .nil)
  .nil)
def c_witness_b2 : Ss := (.cons (.ex (.bm (.var 6) .append (.cons (.call "with_word" (.cons (.var 2) (.cons (.var 3) (.cons (.var 7) (.cons (.kc (.bl true)) (.cons (.var 5) .nil)))))) .nil)))
  (.cons (.ite (.land (.cons (.cmp .gt (.var 7) (.var 2)) (.cons (.cmp .ge (.var 2) (.kc (.int 2))) .nil)))
 (.cons (.ex (.bm (.var 6) .append (.cons (.call "with_word" (.cons (.var 2) (.cons (.var 3) (.cons (.var 7) (.cons (.kc (.bl false)) (.cons (.var 5) .nil)))))) .nil)))
  .nil)
 .nil)
  .nil))
def c_witness : Ss := (.cons (.asg 6 (.lst (.cons (.call "silent" (.cons (.var 2) (.cons (.var 3) .nil))) .nil)))
  (.cons (.for_ (.nm 7) (.rng (.cons (.bin .add (.var 4) (.kc (.int 1))) .nil)) c_witness_b2)
  (.cons (.for_ (.nm 8) (.lst (.var 6)) c_witness_b1)
  (.cons (.ret (.kc .non))
  .nil))))
def c_alike_frames_b1 : Ss := (.cons (.asg 6 (.bin .add (.bin .add (.var 4) (.var 2)) (.kc (.int 3))))
  (.cons (.ite (.call "tells" (.cons (.var 0) (.cons (.var 1) (.cons (.call "generic" (.cons (.var 4) (.cons (.var 5) (.cons (.var 6) (.cons (.var 3) .nil))))) .nil))))
 (.cons (.ret (.tup (.cons (.kc (.str "unlike")) (.cons (.call "witness" (.cons (.var 0) (.cons (.var 1) (.cons (.var 4) (.cons (.var 5) (.cons (.var 6) (.cons (.ix (.var 3) (.kc (.int 0))) .nil))))))) .nil))))
  .nil)
 .nil)
  .nil))
def c_alike_frames_b2 : Ss := (.cons (.for_ (.nm 5) (.tup (.tup (.cons (.kc (.bl true)) (.cons (.kc (.bl false)) .nil)))) c_alike_frames_b1)
  .nil)
def c_alike_frames : Ss := (.cons (.ex (.call "check_frame" (.cons (.var 0) .nil)))
  (.cons (.ex (.call "check_frame" (.cons (.var 1) .nil)))
  (.cons (.asg 2 (.call "own_end" (.cons (.tup (.cons (.var 0) (.cons (.var 1) .nil))) .nil)))
  (.cons (.asg 3 (.call "fresh_words" (.cons (.tup (.cons (.var 0) (.cons (.var 1) .nil))) (.cons (.bin .add (.bin .mul (.kc (.int 4)) (.var 2)) (.kc (.int 12))) .nil))))
  (.cons (.for_ (.nm 4) (.rng (.cons (.bin .add (.var 2) (.kc (.int 2))) .nil)) c_alike_frames_b2)
  (.cons (.ret (.tup (.cons (.kc (.str "alike")) .nil)))
  .nil))))))
def c_law_frame_b1 : Ss := (.cons (.asg 6 (.call "_law_block" (.cons (.call "_law_box" (.cons (.var 0) (.cons (.bin .add (.bin .add (.var 1) (.kc (.int 1))) (.var 5)) .nil))) (.cons (.kc (.int 1)) (.cons (.kc (.int 3)) (.cons (.var 5) (.cons (.var 3) .nil)))))))
  (.cons (.ex (.bm (.var 4) .append (.cons (.ife (.cmp .le (.call "_law_measure" (.cons (.var 6) (.cons (.dct [] .nil) .nil))) (.kc (.int 8))) (.var 6) (.tup (.cons (.tup (.cons (.kc (.str "say")) (.cons (.kc (.str "c")) .nil))) .nil))) .nil)))
  .nil))
def c_law_frame : Ss := (.cons (.asg 2 (.call "_law_box" (.cons (.var 0) (.cons (.var 1) .nil))))
  (.cons (.asg 3 (.bin .add (.kc (.int 1)) (.call "_law_draw" (.cons (.var 2) (.cons (.kc (.int 4)) .nil)))))
  (.cons (.asg 4 (.lst .nil))
  (.cons (.for_ (.nm 5) (.rng (.cons (.var 3) .nil)) c_law_frame_b1)
  (.cons (.asg 7 (.call "_law_block" (.cons (.var 2) (.cons (.kc (.int 1)) (.cons (.kc (.int 3)) (.cons (.kc (.int 0)) (.cons (.var 3) .nil)))))))
  (.cons (.ite (.cmp .gt (.call "_law_measure" (.cons (.var 7) (.cons (.dct [] .nil) .nil))) (.kc (.int 8)))
 (.cons (.asg 7 (.tup (.cons (.tup (.cons (.kc (.str "wait")) (.cons (.kc (.str "a")) .nil))) (.cons (.tup (.cons (.kc (.str "say")) (.cons (.kc (.str "d")) .nil))) .nil))))
  .nil)
 .nil)
  (.cons (.ite (.cmp .eq (.call "_law_draw" (.cons (.var 2) (.cons (.kc (.int 2)) .nil))) (.kc (.int 0)))
 (.cons (.asg 7 (.bin .add (.tup (.cons (.tup (.cons (.kc (.str "wait")) (.cons (.kc (.str "a")) .nil))) .nil)) (.var 7)))
  .nil)
 .nil)
  (.cons (.asg 8 (.tup (.cons (.kc (.str "start")) (.cons (.var 3) (.cons (.ix (.kc (.str "aaaaabcd")) (.call "_law_draw" (.cons (.var 2) (.cons (.kc (.int 8)) .nil)))) .nil)))))
  (.cons (.asg 8 (.ix (.tup (.cons (.var 8) (.cons (.var 8) (.cons (.tup (.cons (.kc (.str "try")) (.cons (.tup (.cons (.var 8) .nil)) (.cons (.tup .nil) .nil)))) (.cons (.tup (.cons (.kc (.str "try")) (.cons (.tup (.cons (.tup (.cons (.kc (.str "fail")) .nil)) .nil)) (.cons (.tup (.cons (.var 8) .nil)) .nil)))) .nil))))) (.call "_law_draw" (.cons (.var 2) (.cons (.kc (.int 4)) .nil)))))
  (.cons (.asi (.var 4) (.kc (.int 0)) (.bin .add (.bin .add (.sl (.ix (.var 4) (.kc (.int 0))) .no (.kc (.int 2))) (.tup (.cons (.var 8) .nil))) (.var 7)))
  (.cons (.ite (.call "_law_is_frame" (.cons (.bi .tuple (.cons (.var 4) .nil)) .nil))
 (.cons (.ret (.bi .tuple (.cons (.var 4) .nil)))
  .nil)
 .nil)
  (.cons (.ret (.tup (.cons (.tup (.cons (.tup (.cons (.kc (.str "pause")) .nil)) (.cons (.tup (.cons (.kc (.str "start")) (.cons (.kc (.int 1)) (.cons (.kc (.str "a")) .nil)))) (.cons (.tup (.cons (.kc (.str "wait")) (.cons (.kc (.str "a")) .nil))) .nil)))) .nil)))
  .nil))))))))))))
def c_law_varied : Ss := (.cons (.asg 2 (.ix (.var 1) (.kc (.int 0))))
  (.cons (.asg 3 (.call "_law_draw" (.cons (.var 0) (.cons (.bin .add (.bi .len (.cons (.var 2) .nil)) (.kc (.int 1))) .nil))))
  (.cons (.asg 4 (.ix (.var 2) (.bi .min (.cons (.var 3) (.cons (.bin .sub (.bi .len (.cons (.var 2) .nil)) (.kc (.int 1))) .nil)))))
  (.cons (.asg 5 (.call "_law_draw" (.cons (.var 0) (.cons (.kc (.int 7)) .nil))))
  (.cons (.ite (.cmp .eq (.var 5) (.kc (.int 0)))
 (.cons (.asg 2 (.bin .add (.bin .add (.sl (.var 2) .no (.var 3)) (.tup (.cons (.tup (.cons (.kc (.str "repeat")) (.cons (.kc (.int 0)) (.cons (.tup (.cons (.tup (.cons (.kc (.str "say")) (.cons (.kc (.str "x")) .nil))) .nil)) .nil)))) .nil))) (.sl (.var 2) (.var 3) .no)))
  .nil)
 (.cons (.ite (.land (.cons (.cmp .eq (.var 5) (.kc (.int 1))) (.cons (.cmp .eq (.ix (.var 4) (.kc (.int 0))) (.kc (.str "wait"))) (.cons (.cmp .lt (.var 3) (.bi .len (.cons (.var 2) .nil))) .nil))))
 (.cons (.asg 2 (.bin .add (.bin .add (.sl (.var 2) .no (.var 3)) (.tup (.cons (.tup (.cons (.kc (.str "try")) (.cons (.tup (.cons (.var 4) .nil)) (.cons (.tup (.cons (.tup (.cons (.kc (.str "fail")) .nil)) .nil)) .nil)))) .nil))) (.sl (.var 2) (.bin .add (.var 3) (.kc (.int 1))) .no)))
  .nil)
 (.cons (.ite (.land (.cons (.cmp .eq (.var 5) (.kc (.int 2))) (.cons (.cmp .eq (.ix (.ix (.var 2) (.neg (.kc (.int 1)))) (.kc (.int 0))) (.kc (.str "wait"))) .nil)))
 (.cons (.asg 2 (.bin .add (.sl (.var 2) .no (.neg (.kc (.int 1)))) (.tup (.cons (.tup (.cons (.kc (.str "adopt")) (.cons (.ix (.ix (.var 2) (.neg (.kc (.int 1)))) (.kc (.int 1))) .nil))) .nil))))
  .nil)
 (.cons (.ite (.cmp .eq (.var 5) (.kc (.int 3)))
 (.cons (.asg 2 (.bin .add (.bin .add (.sl (.var 2) .no (.var 3)) (.tup (.cons (.tup (.cons (.kc (.str "pause")) .nil)) .nil))) (.sl (.var 2) (.var 3) .no)))
  .nil)
 (.cons (.ite (.land (.cons (.cmp .eq (.var 5) (.kc (.int 4))) (.cons (.cmp .eq (.ix (.var 4) (.kc (.int 0))) (.kc (.str "pause"))) (.cons (.cmp .lt (.var 3) (.bi .len (.cons (.var 2) .nil))) .nil))))
 (.cons (.asg 2 (.bin .add (.bin .add (.sl (.var 2) .no (.var 3)) (.tup (.cons (.tup (.cons (.kc (.str "wait")) (.cons (.kc (.str "d")) .nil))) .nil))) (.sl (.var 2) (.bin .add (.var 3) (.kc (.int 1))) .no)))
  .nil)
 (.cons (.ite (.cmp .eq (.var 5) (.kc (.int 5)))
 (.cons (.asg 2 (.bin .add (.var 2) (.tup (.cons (.tup (.cons (.kc (.str "return")) .nil)) .nil))))
  .nil)
 .nil)
  .nil))
  .nil))
  .nil))
  .nil))
  .nil))
  (.cons (.asg 6 (.bin .add (.tup (.cons (.var 2) .nil)) (.sl (.var 1) (.kc (.int 1)) .no)))
  (.cons (.ret (.ife (.call "_law_is_frame" (.cons (.var 6) .nil)) (.var 6) (.var 1)))
  .nil)))))))
def c_law_tried_b1 : Ss := (.cons (.asg 7 (.call "_law_program" (.cons (.var 0) (.cons (.bin .add (.kc (.int 20)) (.bin .mul (.kc (.int 5)) (.var 6))) (.cons (.kc (.int 3)) (.cons (.kc (.int 5)) (.cons (.kc (.int 60)) .nil)))))))
  (.cons (.ite (.cmp .ne (.call "_law_profile" (.cons (.call "_law_put" (.cons (.var 1) (.cons (.var 7) .nil))) .nil)) (.call "_law_profile" (.cons (.call "_law_put" (.cons (.var 2) (.cons (.var 7) .nil))) .nil)))
 (.cons (.ret (.kc (.bl false)))
  .nil)
 .nil)
  .nil))
def c_law_tried_b2 : Ss := (.cons (.asg 5 (.tup (.cons (.tup (.cons (.tup (.cons (.kc (.str "repeat")) (.cons (.var 3) (.cons (.tup (.cons (.tup (.cons (.kc (.str "pause")) .nil)) .nil)) .nil)))) (.cons (.tup (.cons (.var 4) .nil)) .nil))) .nil)))
  (.cons (.ite (.cmp .ne (.call "_law_profile" (.cons (.call "_law_put" (.cons (.var 1) (.cons (.var 5) .nil))) .nil)) (.call "_law_profile" (.cons (.call "_law_put" (.cons (.var 2) (.cons (.var 5) .nil))) .nil)))
 (.cons (.ret (.kc (.bl false)))
  .nil)
 .nil)
  .nil))
def c_law_tried_b3 : Ss := (.cons (.for_ (.nm 4) (.tup (.tup (.cons (.kc (.str "return")) (.cons (.kc (.str "fail")) .nil)))) c_law_tried_b2)
  .nil)
def c_law_tried : Ss := (.cons (.for_ (.nm 3) (.rng (.cons (.kc (.int 4)) .nil)) c_law_tried_b3)
  (.cons (.for_ (.nm 6) (.rng (.cons (.kc (.int 4)) .nil)) c_law_tried_b1)
  (.cons (.ret (.kc (.bl true)))
  .nil)))
def c_law_k55 : Ss := (.cons (.asg 1 (.call "_law_frame" (.cons (.var 0) (.cons (.kc (.int 0)) .nil))))
  (.cons (.asg 2 (.call "_law_box" (.cons (.var 0) (.cons (.kc (.int 10)) .nil))))
  (.cons (.asg 3 (.ife (.cmp .gt (.call "_law_draw" (.cons (.var 2) (.cons (.kc (.int 5)) .nil))) (.kc (.int 0))) (.call "_law_varied" (.cons (.var 2) (.cons (.var 1) .nil))) (.call "_law_frame" (.cons (.var 0) (.cons (.kc (.int 11)) .nil)))))
  (.cons (.asg 4 (.call "alike_frames" (.cons (.var 1) (.cons (.var 3) .nil))))
  (.cons (.ite (.cmp .eq (.var 4) (.tup (.cons (.kc (.str "alike")) .nil)))
 (.cons (.ret (.call "_law_tried" (.cons (.var 0) (.cons (.var 1) (.cons (.var 3) .nil)))))
  .nil)
 .nil)
  (.cons (.ite (.lor (.cons (.lnot (.isi (.var 4) .tup)) (.cons (.cmp .ne (.bi .len (.cons (.var 4) .nil)) (.kc (.int 2))) (.cons (.cmp .ne (.ix (.var 4) (.kc (.int 0))) (.kc (.str "unlike"))) .nil))))
 (.cons (.ret (.kc (.bl false)))
  .nil)
 .nil)
  (.cons (.ite (.lor (.cons (.lnot (.call "_law_is_program" (.cons (.ix (.var 4) (.kc (.int 1))) .nil))) (.cons (.cmp .gt (.bi .len (.cons (.ix (.var 4) (.kc (.int 1))) .nil)) (.kc (.int 3))) .nil)))
 (.cons (.ret (.kc (.bl false)))
  .nil)
 .nil)
  (.cons (.ret (.cmp .ne (.call "_law_profile" (.cons (.call "_law_put" (.cons (.var 1) (.cons (.ix (.var 4) (.kc (.int 1))) .nil))) .nil)) (.call "_law_profile" (.cons (.call "_law_put" (.cons (.var 3) (.cons (.ix (.var 4) (.kc (.int 1))) .nil))) .nil))))
  .nil))))))))
def c_law_ends : Ss := (.cons (.ret (.ix (.tup (.cons (.tup (.cons (.tup (.cons (.kc (.str "wait")) (.cons (.kc (.str "a")) .nil))) .nil)) (.cons (.tup (.cons (.tup (.cons (.kc (.str "try")) (.cons (.tup (.cons (.tup (.cons (.kc (.str "wait")) (.cons (.kc (.str "a")) .nil))) .nil)) (.cons (.tup (.cons (.tup (.cons (.kc (.str "fail")) .nil)) .nil)) .nil)))) .nil)) (.cons (.tup (.cons (.tup (.cons (.kc (.str "try")) (.cons (.tup (.cons (.tup (.cons (.kc (.str "wait")) (.cons (.kc (.str "a")) .nil))) .nil)) (.cons (.tup (.cons (.tup (.cons (.kc (.str "return")) .nil)) .nil)) .nil)))) .nil)) (.cons (.tup (.cons (.tup (.cons (.kc (.str "adopt")) (.cons (.kc (.str "a")) .nil))) .nil)) (.cons (.tup (.cons (.tup (.cons (.kc (.str "wait")) (.cons (.kc (.str "a")) .nil))) (.cons (.tup (.cons (.kc (.str "pause")) .nil)) .nil))) (.cons (.tup .nil) .nil))))))) (.var 0)))
  .nil)
def c_law_k56 : Ss := (.cons (.asg 1 (.call "_law_box" (.cons (.var 0) (.cons (.kc (.int 0)) .nil))))
  (.cons (.asg 2 (.call "_law_word" (.cons (.var 1) .nil)))
  (.cons (.asg 3 (.bin .mul (.tup (.cons (.tup (.cons (.kc (.str "say")) (.cons (.var 2) .nil))) .nil)) (.call "_law_draw" (.cons (.var 1) (.cons (.kc (.int 3)) .nil)))))
  (.cons (.asg 4 (.bin .mul (.tup (.cons (.tup (.cons (.kc (.str "pause")) .nil)) .nil)) (.call "_law_draw" (.cons (.var 1) (.cons (.kc (.int 5)) .nil)))))
  (.cons (.asg 5 (.call "_law_draw" (.cons (.var 1) (.cons (.kc (.int 6)) .nil))))
  (.cons (.asg 6 (.call "_law_draw" (.cons (.var 1) (.cons (.kc (.int 6)) .nil))))
  (.cons (.asg 7 (.tup (.cons (.bin .add (.bin .add (.bin .add (.var 3) (.tup (.cons (.tup (.cons (.kc (.str "start")) (.cons (.kc (.int 1)) (.cons (.kc (.str "a")) .nil)))) .nil))) (.var 4)) (.call "_law_ends" (.cons (.var 5) .nil))) .nil)))
  (.cons (.asg 8 (.tup (.cons (.bin .add (.bin .add (.bin .add (.var 3) (.tup (.cons (.tup (.cons (.kc (.str "start")) (.cons (.kc (.int 1)) (.cons (.kc (.str "a")) .nil)))) .nil))) (.var 4)) (.call "_law_ends" (.cons (.var 6) .nil))) .nil)))
  (.cons (.asg 9 (.ife (.lor (.cons (.cmp .eq (.var 5) (.var 6)) (.cons (.cmp .eq (.call "sorted" (.cons (.lst (.cons (.var 5) (.cons (.var 6) .nil))) .nil)) (.lst (.cons (.kc (.int 0)) (.cons (.kc (.int 1)) .nil)))) .nil))) (.kc (.str "alike")) (.kc (.str "unlike"))))
  (.cons (.ret (.land (.cons (.cmp .eq (.ix (.call "alike_frames" (.cons (.var 7) (.cons (.var 8) .nil))) (.kc (.int 0))) (.var 9)) (.cons (.cmp .eq (.ix (.call "alike_frames" (.cons (.var 8) (.cons (.var 7) .nil))) (.kc (.int 0))) (.var 9)) .nil))))
  .nil))))))))))
def c_Unlike__init : Ss := (.cons (.ex (.meth (.call "super" .nil) "__init__" (.cons (.kc (.str "the programs can be told apart")) .nil)))
  (.cons (.asf (.var 0) "context" (.var 1))
  (.cons (.asf (.var 0) "one" (.var 2))
  (.cons (.asf (.var 0) "other" (.var 3))
  .nil))))
def c_Book__init : Ss := (.cons (.asf (.var 0) "now" (.tup (.cons (.tup .nil) (.cons (.tup .nil) .nil))))
  (.cons (.asf (.var 0) "past" (.tup .nil))
  .nil))
def c_Book_programs : Ss := (.cons (.ret (.ix (.fld (.var 0) "now") (.kc (.int 0))))
  .nil)
def c_Book_users : Ss := (.cons (.ret (.ix (.fld (.var 0) "now") (.kc (.int 1))))
  .nil)
def c_Book_log_e1 : E := (.var 2)
def c_Book_log : Ss := (.cons (.ret (.bi .tuple (.cons (.lc c_Book_log_e1 [1, 2] (.tp [1, 2]) (.tup (.fld (.var 0) "past")) .no) .nil)))
  .nil)
def c_Book_log_v2 : Ss := (.cons (.ex (.call "_wall" (.cons (.kc (.int 3)) .nil)))
  .nil)
def c_Book_program_b1 : Ss := (.cons (.ite (.cmp .eq (.var 2) (.var 1))
 (.cons (.ret (.var 3))
  .nil)
 .nil)
  .nil)
def c_Book_program : Ss := (.cons (.for_ (.tp [2, 3]) (.tup (.ix (.fld (.var 0) "now") (.kc (.int 0)))) c_Book_program_b1)
  (.cons (.raise "NoSuchName" .nil)
  .nil))
def c_Book_user_b1 : Ss := (.cons (.ite (.cmp .eq (.var 2) (.var 1))
 (.cons (.ret (.tup (.cons (.var 3) (.cons (.var 4) .nil))))
  .nil)
 .nil)
  .nil)
def c_Book_user : Ss := (.cons (.for_ (.tp [2, 3, 4]) (.tup (.ix (.fld (.var 0) "now") (.kc (.int 1)))) c_Book_user_b1)
  (.cons (.raise "NoSuchName" .nil)
  .nil))
def c_Book_enter : Ss := (.cons (.asf (.var 0) "past" (.sl (.bin .add (.fld (.var 0) "past") (.tup (.cons (.tup (.cons (.fld (.var 0) "now") (.cons (.var 2) .nil))) .nil))) (.neg (.gl "MOST_PAST")) .no))
  (.cons (.asf (.var 0) "now" (.var 1))
  .nil))
def c_Book_add_e1 : E := (.var 3)
def c_Book_add : Ss := (.cons (.ite (.cmp .inS (.var 1) (.lc c_Book_add_e1 [3, 4] (.tp [3, 4]) (.tup (.ix (.fld (.var 0) "now") (.kc (.int 0)))) .no))
 (.cons (.raise "NameTaken" .nil)
  .nil)
 .nil)
  (.cons (.ex (.call "check_program" (.cons (.var 2) .nil)))
  (.cons (.ite (.cmp .eq (.bi .len (.cons (.ix (.fld (.var 0) "now") (.kc (.int 0))) .nil)) (.gl "MOST_NAMES"))
 (.cons (.raise "TooMuch" .nil)
  .nil)
 .nil)
  (.cons (.ex (.meth (.var 0) "enter" (.cons (.tup (.cons (.bin .add (.ix (.fld (.var 0) "now") (.kc (.int 0))) (.tup (.cons (.tup (.cons (.var 1) (.cons (.var 2) .nil))) .nil))) (.cons (.ix (.fld (.var 0) "now") (.kc (.int 1))) .nil))) (.cons (.tup (.cons (.kc (.str "add")) (.cons (.var 1) .nil))) .nil))))
  .nil))))
def c_Book_use_e1 : E := (.var 4)
def c_Book_use : Ss := (.cons (.ite (.cmp .inS (.var 1) (.lc c_Book_use_e1 [4, 5, 6] (.tp [4, 5, 6]) (.tup (.ix (.fld (.var 0) "now") (.kc (.int 1)))) .no))
 (.cons (.raise "NameTaken" .nil)
  .nil)
 .nil)
  (.cons (.ex (.call "check_frame" (.cons (.var 2) .nil)))
  (.cons (.ex (.call "put_into" (.cons (.var 2) (.cons (.meth (.var 0) "program" (.cons (.var 3) .nil)) .nil))))
  (.cons (.ite (.cmp .eq (.bi .len (.cons (.ix (.fld (.var 0) "now") (.kc (.int 1))) .nil)) (.gl "MOST_NAMES"))
 (.cons (.raise "TooMuch" .nil)
  .nil)
 .nil)
  (.cons (.ex (.meth (.var 0) "enter" (.cons (.tup (.cons (.ix (.fld (.var 0) "now") (.kc (.int 0))) (.cons (.bin .add (.ix (.fld (.var 0) "now") (.kc (.int 1))) (.tup (.cons (.tup (.cons (.var 1) (.cons (.var 2) (.cons (.var 3) .nil)))) .nil))) .nil))) (.cons (.tup (.cons (.kc (.str "use")) (.cons (.var 1) .nil))) .nil))))
  .nil)))))
def c_Book_told : Ss := (.cons (.ast [2, 3] (.meth (.var 0) "user" (.cons (.var 1) .nil)))
  (.cons (.ret (.call "profile_of" (.cons (.call "put_into" (.cons (.var 2) (.cons (.meth (.var 0) "program" (.cons (.var 3) .nil)) .nil))) .nil)))
  .nil))
def c_Book_changes_b1 : Ss := (.cons (.ite (.cmp .eq (.var 7) (.var 1))
 (.cons (.asg 8 (.call "tell_apart" (.cons (.call "put_into" (.cons (.var 6) (.cons (.var 3) .nil))) (.cons (.call "put_into" (.cons (.var 6) (.cons (.var 2) .nil))) .nil))))
  (.cons (.ite (.cmp .ntN (.var 8) (.kc .non))
 (.cons (.ex (.bm (.var 4) .append (.cons (.bin .add (.tup (.cons (.var 5) .nil)) (.var 8)) .nil)))
  .nil)
 .nil)
  .nil))
 .nil)
  .nil)
def c_Book_changes : Ss := (.cons (.asg 3 (.meth (.var 0) "program" (.cons (.var 1) .nil)))
  (.cons (.ex (.call "check_program" (.cons (.var 2) .nil)))
  (.cons (.asg 4 (.lst .nil))
  (.cons (.for_ (.tp [5, 6, 7]) (.tup (.ix (.fld (.var 0) "now") (.kc (.int 1)))) c_Book_changes_b1)
  (.cons (.ret (.bi .tuple (.cons (.var 4) .nil)))
  .nil)))))
def c_Book_replaced_e1 : E := (.tup (.cons (.var 3) (.cons (.ife (.cmp .eq (.var 3) (.var 1)) (.var 2) (.var 4)) .nil)))
def c_Book_replaced : Ss := (.cons (.ret (.bi .tuple (.cons (.lc c_Book_replaced_e1 [3, 4] (.tp [3, 4]) (.tup (.ix (.fld (.var 0) "now") (.kc (.int 0)))) .no) .nil)))
  .nil)
def c_Book_put : Ss := (.cons (.asg 3 (.meth (.var 0) "changes" (.cons (.var 1) (.cons (.var 2) .nil))))
  (.cons (.ex (.meth (.var 0) "enter" (.cons (.tup (.cons (.meth (.var 0) "replaced" (.cons (.var 1) (.cons (.var 2) .nil))) (.cons (.ix (.fld (.var 0) "now") (.kc (.int 1))) .nil))) (.cons (.tup (.cons (.kc (.str "put")) (.cons (.var 1) .nil))) .nil))))
  (.cons (.ret (.var 3))
  .nil)))
def c_Book_keep : Ss := (.cons (.ex (.meth (.var 0) "changes" (.cons (.var 1) (.cons (.var 2) .nil))))
  (.cons (.asg 3 (.call "tell_apart" (.cons (.meth (.var 0) "program" (.cons (.var 1) .nil)) (.cons (.var 2) .nil))))
  (.cons (.ite (.cmp .ntN (.var 3) (.kc .non))
 (.cons (.raise "Unlike" (.cons (.ix (.var 3) (.kc (.int 0))) (.cons (.ix (.var 3) (.kc (.int 1))) (.cons (.ix (.var 3) (.kc (.int 2))) .nil))))
  .nil)
 .nil)
  (.cons (.ex (.meth (.var 0) "enter" (.cons (.tup (.cons (.meth (.var 0) "replaced" (.cons (.var 1) (.cons (.var 2) .nil))) (.cons (.ix (.fld (.var 0) "now") (.kc (.int 1))) .nil))) (.cons (.tup (.cons (.kc (.str "keep")) (.cons (.var 1) .nil))) .nil))))
  .nil))))
def c_Book_keep_v2 : Ss := (.cons (.ex (.call "_wall" (.cons (.kc (.int 4)) .nil)))
  .nil)
def c_Book_undo : Ss := (.cons (.ite (.cmp .eq (.bi .len (.cons (.fld (.var 0) "past") .nil)) (.kc (.int 0)))
 (.cons (.ret (.kc (.bl false)))
  .nil)
 .nil)
  (.cons (.asf (.var 0) "now" (.ix (.ix (.fld (.var 0) "past") (.neg (.kc (.int 1)))) (.kc (.int 0))))
  (.cons (.asf (.var 0) "past" (.sl (.fld (.var 0) "past") .no (.neg (.kc (.int 1)))))
  (.cons (.ret (.kc (.bl true)))
  .nil))))
def c_Book_undo_v2 : Ss := (.cons (.ex (.call "_wall" (.cons (.kc (.int 5)) .nil)))
  .nil)
def c_Book_fork : Ss := (.cons (.ex (.call "_wall" (.cons (.kc (.int 3)) .nil)))
  .nil)
def c_Book_fork_v2 : Ss := (.cons (.ex (.call "_wall" (.cons (.kc (.int 6)) .nil)))
  .nil)
def c_Book_fork_v3 : Ss := (.cons (.asg 1 (.make "Book" .nil))
  (.cons (.asf (.var 1) "now" (.fld (.var 0) "now"))
  (.cons (.asf (.var 1) "past" (.fld (.var 0) "past"))
  (.cons (.ret (.var 1))
  .nil))))
def c_law_class : Ss := (.cons (.asg 1 (.lst .nil))
  (.cons (.ite (.isx (.var 0) "NameTaken")
 (.cons (.ex (.bm (.var 1) .append (.cons (.kc (.str "taken")) .nil)))
  .nil)
 .nil)
  (.cons (.ite (.isx (.var 0) "NoSuchName")
 (.cons (.ex (.bm (.var 1) .append (.cons (.kc (.str "name")) .nil)))
  .nil)
 .nil)
  (.cons (.ite (.isx (.var 0) "BadProgram")
 (.cons (.ex (.bm (.var 1) .append (.cons (.kc (.str "program")) .nil)))
  .nil)
 .nil)
  (.cons (.ite (.isx (.var 0) "BadContext")
 (.cons (.ex (.bm (.var 1) .append (.cons (.kc (.str "context")) .nil)))
  .nil)
 .nil)
  (.cons (.ite (.isx (.var 0) "BadFrame")
 (.cons (.ex (.bm (.var 1) .append (.cons (.kc (.str "frame")) .nil)))
  .nil)
 .nil)
  (.cons (.ite (.isx (.var 0) "TooMuch")
 (.cons (.ex (.bm (.var 1) .append (.cons (.kc (.str "much")) .nil)))
  .nil)
 .nil)
  (.cons (.ite (.isx (.var 0) "Unlike")
 (.cons (.ex (.bm (.var 1) .append (.cons (.kc (.str "unlike")) .nil)))
  .nil)
 .nil)
  (.cons (.ret (.bm (.kc (.str "+")) .join (.cons (.var 1) .nil)))
  .nil)))))))))
def c_law_names_e1 : E := (.ix (.var 1) (.kc (.int 0)))
def c_law_names : Ss := (.cons (.ret (.lc c_law_names_e1 [1] (.nm 1) (.tup (.var 0)) .no))
  .nil)
def c_law_of_e1 : E := (.var 2)
def c_law_of : Ss := (.cons (.ret (.ix (.lc c_law_of_e1 [2] (.nm 2) (.tup (.var 0)) (.cmp .eq (.ix (.var 2) (.kc (.int 0))) (.var 1))) (.kc (.int 0))))
  .nil)
def c_law_entered : Ss := (.cons (.asi (.var 0) (.kc (.int 2)) (.sl (.bin .add (.ix (.var 0) (.kc (.int 2))) (.lst (.cons (.tup (.cons (.tup (.cons (.ix (.var 0) (.kc (.int 0))) (.cons (.ix (.var 0) (.kc (.int 1))) .nil))) (.cons (.var 3) .nil))) .nil))) (.neg (.kc (.int 20))) .no))
  (.cons (.asi (.var 0) (.kc (.int 0)) (.var 1))
  (.cons (.asi (.var 0) (.kc (.int 1)) (.var 2))
  .nil)))
def c_law_add : Ss := (.cons (.asg 4 (.kc (.str "")))
  (.cons (.ite (.cmp .inS (.var 2) (.call "_law_names" (.cons (.ix (.var 1) (.kc (.int 0))) .nil)))
 (.cons (.asg 4 (.kc (.str "taken")))
  .nil)
 (.cons (.ite (.lnot (.call "_law_is_program" (.cons (.var 3) .nil)))
 (.cons (.asg 4 (.kc (.str "program")))
  .nil)
 (.cons (.ite (.cmp .eq (.bi .len (.cons (.ix (.var 1) (.kc (.int 0))) .nil)) (.kc (.int 8)))
 (.cons (.asg 4 (.kc (.str "much")))
  .nil)
 .nil)
  .nil))
  .nil))
  (.cons (.try_ (.cons (.ite (.lor (.cons (.cmp .ntN (.meth (.var 0) "add" (.cons (.var 2) (.cons (.var 3) .nil))) (.kc .non)) (.cons (.cmp .ne (.var 4) (.kc (.str ""))) .nil)))
 (.cons (.ret (.kc (.bl false)))
  .nil)
 .nil)
  .nil) "TickError" 5
 (.cons (.ret (.land (.cons (.cmp .ne (.var 4) (.kc (.str ""))) (.cons (.cmp .eq (.call "_law_class" (.cons (.var 5) .nil)) (.var 4)) .nil))))
  .nil))
  (.cons (.ex (.call "_law_entered" (.cons (.var 1) (.cons (.bin .add (.ix (.var 1) (.kc (.int 0))) (.tup (.cons (.tup (.cons (.var 2) (.cons (.var 3) .nil))) .nil))) (.cons (.ix (.var 1) (.kc (.int 1))) (.cons (.tup (.cons (.kc (.str "add")) (.cons (.var 2) .nil))) .nil))))))
  (.cons (.ret (.kc (.bl true)))
  .nil)))))
def c_law_use : Ss := (.cons (.asg 5 (.kc (.str "")))
  (.cons (.ite (.cmp .inS (.var 2) (.call "_law_names" (.cons (.ix (.var 1) (.kc (.int 1))) .nil)))
 (.cons (.asg 5 (.kc (.str "taken")))
  .nil)
 (.cons (.ite (.lnot (.call "_law_is_context" (.cons (.var 3) .nil)))
 (.cons (.asg 5 (.kc (.str "context")))
  .nil)
 (.cons (.ite (.lnot (.call "_law_is_frame" (.cons (.var 3) .nil)))
 (.cons (.asg 5 (.kc (.str "frame")))
  .nil)
 (.cons (.ite (.cmp .niS (.var 4) (.call "_law_names" (.cons (.ix (.var 1) (.kc (.int 0))) .nil)))
 (.cons (.asg 5 (.kc (.str "name")))
  .nil)
 (.cons (.ite (.lnot (.call "_law_is_program" (.cons (.call "_law_put" (.cons (.var 3) (.cons (.ix (.call "_law_of" (.cons (.ix (.var 1) (.kc (.int 0))) (.cons (.var 4) .nil))) (.kc (.int 1))) .nil))) .nil)))
 (.cons (.asg 5 (.kc (.str "program")))
  .nil)
 (.cons (.ite (.cmp .eq (.bi .len (.cons (.ix (.var 1) (.kc (.int 1))) .nil)) (.kc (.int 8)))
 (.cons (.asg 5 (.kc (.str "much")))
  .nil)
 .nil)
  .nil))
  .nil))
  .nil))
  .nil))
  .nil))
  (.cons (.try_ (.cons (.ite (.lor (.cons (.cmp .ntN (.meth (.var 0) "use" (.cons (.var 2) (.cons (.var 3) (.cons (.var 4) .nil)))) (.kc .non)) (.cons (.cmp .ne (.var 5) (.kc (.str ""))) .nil)))
 (.cons (.ret (.kc (.bl false)))
  .nil)
 .nil)
  .nil) "TickError" 6
 (.cons (.ret (.land (.cons (.cmp .ne (.var 5) (.kc (.str ""))) (.cons (.cmp .eq (.call "_law_class" (.cons (.var 6) .nil)) (.var 5)) .nil))))
  .nil))
  (.cons (.ex (.call "_law_entered" (.cons (.var 1) (.cons (.ix (.var 1) (.kc (.int 0))) (.cons (.bin .add (.ix (.var 1) (.kc (.int 1))) (.tup (.cons (.tup (.cons (.var 2) (.cons (.var 3) (.cons (.var 4) .nil)))) .nil))) (.cons (.tup (.cons (.kc (.str "use")) (.cons (.var 2) .nil))) .nil))))))
  (.cons (.ret (.kc (.bl true)))
  .nil)))))
def c_law_barred_b1 : Ss := (.cons (.ite (.land (.cons (.cmp .eq (.var 5) (.var 1)) (.cons (.lnot (.call "_law_is_program" (.cons (.call "_law_put" (.cons (.var 4) (.cons (.var 2) .nil))) .nil))) .nil)))
 (.cons (.ret (.kc (.str "program")))
  .nil)
 .nil)
  .nil)
def c_law_barred : Ss := (.cons (.ite (.cmp .niS (.var 1) (.call "_law_names" (.cons (.ix (.var 0) (.kc (.int 0))) .nil)))
 (.cons (.ret (.kc (.str "name")))
  .nil)
 .nil)
  (.cons (.ite (.lnot (.call "_law_is_program" (.cons (.var 2) .nil)))
 (.cons (.ret (.kc (.str "program")))
  .nil)
 .nil)
  (.cons (.for_ (.tp [3, 4, 5]) (.tup (.ix (.var 0) (.kc (.int 1)))) c_law_barred_b1)
  (.cons (.ret (.kc (.str "")))
  .nil))))
def c_law_said_e1 : E := (.ix (.var 1) (.kc (.int 2)))
def c_law_said : Ss := (.cons (.ret (.bi .tuple (.cons (.lc c_law_said_e1 [1] (.nm 1) (.lst (.dx (.call "_law_ran" (.cons (.var 0) .nil)) (.kc (.str "said")))) .no) .nil)))
  .nil)
def c_law_starts_right_b1 : Ss := (.cons (.ite (.land (.cons (.cmp .eq (.ix (.var 2) (.kc (.int 0))) (.kc (.str "start"))) (.cons (.lnot (.land (.cons (.cmp .lt (.var 1) (.ix (.var 2) (.kc (.int 1)))) (.cons (.cmp .le (.ix (.var 2) (.kc (.int 1))) (.bi .len (.cons (.var 0) .nil))) .nil)))) .nil)))
 (.cons (.ret (.kc (.bl false)))
  .nil)
 .nil)
  .nil)
def c_law_starts_right_b2 : Ss := (.cons (.for_ (.nm 2) (.lst (.call "_law_all" (.cons (.ix (.var 0) (.var 1)) .nil))) c_law_starts_right_b1)
  .nil)
def c_law_starts_right : Ss := (.cons (.for_ (.nm 1) (.rng (.cons (.bi .len (.cons (.var 0) .nil)) .nil)) c_law_starts_right_b2)
  (.cons (.ret (.kc (.bl true)))
  .nil))
def c_law_is_apart : Ss := (.cons (.ite (.lor (.cons (.cmp .lt (.bi .len (.cons (.var 0) .nil)) (.kc (.int 1))) (.cons (.cmp .gt (.bi .len (.cons (.var 0) .nil)) (.kc (.int 3))) (.cons (.lnot (.call "_law_starts_right" (.cons (.var 0) .nil))) (.cons (.cmp .eq (.var 1) (.var 2)) .nil)))))
 (.cons (.ret (.kc (.bl false)))
  .nil)
 .nil)
  (.cons (.ret (.land (.cons (.call "_law_same" (.cons (.var 1) (.cons (.call "_law_said" (.cons (.call "_law_put" (.cons (.var 0) (.cons (.var 3) .nil))) .nil)) .nil))) (.cons (.call "_law_same" (.cons (.var 2) (.cons (.call "_law_said" (.cons (.call "_law_put" (.cons (.var 0) (.cons (.var 4) .nil))) .nil)) .nil))) .nil))))
  .nil))
def c_law_are_changes_b1 : Ss := (.cons (.ite (.cmp .eq (.var 8) (.var 1))
 (.cons (.asg 9 (.call "_law_put" (.cons (.var 7) (.cons (.var 4) .nil))))
  (.cons (.asg 10 (.call "_law_put" (.cons (.var 7) (.cons (.var 2) .nil))))
  (.cons (.ite (.cmp .ne (.call "_law_profile" (.cons (.var 9) .nil)) (.call "_law_profile" (.cons (.var 10) .nil)))
 (.cons (.ite (.lor (.cons (.cmp .eq (.var 5) (.bi .len (.cons (.var 3) .nil))) (.cons (.cmp .ne (.bi .len (.cons (.ix (.var 3) (.var 5)) .nil)) (.kc (.int 4))) (.cons (.cmp .ne (.ix (.ix (.var 3) (.var 5)) (.kc (.int 0))) (.var 6)) .nil))))
 (.cons (.ret (.kc (.bl false)))
  .nil)
 .nil)
  (.cons (.ite (.lnot (.call "_law_is_apart" (.cons (.ix (.ix (.var 3) (.var 5)) (.kc (.int 1))) (.cons (.ix (.ix (.var 3) (.var 5)) (.kc (.int 2))) (.cons (.ix (.ix (.var 3) (.var 5)) (.kc (.int 3))) (.cons (.var 9) (.cons (.var 10) .nil)))))))
 (.cons (.ret (.kc (.bl false)))
  .nil)
 .nil)
  (.cons (.asg 5 (.bin .add (.var 5) (.kc (.int 1))))
  .nil)))
 .nil)
  .nil)))
 .nil)
  .nil)
def c_law_are_changes : Ss := (.cons (.ite (.lnot (.isi (.var 3) .tup))
 (.cons (.ret (.kc (.bl false)))
  .nil)
 .nil)
  (.cons (.asg 4 (.ix (.call "_law_of" (.cons (.ix (.var 0) (.kc (.int 0))) (.cons (.var 1) .nil))) (.kc (.int 1))))
  (.cons (.asg 5 (.kc (.int 0)))
  (.cons (.for_ (.tp [6, 7, 8]) (.tup (.ix (.var 0) (.kc (.int 1)))) c_law_are_changes_b1)
  (.cons (.ret (.cmp .eq (.var 5) (.bi .len (.cons (.var 3) .nil))))
  .nil)))))
def c_law_replaced_e1 : E := (.tup (.cons (.ix (.var 3) (.kc (.int 0))) (.cons (.ife (.cmp .eq (.ix (.var 3) (.kc (.int 0))) (.var 1)) (.var 2) (.ix (.var 3) (.kc (.int 1)))) .nil)))
def c_law_replaced : Ss := (.cons (.ret (.bi .tuple (.cons (.lc c_law_replaced_e1 [3] (.nm 3) (.tup (.var 0)) .no) .nil)))
  .nil)
def c_law_put_deed : Ss := (.cons (.asg 4 (.call "_law_barred" (.cons (.var 1) (.cons (.var 2) (.cons (.var 3) .nil)))))
  (.cons (.asg 5 (.kc .non))
  (.cons (.try_ (.cons (.asg 5 (.meth (.var 0) "changes" (.cons (.var 2) (.cons (.var 3) .nil))))
  .nil) "TickError" 6
 (.cons (.ite (.cmp .ne (.call "_law_class" (.cons (.var 6) .nil)) (.var 4))
 (.cons (.ret (.kc (.bl false)))
  .nil)
 .nil)
  .nil))
  (.cons (.try_ (.cons (.asg 7 (.meth (.var 0) "put" (.cons (.var 2) (.cons (.var 3) .nil))))
  .nil) "TickError" 6
 (.cons (.ret (.land (.cons (.cmp .ne (.var 4) (.kc (.str ""))) (.cons (.cmp .isN (.var 5) (.kc .non)) (.cons (.cmp .eq (.call "_law_class" (.cons (.var 6) .nil)) (.var 4)) .nil)))))
  .nil))
  (.cons (.ite (.lor (.cons (.cmp .ne (.var 4) (.kc (.str ""))) (.cons (.lnot (.call "_law_are_changes" (.cons (.var 1) (.cons (.var 2) (.cons (.var 3) (.cons (.var 5) .nil)))))) (.cons (.lnot (.call "_law_are_changes" (.cons (.var 1) (.cons (.var 2) (.cons (.var 3) (.cons (.var 7) .nil)))))) .nil))))
 (.cons (.ret (.kc (.bl false)))
  .nil)
 .nil)
  (.cons (.ex (.call "_law_entered" (.cons (.var 1) (.cons (.call "_law_replaced" (.cons (.ix (.var 1) (.kc (.int 0))) (.cons (.var 2) (.cons (.var 3) .nil)))) (.cons (.ix (.var 1) (.kc (.int 1))) (.cons (.tup (.cons (.kc (.str "put")) (.cons (.var 2) .nil))) .nil))))))
  (.cons (.ret (.kc (.bl true)))
  .nil)))))))
def c_law_keep : Ss := (.cons (.asg 4 (.call "_law_barred" (.cons (.var 1) (.cons (.var 2) (.cons (.var 3) .nil)))))
  (.cons (.asg 5 (.kc .non))
  (.cons (.ite (.cmp .eq (.var 4) (.kc (.str "")))
 (.cons (.asg 5 (.ix (.call "_law_of" (.cons (.ix (.var 1) (.kc (.int 0))) (.cons (.var 2) .nil))) (.kc (.int 1))))
  (.cons (.ite (.cmp .ne (.call "_law_profile" (.cons (.var 5) .nil)) (.call "_law_profile" (.cons (.var 3) .nil)))
 (.cons (.asg 4 (.kc (.str "unlike")))
  .nil)
 .nil)
  .nil))
 .nil)
  (.cons (.try_ (.cons (.ite (.lor (.cons (.cmp .ntN (.meth (.var 0) "keep" (.cons (.var 2) (.cons (.var 3) .nil))) (.kc .non)) (.cons (.cmp .ne (.var 4) (.kc (.str ""))) .nil)))
 (.cons (.ret (.kc (.bl false)))
  .nil)
 .nil)
  .nil) "TickError" 6
 (.cons (.ite (.land (.cons (.cmp .eq (.var 4) (.kc (.str "unlike"))) (.cons (.cmp .eq (.call "_law_class" (.cons (.var 6) .nil)) (.kc (.str "unlike"))) .nil)))
 (.cons (.ret (.call "_law_is_apart" (.cons (.fld (.var 6) "context") (.cons (.fld (.var 6) "one") (.cons (.fld (.var 6) "other") (.cons (.var 5) (.cons (.var 3) .nil)))))))
  .nil)
 .nil)
  (.cons (.ret (.land (.cons (.cmp .ne (.var 4) (.kc (.str ""))) (.cons (.cmp .eq (.call "_law_class" (.cons (.var 6) .nil)) (.var 4)) .nil))))
  .nil)))
  (.cons (.ex (.call "_law_entered" (.cons (.var 1) (.cons (.call "_law_replaced" (.cons (.ix (.var 1) (.kc (.int 0))) (.cons (.var 2) (.cons (.var 3) .nil)))) (.cons (.ix (.var 1) (.kc (.int 1))) (.cons (.tup (.cons (.kc (.str "keep")) (.cons (.var 2) .nil))) .nil))))))
  (.cons (.ret (.kc (.bl true)))
  .nil))))))
def c_law_stands_e1 : E := (.ix (.var 2) (.kc (.int 1)))
def c_law_stands : Ss := (.cons (.ite (.lor (.cons (.lnot (.call "_law_same" (.cons (.meth (.var 0) "programs" .nil) (.cons (.ix (.var 1) (.kc (.int 0))) .nil)))) (.cons (.lnot (.call "_law_same" (.cons (.meth (.var 0) "users" .nil) (.cons (.ix (.var 1) (.kc (.int 1))) .nil)))) .nil)))
 (.cons (.ret (.kc (.bl false)))
  .nil)
 .nil)
  (.cons (.ret (.call "_law_same" (.cons (.meth (.var 0) "log" .nil) (.cons (.bi .tuple (.cons (.lc c_law_stands_e1 [2] (.nm 2) (.lst (.ix (.var 1) (.kc (.int 2)))) .no) .nil)) .nil))))
  .nil))
def c_law_some_program : Ss := (.cons (.asg 5 (.call "_law_draw" (.cons (.var 0) (.cons (.kc (.int 5)) .nil))))
  (.cons (.asg 6 (.call "_law_program" (.cons (.var 1) (.cons (.var 2) (.cons (.kc (.int 3)) (.cons (.kc (.int 4)) (.cons (.kc (.int 60)) .nil)))))))
  (.cons (.ite (.lor (.cons (.cmp .gt (.var 5) (.kc (.int 2))) (.cons (.cmp .niS (.var 4) (.call "_law_names" (.cons (.ix (.var 3) (.kc (.int 0))) .nil))) .nil)))
 (.cons (.ret (.var 6))
  .nil)
 .nil)
  (.cons (.asg 7 (.ix (.call "_law_of" (.cons (.ix (.var 3) (.kc (.int 0))) (.cons (.var 4) .nil))) (.kc (.int 1))))
  (.cons (.asg 8 (.call "_law_draw" (.cons (.var 0) (.cons (.bin .add (.bi .len (.cons (.ix (.var 7) (.kc (.int 0))) .nil)) (.kc (.int 1))) .nil))))
  (.cons (.asg 9 (.ix (.tup (.cons (.tup (.cons (.kc (.str "repeat")) (.cons (.kc (.int 0)) (.cons (.tup .nil) .nil)))) (.cons (.tup (.cons (.kc (.str "pause")) .nil)) (.cons (.tup (.cons (.kc (.str "say")) (.cons (.kc (.str "x")) .nil))) .nil)))) (.var 5)))
  (.cons (.ret (.bin .add (.tup (.cons (.bin .add (.bin .add (.sl (.ix (.var 7) (.kc (.int 0))) .no (.var 8)) (.tup (.cons (.var 9) .nil))) (.sl (.ix (.var 7) (.kc (.int 0))) (.var 8) .no)) .nil)) (.sl (.var 7) (.kc (.int 1)) .no)))
  .nil)))))))
def c_law_deed : Ss := (.cons (.asg 4 (.call "_law_box" (.cons (.var 0) (.cons (.var 1) .nil))))
  (.cons (.asg 5 (.call "_law_draw" (.cons (.var 4) (.cons (.kc (.int 9)) .nil))))
  (.cons (.asg 6 (.ix (.tup (.cons (.kc (.str "p")) (.cons (.kc (.str "q")) (.cons (.kc (.str "r")) .nil)))) (.call "_law_draw" (.cons (.var 4) (.cons (.kc (.int 3)) .nil)))))
  (.cons (.ite (.cmp .lt (.var 5) (.kc (.int 2)))
 (.cons (.ret (.call "_law_add" (.cons (.var 2) (.cons (.var 3) (.cons (.var 6) (.cons (.call "_law_program" (.cons (.var 0) (.cons (.bin .add (.var 1) (.kc (.int 1))) (.cons (.kc (.int 3)) (.cons (.kc (.int 4)) (.cons (.kc (.int 60)) .nil)))))) .nil))))))
  .nil)
 .nil)
  (.cons (.ite (.cmp .lt (.var 5) (.kc (.int 4)))
 (.cons (.asg 7 (.tup (.cons (.tup (.cons (.tup (.cons (.kc (.str "say")) (.cons (.kc (.str "a")) .nil))) .nil)) (.cons (.tup (.cons (.tup (.cons (.kc (.str "start")) (.cons (.kc (.int 2)) (.cons (.kc (.str "a")) .nil)))) .nil)) (.cons (.tup (.cons (.tup (.cons (.kc (.str "repeat")) (.cons (.kc (.int 1)) (.cons (.tup (.cons (.tup (.cons (.kc (.str "start")) (.cons (.kc (.int 1)) (.cons (.kc (.str "a")) .nil)))) .nil)) .nil)))) .nil)) .nil)))))
  (.cons (.asg 8 (.ife (.cmp .gt (.call "_law_draw" (.cons (.var 4) (.cons (.kc (.int 5)) .nil))) (.kc (.int 0))) (.call "_law_frame" (.cons (.var 0) (.cons (.bin .add (.var 1) (.kc (.int 1))) .nil))) (.tup (.cons (.ix (.var 7) (.call "_law_draw" (.cons (.var 4) (.cons (.kc (.int 3)) .nil)))) .nil))))
  (.cons (.ret (.call "_law_use" (.cons (.var 2) (.cons (.var 3) (.cons (.ix (.tup (.cons (.kc (.str "u")) (.cons (.kc (.str "v")) (.cons (.kc (.str "w")) .nil)))) (.call "_law_draw" (.cons (.var 4) (.cons (.kc (.int 3)) .nil)))) (.cons (.var 8) (.cons (.var 6) .nil)))))))
  .nil)))
 .nil)
  (.cons (.ite (.cmp .lt (.var 5) (.kc (.int 6)))
 (.cons (.ret (.call "_law_put_deed" (.cons (.var 2) (.cons (.var 3) (.cons (.var 6) (.cons (.call "_law_some_program" (.cons (.var 4) (.cons (.var 0) (.cons (.bin .add (.var 1) (.kc (.int 1))) (.cons (.var 3) (.cons (.var 6) .nil)))))) .nil))))))
  .nil)
 .nil)
  (.cons (.ite (.cmp .lt (.var 5) (.kc (.int 8)))
 (.cons (.ret (.call "_law_keep" (.cons (.var 2) (.cons (.var 3) (.cons (.var 6) (.cons (.call "_law_some_program" (.cons (.var 4) (.cons (.var 0) (.cons (.bin .add (.var 1) (.kc (.int 1))) (.cons (.var 3) (.cons (.var 6) .nil)))))) .nil))))))
  .nil)
 .nil)
  (.cons (.ret (.call "_law_undo" (.cons (.var 2) (.cons (.var 3) .nil))))
  .nil))))))))
def c_law_begun_book : Ss := (.cons (.asg 1 (.make "Book" .nil))
  (.cons (.asg 2 (.lst (.cons (.tup .nil) (.cons (.tup .nil) (.cons (.lst .nil) .nil)))))
  (.cons (.asg 3 (.call "_law_add" (.cons (.var 1) (.cons (.var 2) (.cons (.kc (.str "p")) (.cons (.call "_law_program" (.cons (.var 0) (.cons (.kc (.int 0)) (.cons (.kc (.int 3)) (.cons (.kc (.int 4)) (.cons (.kc (.int 60)) .nil)))))) .nil))))))
  (.cons (.asg 3 (.land (.cons (.var 3) (.cons (.call "_law_use" (.cons (.var 1) (.cons (.var 2) (.cons (.kc (.str "u")) (.cons (.call "_law_frame" (.cons (.var 0) (.cons (.kc (.int 4)) .nil))) (.cons (.kc (.str "p")) .nil)))))) .nil))))
  (.cons (.ret (.tup (.cons (.var 1) (.cons (.var 2) (.cons (.var 3) .nil)))))
  .nil)))))
def c_law_k60_b1 : Ss := (.cons (.ite (.lor (.cons (.lnot (.call "_law_deed" (.cons (.var 0) (.cons (.bin .add (.kc (.int 8)) (.bin .mul (.kc (.int 6)) (.var 4))) (.cons (.var 1) (.cons (.var 2) .nil)))))) (.cons (.lnot (.call "_law_stands" (.cons (.var 1) (.cons (.var 2) .nil)))) .nil)))
 (.cons (.ret (.kc (.bl false)))
  .nil)
 .nil)
  .nil)
def c_law_k60 : Ss := (.cons (.ast [1, 2, 3] (.call "_law_begun_book" (.cons (.var 0) .nil)))
  (.cons (.ite (.lor (.cons (.lnot (.var 3)) (.cons (.lnot (.call "_law_stands" (.cons (.var 1) (.cons (.var 2) .nil)))) .nil)))
 (.cons (.ret (.kc (.bl false)))
  .nil)
 .nil)
  (.cons (.for_ (.nm 4) (.rng (.cons (.bi .min (.cons (.bi .max (.cons (.bin .sub (.bi .len (.cons (.var 0) .nil)) (.kc (.int 8))) (.cons (.kc (.int 2)) .nil))) (.cons (.kc (.int 6)) .nil))) .nil)) c_law_k60_b1)
  (.cons (.ret (.kc (.bl true)))
  .nil))))
def c_law_program_of : Ss := (.cons (.try_ (.cons (.ret (.tup (.cons (.kc (.str "told")) (.cons (.meth (.var 0) "program" (.cons (.var 1) .nil)) .nil))))
  .nil) "TickError" 2
 (.cons (.ret (.tup (.cons (.call "_law_class" (.cons (.var 2) .nil)) (.cons (.kc .non) .nil))))
  .nil))
  .nil)
def c_law_user_of_b1 : Ss := (.cons (.try_ (.cons (.ex (.bm (.var 2) .append (.cons (.tup (.cons (.kc (.str "told")) (.cons (.ife (.cmp .eq (.var 3) (.kc (.int 0))) (.meth (.var 0) "user" (.cons (.var 1) .nil)) (.meth (.var 0) "told" (.cons (.var 1) .nil))) .nil))) .nil)))
  .nil) "TickError" 4
 (.cons (.ex (.bm (.var 2) .append (.cons (.tup (.cons (.call "_law_class" (.cons (.var 4) .nil)) (.cons (.kc .non) .nil))) .nil)))
  .nil))
  .nil)
def c_law_user_of : Ss := (.cons (.asg 2 (.lst .nil))
  (.cons (.for_ (.nm 3) (.rng (.cons (.kc (.int 2)) .nil)) c_law_user_of_b1)
  (.cons (.ret (.bi .tuple (.cons (.var 2) .nil)))
  .nil)))
def c_law_tells_b1 : Ss := (.cons (.asg 4 (.tup (.cons (.tup (.cons (.kc (.str "name")) (.cons (.kc .non) .nil))) (.cons (.tup (.cons (.kc (.str "name")) (.cons (.kc .non) .nil))) .nil))))
  (.cons (.ite (.cmp .inS (.var 3) (.call "_law_names" (.cons (.var 2) .nil)))
 (.cons (.asg 5 (.call "_law_of" (.cons (.var 2) (.cons (.var 3) .nil))))
  (.cons (.asg 6 (.call "_law_put" (.cons (.ix (.var 5) (.kc (.int 1))) (.cons (.ix (.call "_law_of" (.cons (.var 1) (.cons (.ix (.var 5) (.kc (.int 2))) .nil))) (.kc (.int 1))) .nil))))
  (.cons (.asg 4 (.tup (.cons (.tup (.cons (.kc (.str "told")) (.cons (.tup (.cons (.ix (.var 5) (.kc (.int 1))) (.cons (.ix (.var 5) (.kc (.int 2))) .nil))) .nil))) (.cons (.tup (.cons (.kc (.str "told")) (.cons (.call "_law_profile" (.cons (.var 6) .nil)) .nil))) .nil))))
  .nil)))
 .nil)
  (.cons (.ite (.lnot (.call "_law_same" (.cons (.call "_law_user_of" (.cons (.var 0) (.cons (.var 3) .nil))) (.cons (.var 4) .nil))))
 (.cons (.ret (.kc (.bl false)))
  .nil)
 .nil)
  .nil)))
def c_law_tells_b2 : Ss := (.cons (.asg 4 (.tup (.cons (.kc (.str "name")) (.cons (.kc .non) .nil))))
  (.cons (.ite (.cmp .inS (.var 3) (.call "_law_names" (.cons (.var 1) .nil)))
 (.cons (.asg 4 (.tup (.cons (.kc (.str "told")) (.cons (.ix (.call "_law_of" (.cons (.var 1) (.cons (.var 3) .nil))) (.kc (.int 1))) .nil))))
  .nil)
 .nil)
  (.cons (.ite (.lnot (.call "_law_same" (.cons (.call "_law_program_of" (.cons (.var 0) (.cons (.var 3) .nil))) (.cons (.var 4) .nil))))
 (.cons (.ret (.kc (.bl false)))
  .nil)
 .nil)
  .nil)))
def c_law_tells : Ss := (.cons (.for_ (.nm 3) (.tup (.tup (.cons (.kc (.str "p")) (.cons (.kc (.str "q")) (.cons (.kc (.str "r")) (.cons (.kc (.str "s")) .nil)))))) c_law_tells_b2)
  (.cons (.for_ (.nm 3) (.tup (.tup (.cons (.kc (.str "u")) (.cons (.kc (.str "v")) (.cons (.kc (.str "w")) (.cons (.kc (.str "x")) .nil)))))) c_law_tells_b1)
  (.cons (.ret (.kc (.bl true)))
  .nil)))
def c_law_k61_b1 : Ss := (.cons (.ite (.lnot (.call "_law_add" (.cons (.var 1) (.cons (.var 2) (.cons (.ix (.tup (.cons (.kc (.str "p")) (.cons (.kc (.str "q")) (.cons (.kc (.str "r")) .nil)))) (.call "_law_draw" (.cons (.var 3) (.cons (.kc (.int 3)) .nil)))) (.cons (.call "_law_program" (.cons (.var 0) (.cons (.bin .add (.kc (.int 1)) (.bin .mul (.kc (.int 4)) (.var 4))) (.cons (.kc (.int 3)) (.cons (.kc (.int 4)) (.cons (.kc (.int 60)) .nil)))))) .nil))))))
 (.cons (.ret (.kc (.bl false)))
  .nil)
 .nil)
  (.cons (.asg 5 (.ix (.tup (.cons (.kc (.str "p")) (.cons (.kc (.str "q")) (.cons (.kc (.str "r")) .nil)))) (.call "_law_draw" (.cons (.var 3) (.cons (.kc (.int 3)) .nil)))))
  (.cons (.ite (.lnot (.call "_law_use" (.cons (.var 1) (.cons (.var 2) (.cons (.ix (.tup (.cons (.kc (.str "u")) (.cons (.kc (.str "v")) (.cons (.kc (.str "w")) .nil)))) (.var 4)) (.cons (.call "_law_frame" (.cons (.var 0) (.cons (.bin .add (.kc (.int 13)) (.bin .mul (.kc (.int 4)) (.var 4))) .nil))) (.cons (.var 5) .nil)))))))
 (.cons (.ret (.kc (.bl false)))
  .nil)
 .nil)
  (.cons (.ite (.lnot (.call "_law_tells" (.cons (.var 1) (.cons (.ix (.var 2) (.kc (.int 0))) (.cons (.ix (.var 2) (.kc (.int 1))) .nil)))))
 (.cons (.ret (.kc (.bl false)))
  .nil)
 .nil)
  .nil))))
def c_law_k61 : Ss := (.cons (.asg 1 (.make "Book" .nil))
  (.cons (.asg 2 (.lst (.cons (.tup .nil) (.cons (.tup .nil) (.cons (.lst .nil) .nil)))))
  (.cons (.asg 3 (.call "_law_box" (.cons (.var 0) (.cons (.kc (.int 0)) .nil))))
  (.cons (.for_ (.nm 4) (.rng (.cons (.bin .add (.kc (.int 1)) (.call "_law_draw" (.cons (.var 3) (.cons (.kc (.int 3)) .nil)))) .nil)) c_law_k61_b1)
  (.cons (.asg 6 (.call "_law_program" (.cons (.var 0) (.cons (.kc (.int 26)) (.cons (.kc (.int 3)) (.cons (.kc (.int 4)) (.cons (.kc (.int 60)) .nil)))))))
  (.cons (.asg 7 (.ix (.ix (.ix (.var 2) (.kc (.int 0))) (.kc (.int 0))) (.kc (.int 0))))
  (.cons (.ite (.cmp .ne (.call "_law_barred" (.cons (.var 2) (.cons (.var 7) (.cons (.var 6) .nil)))) (.kc (.str "")))
 (.cons (.ret (.kc (.bl true)))
  .nil)
 .nil)
  (.cons (.ex (.meth (.var 1) "put" (.cons (.var 7) (.cons (.var 6) .nil))))
  (.cons (.ret (.call "_law_tells" (.cons (.var 1) (.cons (.call "_law_replaced" (.cons (.ix (.var 2) (.kc (.int 0))) (.cons (.var 7) (.cons (.var 6) .nil)))) (.cons (.ix (.var 2) (.kc (.int 1))) .nil)))))
  .nil)))))))))
def c_law_k62_b1 : Ss := (.cons (.ite (.lnot (.call "_law_undo" (.cons (.var 7) (.cons (.var 8) .nil))))
 (.cons (.ret (.kc (.bl false)))
  .nil)
 .nil)
  .nil)
def c_law_k62_b2 : Ss := (.cons (.ite (.lnot (.call "_law_undo" (.cons (.var 1) (.cons (.var 2) .nil))))
 (.cons (.ret (.kc (.bl false)))
  .nil)
 .nil)
  .nil)
def c_law_k62_b3 : Ss := (.cons (.ite (.lnot (.call "_law_keep" (.cons (.var 1) (.cons (.var 2) (.cons (.kc (.str "p0")) (.cons (.var 4) .nil))))))
 (.cons (.ret (.kc (.bl false)))
  .nil)
 .nil)
  .nil)
def c_law_k62_b4 : Ss := (.cons (.ite (.lnot (.call "_law_use" (.cons (.var 1) (.cons (.var 2) (.cons (.bin .add (.kc (.str "u")) (.bi .str (.cons (.var 6) .nil))) (.cons (.var 5) (.cons (.bin .add (.kc (.str "p")) (.bi .str (.cons (.call "_law_draw" (.cons (.var 3) (.cons (.kc (.int 9)) .nil))) .nil))) .nil)))))))
 (.cons (.ret (.kc (.bl false)))
  .nil)
 .nil)
  .nil)
def c_law_k62_b5 : Ss := (.cons (.ite (.lnot (.call "_law_add" (.cons (.var 1) (.cons (.var 2) (.cons (.bin .add (.kc (.str "p")) (.bi .str (.cons (.var 6) .nil))) (.cons (.var 4) .nil))))))
 (.cons (.ret (.kc (.bl false)))
  .nil)
 .nil)
  .nil)
def c_law_k62 : Ss := (.cons (.asg 1 (.make "Book" .nil))
  (.cons (.asg 2 (.lst (.cons (.tup .nil) (.cons (.tup .nil) (.cons (.lst .nil) .nil)))))
  (.cons (.asg 3 (.call "_law_box" (.cons (.var 0) (.cons (.kc (.int 0)) .nil))))
  (.cons (.asg 4 (.tup (.cons (.tup (.cons (.tup (.cons (.kc (.str "say")) (.cons (.call "_law_word" (.cons (.var 3) .nil)) .nil))) (.cons (.tup (.cons (.kc (.str "pause")) .nil)) .nil))) .nil)))
  (.cons (.asg 5 (.tup (.cons (.tup (.cons (.tup (.cons (.kc (.str "start")) (.cons (.kc (.int 1)) (.cons (.kc (.str "a")) .nil)))) (.cons (.tup (.cons (.kc (.str "wait")) (.cons (.kc (.str "a")) .nil))) .nil))) .nil)))
  (.cons (.for_ (.nm 6) (.rng (.cons (.bin .add (.kc (.int 7)) (.call "_law_draw" (.cons (.var 3) (.cons (.kc (.int 3)) .nil)))) .nil)) c_law_k62_b5)
  (.cons (.for_ (.nm 6) (.rng (.cons (.bin .add (.kc (.int 7)) (.call "_law_draw" (.cons (.var 3) (.cons (.kc (.int 3)) .nil)))) .nil)) c_law_k62_b4)
  (.cons (.ite (.lnot (.call "_law_stands" (.cons (.var 1) (.cons (.var 2) .nil))))
 (.cons (.ret (.kc (.bl false)))
  .nil)
 .nil)
  (.cons (.asg 7 (.meth (.var 1) "fork" .nil))
  (.cons (.asg 8 (.lst (.cons (.ix (.var 2) (.kc (.int 0))) (.cons (.ix (.var 2) (.kc (.int 1))) (.cons (.bi .list (.cons (.ix (.var 2) (.kc (.int 2))) .nil)) .nil)))))
  (.cons (.for_ (.nm 6) (.rng (.cons (.kc (.int 22)) .nil)) c_law_k62_b3)
  (.cons (.ite (.lor (.cons (.lnot (.call "_law_stands" (.cons (.var 1) (.cons (.var 2) .nil)))) (.cons (.lnot (.call "_law_stands" (.cons (.var 7) (.cons (.var 8) .nil)))) (.cons (.cmp .ne (.bi .len (.cons (.ix (.var 2) (.kc (.int 2))) .nil)) (.kc (.int 20))) .nil))))
 (.cons (.ret (.kc (.bl false)))
  .nil)
 .nil)
  (.cons (.for_ (.nm 6) (.rng (.cons (.kc (.int 21)) .nil)) c_law_k62_b2)
  (.cons (.ite (.lor (.cons (.lnot (.call "_law_put_deed" (.cons (.var 7) (.cons (.var 8) (.cons (.kc (.str "p1")) (.cons (.tup (.cons (.tup .nil) .nil)) .nil)))))) (.cons (.lnot (.call "_law_stands" (.cons (.var 7) (.cons (.var 8) .nil)))) (.cons (.lnot (.call "_law_stands" (.cons (.var 1) (.cons (.var 2) .nil)))) .nil))))
 (.cons (.ret (.kc (.bl false)))
  .nil)
 .nil)
  (.cons (.for_ (.nm 6) (.rng (.cons (.kc (.int 20)) .nil)) c_law_k62_b1)
  (.cons (.ret (.land (.cons (.call "_law_stands" (.cons (.var 7) (.cons (.var 8) .nil))) (.cons (.call "_law_stands" (.cons (.var 1) (.cons (.var 2) .nil))) .nil))))
  .nil))))))))))))))))
def c_law_great : Ss := (.cons (.asg 1 (.bin .add (.kc (.int 84)) (.call "_law_draw" (.cons (.var 0) (.cons (.kc (.int 17)) .nil)))))
  (.cons (.ret (.tup (.cons (.tup (.cons (.tup (.cons (.kc (.str "repeat")) (.cons (.var 1) (.cons (.bin .mul (.tup (.cons (.tup (.cons (.kc (.str "pause")) .nil)) .nil)) (.bin .add (.kc (.int 3)) (.call "_law_draw" (.cons (.var 0) (.cons (.kc (.int 4)) .nil))))) .nil)))) .nil)) .nil)))
  .nil))
def c_law_deed_of : Ss := (.cons (.asg 4 (.call "_law_draw" (.cons (.var 0) (.cons (.kc (.int 5)) .nil))))
  (.cons (.asg 5 (.call "_law_great" (.cons (.var 0) .nil)))
  (.cons (.ite (.cmp .eq (.var 4) (.kc (.int 0)))
 (.cons (.ret (.call "_law_add" (.cons (.var 1) (.cons (.var 2) (.cons (.ix (.tup (.cons (.kc (.str "p")) (.cons (.kc (.str "q")) (.cons (.kc (.str "r")) .nil)))) (.call "_law_draw" (.cons (.var 0) (.cons (.kc (.int 3)) .nil)))) (.cons (.var 5) .nil))))))
  .nil)
 .nil)
  (.cons (.ite (.cmp .eq (.var 4) (.kc (.int 1)))
 (.cons (.ret (.call "_law_use" (.cons (.var 1) (.cons (.var 2) (.cons (.ix (.tup (.cons (.kc (.str "u")) (.cons (.kc (.str "v")) (.cons (.kc (.str "w")) .nil)))) (.call "_law_draw" (.cons (.var 0) (.cons (.kc (.int 3)) .nil)))) (.cons (.var 3) (.cons (.ix (.tup (.cons (.kc (.str "p")) (.cons (.kc (.str "q")) .nil))) (.call "_law_draw" (.cons (.var 0) (.cons (.kc (.int 2)) .nil)))) .nil)))))))
  .nil)
 .nil)
  (.cons (.ite (.cmp .eq (.var 4) (.kc (.int 2)))
 (.cons (.ret (.call "_law_put_deed" (.cons (.var 1) (.cons (.var 2) (.cons (.ix (.tup (.cons (.kc (.str "p")) (.cons (.kc (.str "q")) .nil))) (.call "_law_draw" (.cons (.var 0) (.cons (.kc (.int 2)) .nil)))) (.cons (.var 5) .nil))))))
  .nil)
 .nil)
  (.cons (.ite (.cmp .eq (.var 4) (.kc (.int 3)))
 (.cons (.ret (.call "_law_keep" (.cons (.var 1) (.cons (.var 2) (.cons (.ix (.tup (.cons (.kc (.str "p")) (.cons (.kc (.str "q")) .nil))) (.call "_law_draw" (.cons (.var 0) (.cons (.kc (.int 2)) .nil)))) (.cons (.var 5) .nil))))))
  .nil)
 .nil)
  (.cons (.ret (.call "_law_undo" (.cons (.var 1) (.cons (.var 2) .nil))))
  .nil)))))))
def c_law_k63_b1 : Ss := (.cons (.asg 5 (.call "_law_box" (.cons (.var 0) (.cons (.bin .add (.kc (.int 8)) (.var 4)) .nil))))
  (.cons (.ite (.lor (.cons (.lnot (.call "_law_deed_of" (.cons (.var 5) (.cons (.var 1) (.cons (.var 2) (.cons (.call "_law_frame" (.cons (.var 0) (.cons (.bin .add (.kc (.int 20)) (.bin .mul (.kc (.int 5)) (.var 4))) .nil))) .nil)))))) (.cons (.lnot (.call "_law_stands" (.cons (.var 1) (.cons (.var 2) .nil)))) .nil)))
 (.cons (.ret (.kc (.bl false)))
  .nil)
 .nil)
  .nil))
def c_law_k63 : Ss := (.cons (.asg 1 (.make "Book" .nil))
  (.cons (.asg 2 (.lst (.cons (.tup .nil) (.cons (.tup .nil) (.cons (.lst .nil) .nil)))))
  (.cons (.asg 3 (.call "_law_frame" (.cons (.var 0) (.cons (.kc (.int 0)) .nil))))
  (.cons (.ite (.lor (.cons (.lnot (.call "_law_add" (.cons (.var 1) (.cons (.var 2) (.cons (.kc (.str "p")) (.cons (.tup (.cons (.tup (.cons (.tup (.cons (.kc (.str "pause")) .nil)) .nil)) .nil)) .nil)))))) (.cons (.lnot (.call "_law_use" (.cons (.var 1) (.cons (.var 2) (.cons (.kc (.str "u")) (.cons (.var 3) (.cons (.kc (.str "p")) .nil))))))) .nil)))
 (.cons (.ret (.kc (.bl false)))
  .nil)
 .nil)
  (.cons (.for_ (.nm 4) (.rng (.cons (.bi .min (.cons (.bi .max (.cons (.bin .sub (.bi .len (.cons (.var 0) .nil)) (.kc (.int 8))) (.cons (.kc (.int 3)) .nil))) (.cons (.kc (.int 5)) .nil))) .nil)) c_law_k63_b1)
  (.cons (.ret (.kc (.bl true)))
  .nil))))))
def c_law_alike_in_b1 : Ss := (.cons (.asg 4 (.call "_law_outer" (.cons (.var 0) (.cons (.bin .add (.kc (.int 50)) (.bin .mul (.kc (.int 4)) (.var 3))) (.cons (.kc (.int 3)) (.cons (.kc (.int 5)) (.cons (.kc (.int 30)) .nil)))))))
  (.cons (.ite (.cmp .ne (.call "_law_said" (.cons (.call "_law_put" (.cons (.var 4) (.cons (.var 1) .nil))) .nil)) (.call "_law_said" (.cons (.call "_law_put" (.cons (.var 4) (.cons (.var 2) .nil))) .nil)))
 (.cons (.ret (.kc (.bl false)))
  .nil)
 .nil)
  .nil))
def c_law_alike_in : Ss := (.cons (.for_ (.nm 3) (.rng (.cons (.kc (.int 3)) .nil)) c_law_alike_in_b1)
  (.cons (.ret (.kc (.bl true)))
  .nil))
def c_law_put_walked_e1 : E := (.ix (.var 8) (.kc (.int 0)))
def c_law_put_walked_e2 : E := (.cmp .inS (.var 9) (.lc c_law_put_walked_e1 [8] (.nm 8) (.tup (.ix (.var 2) (.kc (.int 1)))) (.cmp .eq (.ix (.var 8) (.kc (.int 2))) (.var 3))))
def c_law_put_walked_b3 : Ss := (.cons (.ite (.cmp .eq (.var 11) (.var 3))
 (.cons (.asg 12 (.call "_law_put" (.cons (.var 10) (.cons (.var 5) .nil))))
  (.cons (.asg 13 (.call "_law_put" (.cons (.var 10) (.cons (.var 4) .nil))))
  (.cons (.ite (.cmp .inS (.var 9) (.var 7))
 (.cons (.asg 8 (.ix (.var 6) (.bm (.var 7) .index (.cons (.var 9) .nil))))
  (.cons (.ite (.lnot (.call "_law_is_apart" (.cons (.ix (.var 8) (.kc (.int 1))) (.cons (.ix (.var 8) (.kc (.int 2))) (.cons (.ix (.var 8) (.kc (.int 3))) (.cons (.var 12) (.cons (.var 13) .nil)))))))
 (.cons (.ret (.kc (.bl false)))
  .nil)
 .nil)
  .nil))
 (.cons (.ite (.lnot (.call "_law_alike_in" (.cons (.var 0) (.cons (.var 12) (.cons (.var 13) .nil)))))
 (.cons (.ret (.kc (.bl false)))
  .nil)
 .nil)
  .nil))
  .nil)))
 .nil)
  .nil)
def c_law_put_walked_e4 : E := (.ix (.var 8) (.kc (.int 0)))
def c_law_put_walked : Ss := (.cons (.asg 5 (.ix (.call "_law_of" (.cons (.ix (.var 2) (.kc (.int 0))) (.cons (.var 3) .nil))) (.kc (.int 1))))
  (.cons (.asg 6 (.meth (.var 1) "put" (.cons (.var 3) (.cons (.var 4) .nil))))
  (.cons (.asg 7 (.lc c_law_put_walked_e4 [8] (.nm 8) (.lst (.var 6)) .no))
  (.cons (.for_ (.tp [9, 10, 11]) (.tup (.ix (.var 2) (.kc (.int 1)))) c_law_put_walked_b3)
  (.cons (.ex (.call "_law_entered" (.cons (.var 2) (.cons (.call "_law_replaced" (.cons (.ix (.var 2) (.kc (.int 0))) (.cons (.var 3) (.cons (.var 4) .nil)))) (.cons (.ix (.var 2) (.kc (.int 1))) (.cons (.tup (.cons (.kc (.str "put")) (.cons (.var 3) .nil))) .nil))))))
  (.cons (.ret (.bi .all (.cons (.lc c_law_put_walked_e2 [9] (.nm 9) (.tup (.var 7)) .no) .nil)))
  .nil))))))
def c_law_keep_walked : Ss := (.cons (.asg 5 (.ix (.call "_law_of" (.cons (.ix (.var 2) (.kc (.int 0))) (.cons (.var 3) .nil))) (.kc (.int 1))))
  (.cons (.try_ (.cons (.ex (.meth (.var 1) "keep" (.cons (.var 3) (.cons (.var 4) .nil))))
  .nil) "TickError" 6
 (.cons (.ret (.land (.cons (.cmp .eq (.call "_law_class" (.cons (.var 6) .nil)) (.kc (.str "unlike"))) (.cons (.call "_law_is_apart" (.cons (.fld (.var 6) "context") (.cons (.fld (.var 6) "one") (.cons (.fld (.var 6) "other") (.cons (.var 5) (.cons (.var 4) .nil)))))) .nil))))
  .nil))
  (.cons (.ex (.call "_law_entered" (.cons (.var 2) (.cons (.call "_law_replaced" (.cons (.ix (.var 2) (.kc (.int 0))) (.cons (.var 3) (.cons (.var 4) .nil)))) (.cons (.ix (.var 2) (.kc (.int 1))) (.cons (.tup (.cons (.kc (.str "keep")) (.cons (.var 3) .nil))) .nil))))))
  (.cons (.ret (.call "_law_alike_in" (.cons (.var 0) (.cons (.var 5) (.cons (.var 4) .nil)))))
  .nil))))
def c_law_users_hold_b1 : Ss := (.cons (.asg 6 (.call "_law_put" (.cons (.var 4) (.cons (.ix (.call "_law_of" (.cons (.ix (.var 2) (.kc (.int 0))) (.cons (.var 5) .nil))) (.kc (.int 1))) .nil))))
  (.cons (.ite (.lnot (.call "_law_alike_in" (.cons (.var 0) (.cons (.var 6) (.cons (.call "standard_program" (.cons (.meth (.var 1) "told" (.cons (.var 3) .nil)) .nil)) .nil)))))
 (.cons (.ret (.kc (.bl false)))
  .nil)
 .nil)
  .nil))
def c_law_users_hold : Ss := (.cons (.for_ (.tp [3, 4, 5]) (.tup (.ix (.var 2) (.kc (.int 1)))) c_law_users_hold_b1)
  (.cons (.ret (.kc (.bl true)))
  .nil))
def c_law_k90_b1 : Ss := (.cons (.asg 5 (.bin .add (.kc (.int 8)) (.bin .mul (.kc (.int 6)) (.var 4))))
  (.cons (.asg 6 (.call "_law_box" (.cons (.var 0) (.cons (.var 5) .nil))))
  (.cons (.asg 7 (.call "_law_draw" (.cons (.var 6) (.cons (.kc (.int 6)) .nil))))
  (.cons (.asg 8 (.call "_law_some_program" (.cons (.var 6) (.cons (.var 0) (.cons (.bin .add (.var 5) (.kc (.int 1))) (.cons (.var 2) (.cons (.kc (.str "p")) .nil)))))))
  (.cons (.ite (.cmp .eq (.var 7) (.kc (.int 0)))
 (.cons (.asg 3 (.call "_law_use" (.cons (.var 1) (.cons (.var 2) (.cons (.ix (.tup (.cons (.kc (.str "v")) (.cons (.kc (.str "w")) (.cons (.kc (.str "x")) .nil)))) (.call "_law_draw" (.cons (.var 6) (.cons (.kc (.int 3)) .nil)))) (.cons (.call "_law_frame" (.cons (.var 0) (.cons (.bin .add (.var 5) (.kc (.int 1))) .nil))) (.cons (.kc (.str "p")) .nil)))))))
  .nil)
 (.cons (.ite (.cmp .ne (.call "_law_barred" (.cons (.var 2) (.cons (.kc (.str "p")) (.cons (.var 8) .nil)))) (.kc (.str "")))
 (.cons (.asg 3 (.kc (.bl true)))
  .nil)
 (.cons (.ite (.cmp .lt (.var 7) (.kc (.int 3)))
 (.cons (.asg 3 (.call "_law_put_walked" (.cons (.var 0) (.cons (.var 1) (.cons (.var 2) (.cons (.kc (.str "p")) (.cons (.var 8) .nil)))))))
  .nil)
 (.cons (.ite (.cmp .lt (.var 7) (.kc (.int 5)))
 (.cons (.asg 3 (.call "_law_keep_walked" (.cons (.var 0) (.cons (.var 1) (.cons (.var 2) (.cons (.kc (.str "p")) (.cons (.var 8) .nil)))))))
  .nil)
 (.cons (.asg 3 (.ife (.cmp .gt (.bi .len (.cons (.ix (.var 2) (.kc (.int 2))) .nil)) (.kc (.int 2))) (.call "_law_undo" (.cons (.var 1) (.cons (.var 2) .nil))) (.kc (.bl true))))
  .nil))
  .nil))
  .nil))
  .nil))
  (.cons (.ite (.lor (.cons (.lnot (.var 3)) (.cons (.lnot (.call "_law_stands" (.cons (.var 1) (.cons (.var 2) .nil)))) (.cons (.lnot (.call "_law_users_hold" (.cons (.var 0) (.cons (.var 1) (.cons (.var 2) .nil))))) .nil))))
 (.cons (.ret (.kc (.bl false)))
  .nil)
 .nil)
  .nil))))))
def c_law_k90 : Ss := (.cons (.ast [1, 2, 3] (.call "_law_begun_book" (.cons (.var 0) .nil)))
  (.cons (.ite (.lor (.cons (.lnot (.var 3)) (.cons (.lnot (.call "_law_users_hold" (.cons (.var 0) (.cons (.var 1) (.cons (.var 2) .nil))))) .nil)))
 (.cons (.ret (.kc (.bl false)))
  .nil)
 .nil)
  (.cons (.for_ (.nm 4) (.rng (.cons (.bi .min (.cons (.bi .max (.cons (.bin .sub (.bi .len (.cons (.var 0) .nil)) (.kc (.int 8))) (.cons (.kc (.int 2)) .nil))) (.cons (.kc (.int 5)) .nil))) .nil)) c_law_k90_b1)
  (.cons (.ret (.kc (.bl true)))
  .nil))))
end SK.D

set_option Elab.async false
set_option linter.all false
set_option maxRecDepth 100000
/-! W1: what all laws share: digits, boxes, draws, blocks, programs. -/
namespace SK.W
open PySem PySem.Spec PyProof.Rows L2 SK SK.D SK.C
/-! ### statements as values -/
mutual
def enc : Stm → T
  | .say w => .tup [.str "say", .str w]
  | .pause => .tup [.str "pause"]
  | .start b v => .tup [.str "start", .int b, .str v]
  | .wait v => .tup [.str "wait", .str v]
  | .adopt v => .tup [.str "adopt", .str v]
  | .ret => .tup [.str "return"]
  | .fail => .tup [.str "fail"]
  | .tr b h => .tup [.str "try", .tup (encs b), .tup (encs h)]
  | .rep n b => .tup [.str "repeat", .int n, .tup (encs b)]
def encs : List Stm → List T
  | [] => []
  | s :: r => enc s :: encs r
end
theorem encs_app : ∀ {a b : List Stm}, encs (a ++ b) = encs a ++ encs b
  | [], _ => rfl
  | s :: r, b => by simp [encs, encs_app (a := r)]
theorem encs_map : ∀ (b : List Stm), encs b = b.map enc
  | [] => rfl
  | s :: r => by simp [encs, encs_map r]
theorem encs_len {b : List Stm} : (encs b).length = b.length := by simp [encs_map]
abbrev encB (b : Blk) : T := .tup (encs b)
abbrev encP (P : List Blk) : T := .tup (P.map encB)
/-- blocks nested less than d deep, each statement by I -/
def subs (B : List Stm → Prop) : Stm → Prop
  | .tr b h => B b ∧ B h
  | .rep _ b => B b
  | .say _ => True | .pause => True | .start _ _ => True | .wait _ => True | .adopt _ => True | .ret => True | .fail => True
def okB (I : Stm → Prop) : Nat → List Stm → Prop
  | 0, _ => False
  | d + 1, b => ∀ s ∈ b, I s ∧ subs (okB I d) s
theorem subs_imp {B B' : List Stm → Prop} (h : ∀ b, B b → B' b) : ∀ {s : Stm}, subs B s → subs B' s
  | .tr _ _, z => ⟨h _ z.1, h _ z.2⟩
  | .rep _ _, z => h _ z
  | .say _, _ => trivial | .pause, _ => trivial | .start _ _, _ => trivial | .wait _, _ => trivial | .adopt _, _ => trivial | .ret, _ => trivial | .fail, _ => trivial
theorem okB_imp {I I' : Stm → Prop} (h : ∀ s, I s → I' s) : ∀ {d : Nat} {b : List Stm}, okB I d b → okB I' d b
  | d + 1, b, z => fun s hs => ⟨h s (z s hs).1, subs_imp (fun _ => okB_imp h) (z s hs).2⟩
theorem okB_up {I : Stm → Prop} : ∀ {d e : Nat} {b : List Stm}, d ≤ e → okB I d b → okB I e b
  | d + 1, e + 1, b, he, z => fun s hs => ⟨(z s hs).1, subs_imp (fun _ => okB_up (by omega)) (z s hs).2⟩
theorem okB_app {I : Stm → Prop} {d : Nat} {a b : List Stm} (h1 : okB I (d + 1) a) (h2 : okB I (d + 1) b) : okB I (d + 1) (a ++ b) := fun s hs => by
  rcases List.mem_append.mp hs with z | z
  · exact h1 s z
  · exact h2 s z
/-! ### the law's digits, boxes and draws -/
def spCell : Pr := fun ts G Q _ => ∃ (ns : List Int) (k : Int), ts = [.frl (ns.map T.int), .int k] ∧ 0 ≤ k ∧ ∀ z, Q (.int z) G
theorem tAt_map {ns : List Int} {k : Int} (h0 : 0 ≤ k) (h : k < ns.length) : ∃ z, tAt (ns.map T.int) k = some (.int z) := by
  have hk : k.toNat < ns.length := by omega
  refine ⟨ns[k.toNat], ?_⟩
  unfold tAt
  rw [if_pos h0, List.getElem?_map, List.getElem?_eq_getElem hk]
  rfl
theorem w_cell {M : Gm} : Ob c_law_cell 2 M spCell := by
  rintro ts G Q X ⟨ns, k, rfl, h0, q⟩
  simp [c_law_cell, slots0]
  refine cnd_dec (fun h => ?_) (fun h => ?_)
  · obtain ⟨z, e⟩ := tAt_map h0 h
    simp [e]
    refine KB.of ?_
    simp
    exact q z
  · simp
    exact q 0
abbrev zsT (ns : List Int) : List T := ns.map T.int
theorem zsT_snoc (ns : List Int) (z : Int) : zsT ns ++ [T.int z] = zsT (ns ++ [z]) := by simp [zsT]
def spDigits : Pr := fun ts G Q _ => ∃ (c k : Int), ts = [.int c, .int k] ∧ -1000 ≤ k ∧ k ≤ 1000 ∧ ∀ p ns, G p = none → Q (.ref p) (gu G p (.lst (zsT ns)))
theorem cm1 {i j : Int} (h : -(2 ^ 64) < j ∧ j < 2 ^ 64) : CMul i j := .inr h
theorem dig1 {M : Gm} {D : En} {G : Gp} {p : Addr} {k : Int} {w : Option T} {st : Gp → Prop} {f1 f2 f3} (hs : ∀ G, st G) (hD : ∀ c v acc, D.nx [some (.int c), some (.int k), some (.ref p), v, w] (gu G p (.lst (zsT acc)))) :
    ∀ (xs : List T) (acc : List Int) (c : Int) (v : Option T), acc.length + xs.length ≤ 1000 → forB M st (.nm 3) c_law_digits_b1 D xs [some (.int c), some (.int k), some (.ref p), v, w] (gu G p (.lst (zsT acc))) f1 f2 f3
  | [], acc, c, v, h => by simp [hs]; exact hD _ _ _
  | x :: xs, acc, c, v, h => by
    simp only [List.length_cons] at h
    rw [Fcons]
    refine ⟨hs _, ?_⟩
    simp [c_law_digits_b1]
    refine cnd_dec (fun h2 => ?_) (fun h2 => ?_)
    · simp
      refine ⟨by unfold line; omega, KB.of ?_⟩
      simp [gu_gu]
      have := dig1 (M := M) (f1 := .mk) (f2 := .mk) (f3 := .mk) hs hD xs (acc ++ [c % 1000]) (c / 1000) (some x) (by simp; omega)
      rw [← zsT_snoc] at this
      exact this
    · simp
      exact dig1 hs hD xs acc c (some x) (by omega)
theorem upto_int {lo st : Int} {n : Nat} : ∀ x ∈ upto lo st n, ∃ z, x = T.int z := fun x h => by
  unfold upto at h
  obtain ⟨i, _, e⟩ := List.mem_map.mp h
  exact ⟨_, e.symm⟩
@[simp] theorem upto_len {lo st : Int} {n : Nat} : (upto lo st n).length = n := by simp [upto]
theorem dig2 {M : Gm} {D : En} {G : Gp} {p : Addr} {k c : Int} {st : Gp → Prop} {f1 f2 f3} (hs : ∀ G, st G) (hD : ∀ v w acc, D.nx [some (.int c), some (.int k), some (.ref p), v, w] (gu G p (.lst (zsT acc)))) :
    ∀ (xs : List T) (acc : List Int) (s : Int) (v : Option T), (∀ x ∈ xs, ∃ z, x = T.int z) → acc.length + xs.length ≤ 1000 → forB M st (.nm 3) c_law_digits_b2 D xs [some (.int c), some (.int k), some (.ref p), v, some (.int s)] (gu G p (.lst (zsT acc))) f1 f2 f3
  | [], acc, s, v, _, h => by simp [hs]; exact hD _ _ _
  | x :: xs, acc, s, v, hx, h => by
    simp only [List.length_cons] at h
    obtain ⟨x, rfl⟩ := hx x List.mem_cons_self
    rw [Fcons]
    refine ⟨hs _, ?_⟩
    simp [c_law_digits_b2]
    refine ⟨.inr (by decide), .inl (by decide), by unfold line; omega, KB.of ?_⟩
    simp [gu_gu]
    have := dig2 (M := M) (f1 := .mk) (f2 := .mk) (f3 := .mk) hs hD xs (acc ++ [(s * 16807 + 7 * x + 1) % 2147483647 / 997 % 1000]) ((s * 16807 + 7 * x + 1) % 2147483647) (some (.int x)) (fun y hy => hx y (List.mem_cons_of_mem _ hy)) (by simp; omega)
    rw [← zsT_snoc] at this
    exact this
theorem w_digits {M : Gm} : Ob c_law_digits 5 M spDigits := by
  rintro ts G Q X ⟨c, k, rfl, hk1, hk2, q⟩
  simp [c_law_digits, slots0]
  intro p hp
  refine KB.of ?_
  simp
  refine cnd_dec (fun _ => ?_) (fun _ => ?_) <;> simp
  · refine ⟨.inl (by decide), ?_⟩
    refine cnd_dec (fun _ => ?_) (fun _ => ?_) <;> simp
    · exact dig1 (acc := []) (fun _ => trivial) (fun c v acc => by simp; exact q p acc hp) _ _ _ (by simp)
    · refine ⟨.inr (by decide), .inr (by decide), ?_⟩
      exact dig2 (acc := []) (fun _ => trivial) (fun c v acc => by simp; exact q p acc hp) _ _ _ upto_int (by simp)
  · refine cnd_dec (fun _ => ?_) (fun _ => ?_) <;> simp
    · exact dig1 (acc := []) (fun _ => trivial) (fun c v acc => by simp; exact q p acc hp) _ _ _ (by simp)
    · refine ⟨.inr (by decide), .inr (by decide), ?_⟩
      exact dig2 (acc := []) (fun _ => trivial) (fun c v acc => by simp; exact q p acc hp) _ _ _ upto_int (by simp)
/-- a box at a, its digits at d -/
structure BoxAt (G : Gp) (a d : Addr) : Prop where
  ne : a ≠ d
  bx : ∃ i : Int, 0 ≤ i ∧ G a = some (.lst [.ref d, .int i])
  dg : ∃ ns : List Int, G d = some (.lst (zsT ns))
def spBox : Pr := fun ts G Q _ => ∃ (ns : List Int) (k : Int), ts = [.frl (ns.map T.int), .int k] ∧ 0 ≤ k ∧ k ≤ 1000 ∧ ∀ a d G', G a = none → G d = none → (∀ p o, G p = some o → G' p = some o) → BoxAt G' a d → Q (.ref a) G'
theorem w_box {M : Gm} (h1 : M.fn "" "_law_cell" = some spCell) (h2 : M.fn "" "_law_digits" = some spDigits) : Ob c_law_box 2 M spBox := by
  rintro ts G Q X ⟨ns, k, rfl, h0, hk, q⟩
  simp [c_law_box, slots0, Wcall h1, Wcall h2]
  refine PrB.of ⟨ns, k, rfl, h0, fun z => ?_⟩
  simp
  refine PrB.of ⟨z, k, rfl, by omega, hk, fun d ns' hd => ?_⟩
  simp
  intro a ha
  refine KB.of ?_
  have had : a ≠ d := fun e => by subst e; rw [gu_same] at ha; cases ha
  refine q a d _ (by rw [gu_ne had] at ha; exact ha) hd (fun p o e => ?_) ⟨had, ⟨0, by decide, gu_same⟩, ns', by rw [gu_ne had.symm, gu_same]⟩
  have hpd : p ≠ d := fun z => by subst z; rw [hd] at e; cases e
  have hpa : p ≠ a := fun z => by subst z; rw [gu_ne had] at ha; rw [ha] at e; cases e
  rw [gu_ne hpa, gu_ne hpd]
  exact e
def spDraw : Pr := fun ts G Q _ => ∃ (a d : Addr) (m : Int), ts = [.ref a, .int m] ∧ BoxAt G a d ∧ 0 < m ∧ ∀ r G', 0 ≤ r → r < m → BoxAt G' a d → (∀ p, p ≠ a → G' p = G p) → Q (.int r) G'
theorem w_draw {M : Gm} : Ob c_law_draw 3 M spDraw := by
  rintro ts G Q X ⟨a, d, m, rfl, ⟨ne, ⟨i, hi, ea⟩, ns, ed⟩, hm, q⟩
  simp [c_law_draw, slots0, ea, tAt1]
  refine KB.of ?_
  simp [ea]
  refine ⟨1, rfl, KB.of ?_⟩
  simp [gu_same, tAt0]
  refine KB.of ?_
  simp [gu_ne ne.symm, ed]
  refine KB.of ?_
  simp
  have hb : BoxAt (gu G a (.lst [.ref d, .int (i + 1)])) a d := ⟨ne, ⟨i + 1, by omega, gu_same⟩, ns, by rw [gu_ne ne.symm]; exact ed⟩
  refine cnd_dec (fun h => ?_) (fun h => ?_) <;> simp
  · simp [tAt0]
    refine KB.of ?_
    obtain ⟨z, e⟩ := tAt_map hi h
    simp [gu_ne ne.symm, ed, e]
    refine KB.of ?_
    simp
    exact ⟨hm, q _ _ (Int.emod_nonneg _ (by omega)) (Int.emod_lt_of_pos _ hm) hb fun p hp => gu_ne hp⟩
  · exact q 0 _ (by decide) hm hb fun p hp => gu_ne hp
/-! ### the same -/
def Ext (G G' : Gp) : Prop := ∀ p o, G p = some o → G' p = some o
theorem Ext.refl (G : Gp) : Ext G G := fun _ _ h => h
theorem Ext.trans {G G1 G2 : Gp} (a : Ext G G1) (b : Ext G1 G2) : Ext G G2 := fun p o h => b p o (a p o h)
theorem Ext.gu {G G1 : Gp} {p : Addr} {o : GO} (h : G p = none) (a : Ext G G1) : Ext G (SK.gu G1 p o) := fun q u e => by
  have hq : q ≠ p := fun z => by subst z; rw [h] at e; cases e
  rw [gu_ne hq]
  exact a q u e
/-- data nested less than d deep -/
def VD : Nat → T → Prop
  | 0, _ => False
  | _ + 1, .non => True
  | _ + 1, .bl _ => True
  | _ + 1, .int _ => True
  | _ + 1, .str _ => True
  | d + 1, .tup xs => xs.length < 1000000 ∧ ∀ x ∈ xs, VD d x
  | _ + 1, _ => False
theorem VD.up : ∀ {d e : Nat} {t : T}, d ≤ e → VD d t → VD e t
  | d + 1, e + 1, .tup xs, h, v => ⟨v.1, fun x hx => VD.up (Nat.le_of_succ_le_succ h) (v.2 x hx)⟩
  | d + 1, e + 1, .non, h, v => trivial
  | d + 1, e + 1, .bl _, h, v => trivial
  | d + 1, e + 1, .int _, h, v => trivial
  | d + 1, e + 1, .str _, h, v => trivial
  | d + 1, e + 1, .frl _, h, v => v.elim
  | d + 1, e + 1, .ref _, h, v => v.elim
def spSame (ok : T → Prop) : Pr := fun ts G Q _ => ∃ t, ts = [t, t] ∧ ok t ∧ ∀ G', Ext G G' → Q (.bl true) G'
def spIsInt : Pr := fun ts G Q _ => ∃ i, ts = [.int i] ∧ Q (.bl true) G
theorem w_is_integer {M : Gm} : Ob c_law_is_integer 1 M spIsInt := by
  rintro ts G Q X ⟨i, rfl, q⟩
  simp [c_law_is_integer, slots0]
  exact q
theorem same1 {M : Gm} {G0 : Gp} {xs : List T} {A : Addr} {Q : QT} {v : Option T} {ok : T → Prop} {st : Gp → Prop} {f1 f2} (hs : ∀ G, st G) (hf : M.fn "" "_law_same" = some (spSame ok)) (hx : ∀ x ∈ xs, ok x) (hA : G0 A = none)
    (hQ : ∀ (bs : List Bool) G', bs.all id = true → G' A = some (.lst (bs.map T.bl)) → Ext G0 G' → Q (.ref A) G') :
    ∀ (ys : List T) (bs : List Bool) (G : Gp), (∀ y ∈ ys, ∃ i : Int, y = .int i ∧ 0 ≤ i ∧ i < xs.length) → bs.all id = true → bs.length + ys.length ≤ 1000000 → G A = some (.lst (bs.map T.bl)) → Ext G0 G → lcB M st (.nm 2) [2] .no c_law_same_e1 A ys [some (.tup xs), some (.tup xs), v] G Q f1 f2
  | [], bs, G, _, hb, _, ha, he => by simp [hs]; exact hQ bs G hb ha he
  | y :: ys, bs, G, hy, hb, hl, ha, he => by
    obtain ⟨i, rfl, h0, h1⟩ := hy y List.mem_cons_self
    obtain ⟨t, e1, e2⟩ := tAt_get h0 h1
    simp only [List.length_cons] at hl
    rw [Lcons]
    refine ⟨hs _, ?_⟩
    simp [c_law_same_e1, Wcall hf, e1]
    refine KB.of ?_; simp [e1]
    refine KB.of ?_; simp
    refine PrB.of ⟨t, rfl, hx t (List.mem_of_getElem? e2), fun G' hG => ?_⟩
    refine ⟨_, hG _ _ ha, by simp [line]; omega, ?_⟩
    have e3 : bs.map T.bl ++ [T.bl true] = (bs ++ [true]).map T.bl := by simp
    rw [e3]
    exact same1 hs hf hx hA hQ ys (bs ++ [true]) _ (fun z hz => hy z (List.mem_cons_of_mem _ hz)) (by simp [hb]) (by simp; omega) gu_same (Ext.gu hA (he.trans hG))
theorem upto_mem {n : Nat} : ∀ y ∈ upto 0 1 n, ∃ i : Int, y = .int i ∧ 0 ≤ i ∧ i < n := fun y h => by
  unfold upto at h
  obtain ⟨i, hi, e⟩ := List.mem_map.mp h
  have := List.mem_range.mp hi
  exact ⟨0 + (i : Int) * 1, e.symm, by omega, by omega⟩
theorem w_same {M : Gm} {d : Nat} (hf : M.fn "" "_law_same" = some (spSame (VD d))) (hi : M.fn "" "_law_is_integer" = some spIsInt) : Ob c_law_same 3 M (spSame (VD (d + 1))) := by
  rintro ts G Q X ⟨t, rfl, ht, q⟩
  cases t with
  | non =>
    simp [c_law_same, slots0]
    exact q _ (Ext.refl _)
  | bl b =>
    simp [c_law_same, slots0]
    exact q _ (Ext.refl _)
  | int i =>
    simp [c_law_same, slots0, Wcall hi]
    refine PrB.of ⟨i, rfl, ?_⟩
    simp
    exact q _ (Ext.refl _)
  | str s =>
    simp [c_law_same, slots0]
    exact q _ (Ext.refl _)
  | tup xs =>
    obtain ⟨hl, hx⟩ := ht
    simp [c_law_same, slots0]
    refine ⟨by omega, fun A hA => ?_⟩
    refine same1 (fun _ => trivial) hf hx hA (fun bs G' hb ha he => ?_) _ [] _ (by simpa using upto_mem) rfl (by simp; omega) gu_same (Ext.gu hA (Ext.refl _))
    simp [ha]
    refine ⟨bs, rfl, KB.of ?_⟩
    rw [hb]
    exact q _ he
  | frl xs => exact ht.elim
  | ref a => exact ht.elim
theorem tAt_all {xs : List T} {i : Int} {P : T → Prop} (h : ∀ x ∈ xs, P x) (h0 : 0 ≤ i) (h1 : i < xs.length) : ∃ v, tAt xs i = some v ∧ P v := by
  obtain ⟨v, e1, e2⟩ := tAt_get h0 h1
  exact ⟨v, e1, h v (List.mem_of_getElem? e2)⟩
theorem eqx {α : Type} {x : Option α} {v : α} {P : α → Prop} (e : x = some v) (h : P v) : ∃ u, x = some u ∧ P u := ⟨v, e, h⟩
def LW : List String := ["a", "b", "c", "d", "e0", "x", "9", "longer99"]
def LN : List String := ["a", "b", "c", "d"]
def spWord : Pr := fun ts G Q _ => ∃ a d, ts = [.ref a] ∧ BoxAt G a d ∧ ∀ w G', w ∈ LW → BoxAt G' a d → (∀ p, p ≠ a → G' p = G p) → Q (.str w) G'
theorem w_word {M : Gm} (hf : M.fn "" "_law_draw" = some spDraw) : Ob c_law_word 1 M spWord := by
  rintro ts G Q X ⟨a, d, rfl, hb, q⟩
  simp [c_law_word, slots0, Wcall hf]
  refine PrB.of ⟨a, d, 8, rfl, hb, by decide, fun r G' h0 h1 hb' hg => ?_⟩
  simp
  obtain ⟨v, e, w, rfl, hw⟩ := tAt_all (P := fun t => ∃ w, t = T.str w ∧ w ∈ LW) (xs := [.str "a", .str "b", .str "c", .str "d", .str "e0", .str "x", .str "9", .str "longer99"]) (by simp [LW]) h0 (by simpa using h1)
  exact eqx e (KB.of (q w _ hw hb' hg))
/-- all but the box at a stays -/
def Fr (a : Addr) (G G' : Gp) : Prop := ∀ p o, p ≠ a → G p = some o → G' p = some o
end SK.W

set_option Elab.async false
set_option linter.all false
set_option maxRecDepth 100000
/-! W2: drawn blocks and programs. -/
namespace SK.W
open PySem PySem.Spec PyProof.Rows L2 SK SK.D SK.C
/-- a drawn statement of body lo of hi bodies -/
def LI (lo hi : Int) : Stm → Prop
  | .say w => w ∈ LW
  | .start b v => lo < b ∧ b < hi ∧ v ∈ LN
  | .wait v => v ∈ LN
  | .adopt v => v ∈ LN
  | .rep n _ => 0 ≤ n ∧ n < 4
  | .pause => True | .ret => True | .fail => True | .tr _ _ => True
def spBlk : Nat → Pr
  | 0 => fun _ _ _ _ => False
  | n + 1 => fun ts G Q _ => ∃ (a d : Addr) (most body bodies : Int), ts = [.ref a, .int n, .int most, .int body, .int bodies] ∧ BoxAt G a d ∧ 0 ≤ most ∧ most ≤ 100 ∧ 0 ≤ body ∧ body < bodies ∧
      ∀ b G', okB (LI body bodies) (n + 1) b → (b.length : Int) ≤ most → BoxAt G' a d → Fr a G G' → Q (encB b) G'
structure BInv (n : Nat) (G0 : Gp) (a d l : Addr) (G : Gp) (I : Stm → Prop) (xs : List Stm) : Prop where
  bx : BoxAt G a d
  fr : Fr a G0 G
  la : l ≠ a
  ld : l ≠ d
  l0 : G0 l = none
  lst : G l = some (.lst (encs xs))
  ok : okB I (n + 1) xs
theorem BInv.same {n : Nat} {G0 G G' : Gp} {a d l : Addr} {IP : Stm → Prop} {xs : List Stm} (I : BInv n G0 a d l G IP xs) (h : BoxAt G' a d) (f : Fr a G G') : BInv n G0 a d l G' IP xs :=
  ⟨h, fun p o hp e => f p o hp (I.fr p o hp e), I.la, I.ld, I.l0, f _ _ I.la I.lst, I.ok⟩
theorem fr_of {a : Addr} {G G' : Gp} (h : ∀ p, p ≠ a → G' p = G p) : Fr a G G' := fun p o hp e => by rw [h p hp]; exact e
theorem BInv.app {n : Nat} {G0 G : Gp} {a d l : Addr} {IP : Stm → Prop} {xs : List Stm} (I : BInv n G0 a d l G IP xs) {x : Stm} (hx : IP x ∧ subs (okB IP n) x) : BInv n G0 a d l (gu G l (.lst (encs xs ++ [enc x]))) IP (xs ++ [x]) := by
  obtain ⟨⟨ne, ⟨i, hi, ea⟩, ns, ed⟩, fr, la, ld, l0, lst, ok⟩ := I
  refine ⟨⟨ne, ⟨i, hi, by rw [gu_ne la.symm]; exact ea⟩, ns, by rw [gu_ne ld.symm]; exact ed⟩, fun p o hp e => ?_, la, ld, l0, by rw [gu_same, encs_app]; rfl, fun y hy => ?_⟩
  · have hpl : p ≠ l := fun z => by subst z; rw [l0] at e; cases e
    rw [gu_ne hpl]
    exact fr p o hp e
  · rcases List.mem_append.mp hy with h | h
    · exact ok y h
    · simp at h; subst h; exact hx
theorem blk1 {M : Gm} {D : En} {G0 : Gp} {n : Nat} {a d l : Addr} {k most body bodies : Int} {st : Gp → Prop} {f1 f2 f3} (hs : ∀ G, st G) (hk : k = (n : Int)) (hd : M.fn "" "_law_draw" = some spDraw) (hw : M.fn "" "_law_word" = some spWord) (hf : M.fn "" "_law_block" = some (spBlk n)) (hm : most ≤ 100) (hb0 : 0 ≤ body) (hb1 : body < bodies)
    (hD : ∀ G xs v6 v7 v8 v9, BInv n G0 a d l G (LI body bodies) xs → (xs.length : Int) ≤ most → D.nx [some (.ref a), some (.int k), some (.int most), some (.int body), some (.int bodies), some (.ref l), v6, v7, v8, v9] G) :
    ∀ (ys : List T) (G : Gp) (xs : List Stm) (v6 v7 v8 v9 : Option T), BInv n G0 a d l G (LI body bodies) xs → ((xs.length + ys.length : Nat) : Int) ≤ most →
      forB M st (.nm 6) c_law_block_b1 D ys [some (.ref a), some (.int k), some (.int most), some (.int body), some (.int bodies), some (.ref l), v6, v7, v8, v9] G f1 f2 f3
  | [], G, xs, v6, v7, v8, v9, I, hl => by simp [hs]; exact hD G xs _ _ _ _ I (by simpa using hl)
  | y :: ys, G, xs, v6, v7, v8, v9, I, hl => by
    simp only [List.length_cons] at hl
    have ih := fun G' x v6' v7' v8' v9' (I' : BInv n G0 a d l G' (LI body bodies) xs) (hx : LI body bodies x ∧ subs (okB (LI body bodies) n) x) => blk1 (M := M) (f1 := .mk) (f2 := .mk) (f3 := .mk) (st := st) (most := most) hs hk hd hw hf hm hb0 hb1 hD ys (gu G' l (.lst (encs xs ++ [enc x]))) (xs ++ [x]) v6' v7' v8' v9' (I'.app hx) (by simp; omega)
    have hxl : (encs xs).length < line := by rw [encs_len]; unfold line; omega
    rw [Fcons]
    refine ⟨hs _, ?_⟩
    simp [c_law_block_b1, Wcall hd]
    refine PrB.of ⟨a, d, 16, rfl, I.bx, by decide, fun r G1 h0 h1 b1 g1 => ?_⟩
    have I1 := I.same b1 (fr_of g1)
    simp [Wcall hd]
    refine PrB.of ⟨a, d, 6, rfl, b1, by decide, fun r2 G2 h20 h21 b2 g2 => ?_⟩
    have I2 := I1.same b2 (fr_of g2)
    simp
    obtain ⟨v, e, w, rfl, hwn⟩ := tAt_all (P := fun t => ∃ w, t = T.str w ∧ w ∈ LN) (xs := [.str "a", .str "b", .str "a", .str "c", .str "d", .str "a"]) (by simp [LN]) h20 (by simpa using h21)
    refine eqx e (KB.of ?_)
    simp
    refine cnd_dec (fun _ => ?_) (fun _ => ?_)
    · simp [I2.lst, Wcall hw]
      refine PrB.of ⟨a, d, rfl, b2, fun s G3 hs3 b3 g3 => ?_⟩
      have I3 := I2.same b3 (fr_of g3)
      simp [I3.lst, hxl]
      refine KB.of ?_
      simp
      exact ih _ (.say s) _ _ _ _ I3 ⟨hs3, trivial⟩
    simp
    refine cnd_dec (fun _ => ?_) (fun _ => ?_)
    · simp [I2.lst, hxl]
      refine KB.of ?_
      simp
      exact ih _ .pause _ _ _ _ I2 ⟨trivial, trivial⟩
    simp
    have tri : (r < 9 ∧ body + 1 < bodies) ∨ (r < 9 ∧ ¬ body + 1 < bodies) ∨ ¬ r < 9 := by omega
    rcases tri with ⟨h1, h2⟩ | ⟨h1, h2⟩ | h1
    · simp [h1, h2, I2.lst, Wcall hd]
      refine PrB.of ⟨a, d, _, rfl, b2, by omega, fun s G3 h30 h31 b3 g3 => ?_⟩
      have I3 := I2.same b3 (fr_of g3)
      simp [I3.lst, hxl]
      refine KB.of ?_
      simp
      exact ih _ (.start (body + 1 + s) w) _ _ _ _ I3 ⟨⟨by omega, by omega, hwn⟩, trivial⟩
    all_goals
      first | simp [h1, h2] | simp [h1]
      refine cnd_dec (fun _ => ?_) (fun _ => ?_)
      · simp [I2.lst, hxl]
        refine KB.of ?_
        simp
        exact ih _ (.wait w) _ _ _ _ I2 ⟨hwn, trivial⟩
      simp
      refine cnd_dec (fun _ => ?_) (fun _ => ?_)
      · simp [I2.lst, hxl, Wcall hd]
        refine PrB.of ⟨a, d, 4, rfl, b2, by decide, fun s G3 h30 h31 b3 g3 => ?_⟩
        have I3 := I2.same b3 (fr_of g3)
        simp
        obtain ⟨v', e', x', rfl, hv'⟩ := tAt_all (P := fun t => ∃ x, t = enc x ∧ LI body bodies x ∧ subs (okB (LI body bodies) n) x) (xs := [.tup [.str "adopt", .str w], .tup [.str "fail"], .tup [.str "return"], .tup [.str "pause"]]) (i := s)
          (by
            simp
            exact ⟨⟨.adopt w, rfl, hwn, trivial⟩, ⟨.fail, rfl, trivial, trivial⟩, ⟨.ret, rfl, trivial, trivial⟩, ⟨.pause, rfl, trivial, trivial⟩⟩) h30 (by simpa using h31)
        refine eqx e' (KB.of ?_)
        simp [I3.lst, hxl]
        refine KB.of ?_
        simp
        exact ih _ x' _ _ _ _ I3 hv'
      simp
      cases n with
      | zero =>
        have hk0 : ¬ (0 < k) := by omega
        by_cases h14 : r < 14
        · simp [h14, hk0, I2.lst, Wcall hw]
          refine PrB.of ⟨a, d, rfl, b2, fun s G3 hs3 b3 g3 => ?_⟩
          have I3 := I2.same b3 (fr_of g3)
          simp [I3.lst, hxl]
          refine KB.of ?_
          simp
          exact ih _ (.say s) _ _ _ _ I3 ⟨hs3, trivial⟩
        · simp [h14, hk0, I2.lst, Wcall hw]
          refine PrB.of ⟨a, d, rfl, b2, fun s G3 hs3 b3 g3 => ?_⟩
          have I3 := I2.same b3 (fr_of g3)
          simp [I3.lst, hxl]
          refine KB.of ?_
          simp
          exact ih _ (.say s) _ _ _ _ I3 ⟨hs3, trivial⟩
      | succ m =>
        have hk0 : 0 < k := by omega
        have hk1 : k - 1 = (m : Int) := by omega
        by_cases h14 : r < 14
        · simp [h14, hk0, I2.lst, Wcall hf]
          refine PrB.of ⟨a, d, 3, body, bodies, by rw [hk1], b2, by decide, by decide, hb0, hb1, fun p G3 hp hpl b3 f3 => ?_⟩
          have I3 := I2.same b3 f3
          simp [I3.lst, Wcall hf]
          refine PrB.of ⟨a, d, 2, body, bodies, by rw [hk1], b3, by decide, by decide, hb0, hb1, fun q G4 hq hql b4 f4 => ?_⟩
          have I4 := I3.same b4 f4
          simp [I4.lst, hxl]
          refine KB.of ?_
          exact ih _ (.tr p q) _ _ _ _ I4 ⟨trivial, hp, hq⟩
        · simp [h14, hk0, I2.lst, Wcall hf, Wcall hd]
          refine PrB.of ⟨a, d, 4, rfl, b2, by decide, fun s G3 h30 h31 b3 g3 => ?_⟩
          have I3 := I2.same b3 (fr_of g3)
          simp [I3.lst, Wcall hf]
          refine PrB.of ⟨a, d, 3, body, bodies, by rw [hk1], b3, by decide, by decide, hb0, hb1, fun q G4 hq hql b4 f4 => ?_⟩
          have I4 := I3.same b4 f4
          simp [I4.lst, hxl]
          refine KB.of ?_
          simp
          exact ih _ (.rep s q) _ _ _ _ I4 ⟨⟨h30, h31⟩, hq⟩
theorem w_block {M : Gm} {n : Nat} (hd : M.fn "" "_law_draw" = some spDraw) (hw : M.fn "" "_law_word" = some spWord) (hf : M.fn "" "_law_block" = some (spBlk n)) : Ob c_law_block 10 M (spBlk (n + 1)) := by
  rintro ts G Q X ⟨a, d, most, body, bodies, rfl, hb, hm0, hm1, hb0, hb1, q⟩
  simp [c_law_block, slots0, Wcall hd]
  intro l hl
  refine KB.of ?_
  have la : l ≠ a := fun z => by
    obtain ⟨_, ⟨i, _, e⟩, _⟩ := hb
    subst z
    rw [hl] at e
    cases e
  have ld : l ≠ d := fun z => by
    obtain ⟨_, _, ns, e⟩ := hb
    subst z
    rw [hl] at e
    cases e
  have I0 : BInv n G a d l (gu G l (.lst [])) (LI body bodies) [] := by
    refine ⟨⟨hb.ne, ?_, ?_⟩, fun p o hp e => ?_, la, ld, hl, gu_same, fun s hs => absurd hs (by simp)⟩
    · obtain ⟨i, h0, e⟩ := hb.bx
      exact ⟨i, h0, by rw [gu_ne la.symm]; exact e⟩
    · obtain ⟨ns, e⟩ := hb.dg
      exact ⟨ns, by rw [gu_ne ld.symm]; exact e⟩
    · have hpl : p ≠ l := fun z => by subst z; rw [hl] at e; cases e
      rw [gu_ne hpl]
      exact e
  simp [Wcall hd]
  refine PrB.of ⟨a, d, _, rfl, I0.bx, by omega, fun r G1 h0 h1 b1 g1 => ?_⟩
  have I1 := I0.same b1 (fr_of g1)
  simp
  refine ⟨⟨by omega, by omega⟩, ?_⟩
  refine blk1 (fun _ => trivial) rfl hd hw hf hm1 hb0 hb1 (fun G2 xs v6 v7 v8 v9 I2 hl2 => ?_) _ _ [] _ _ _ _ I1 (by simp; omega)
  simp [I2.lst]
  refine KB.of ?_
  exact q xs _ I2.ok hl2 I2.bx I2.fr
end SK.W

set_option Elab.async false
set_option linter.all false
set_option maxRecDepth 100000
/-! W3: counts and sizes (the three size functions printed by gw3.py). -/
namespace SK.W
open PySem PySem.Spec PyProof.Rows L2 SK SK.D SK.C
mutual
def cntS : Stm → Nat
  | .tr b h => 1 + cnt b + cnt h
  | .rep _ b => 1 + cnt b
  | .say _ => 1 | .pause => 1 | .start _ _ => 1 | .wait _ => 1 | .adopt _ => 1 | .ret => 1 | .fail => 1
def cnt : List Stm → Nat
  | [] => 0
  | s :: r => cntS s + cnt r
end
mutual
/-- sizes, under the sizes g of bodies -/
def szS (g : Int → Int) : Stm → Int
  | .start b _ => 1 + g b
  | .tr b h => 2 + szs g b + szs g h
  | .rep n b => 2 + n * (1 + szs g b)
  | .say _ => 1 | .pause => 1 | .wait _ => 1 | .adopt _ => 1 | .ret => 1 | .fail => 1
def szs (g : Int → Int) : List Stm → Int
  | [] => 1
  | s :: r => szS g s + szs g r
end
def RB : Stm → Prop
  | .rep n _ => -1000000 ≤ n ∧ n ≤ 1000000
  | .say _ => True | .pause => True | .start _ _ => True | .wait _ => True | .adopt _ => True | .ret => True | .fail => True | .tr _ _ => True
theorem LI_RB {lo hi : Int} : ∀ {s : Stm}, LI lo hi s → RB s
  | .rep n _, h => ⟨by have := h.1; omega, by have := h.2; omega⟩
  | .say _, _ => trivial | .pause, _ => trivial | .start _ _, _ => trivial | .wait _, _ => trivial | .adopt _, _ => trivial | .ret, _ => trivial | .fail, _ => trivial | .tr _ _, _ => trivial
/-! ### how many -/
def spCnt (d : Nat) : Pr := fun ts G Q _ => ∃ b : Blk, ts = [encB b] ∧ okB (fun _ => True) d b ∧ Q (.int (cnt b)) G
theorem cutT_one {α : Type} {x : α} {r : List α} : cutT (x :: r) (some 1) none = r := by
  simp [cutT, HT.sIx]
theorem cnt2 {M : Gm} {D : En} {G : Gp} {b : T} {st : Gp → Prop} {f1 f2 f3} {d : Nat} {N : Int} (hs : ∀ G, st G) (hf : M.fn "" "_law_count" = some (spCnt d)) (hD : ∀ w v, D.nx [some b, some (.int N), w, v] G) :
    ∀ (xs : Blk) (n : Int) (w v : Option T), (∀ x ∈ xs, subs (okB (fun _ => True) d) x) → n + cnt xs = N → forB M st (.nm 2) c_law_count_b2 D (encs xs) [some b, some (.int n), w, v] G f1 f2 f3
  | [], n, w, v, _, h => by
    simp only [cnt] at h
    have h : n = N := by omega
    subst h
    simp only [encs, Fnil]
    exact ⟨hs _, hD _ _⟩
  | x :: xs, n, w, v, hx, h => by
    have ih := fun n' w' v' h' => cnt2 (M := M) (f1 := .mk) (f2 := .mk) (f3 := .mk) (st := st) hs hf hD xs n' w' v' (fun y hy => hx y (List.mem_cons_of_mem _ hy)) h'
    have hx0 := hx x List.mem_cons_self
    simp only [cnt] at h
    rw [encs, Fcons]
    refine ⟨hs _, ?_⟩
    cases x with
    | tr p q =>
      simp [c_law_count_b2, enc, cutT_one, Fcons]
      simp [c_law_count_b1, Wcall hf]
      refine PrB.of ⟨p, rfl, hx0.1, ?_⟩
      simp [Wcall hf]
      refine PrB.of ⟨q, rfl, hx0.2, ?_⟩
      simp
      exact ih _ _ _ (by simp only [cntS] at h; omega)
    | rep k p =>
      simp [c_law_count_b2, enc, cutT_one, Fcons]
      simp [c_law_count_b1, Wcall hf]
      refine PrB.of ⟨p, rfl, hx0, ?_⟩
      simp
      exact ih _ _ _ (by simp only [cntS] at h; omega)
    | _ =>
      simp [c_law_count_b2, enc, cutT_one, Fcons]
      try simp [c_law_count_b1]
      exact ih _ _ _ (by simp only [cntS] at h; omega)
theorem w_count {M : Gm} {d : Nat} (hf : M.fn "" "_law_count" = some (spCnt d)) : Ob c_law_count 4 M (spCnt (d + 1)) := by
  rintro ts G Q X ⟨b, rfl, hb, q⟩
  simp [c_law_count, slots0]
  exact cnt2 (fun _ => trivial) hf (fun w v => by simp; exact q) b _ _ _ (fun x hx => (hb x hx).2) (by omega)
/-! ### sizes -/
def IntD (kvs : List (DK × T)) : Prop := ∀ p ∈ kvs, ∃ z, p.2 = T.int z
def gI (k : Int) (kvs : List (DK × T)) (i : Int) : Int := match dGet kvs (.inl i) with
  | some (.int z) => z
  | _ => k
theorem IntD.get {kvs : List (DK × T)} (h : IntD kvs) {k : DK} {v : T} (e : dGet kvs k = some v) : ∃ z, v = T.int z := by
  unfold dGet at e
  cases f : kvs.find? fun kv => decide (kv.1 = k) with
  | none => rw [f] at e; cases e
  | some p =>
    rw [f] at e
    cases e
    exact h p (List.mem_of_find?_eq_some f)
theorem gI_eq {kvs : List (DK × T)} (h : IntD kvs) {k i : Int} : (dGet kvs (.inl i)).getD (.int k) = .int (gI k kvs i) := by
  unfold gI
  cases e : dGet kvs (.inl i) with
  | none => rfl
  | some v =>
    obtain ⟨z, rfl⟩ := h.get e
    rfl
/-- size of a block under sizes of bodies: the promise -/
def spSz (k : Int) (d : Nat) : Pr := fun ts G Q _ => ∃ (b : Blk) (a : Addr) (kvs : List (DK × T)), ts = [encB b, .ref a] ∧ G a = some (.dct kvs) ∧ IntD kvs ∧ okB RB d b ∧ Q (.int (szs (gI k kvs) b)) G
theorem z_block_size {M : Gm} {D : En} {G : Gp} {a : Addr} {b : T} {kvs : List (DK × T)} {st : Gp → Prop} {f1 f2 f3} {d : Nat} {F : Int} (hs : ∀ G, st G) (ea : G a = some (.dct kvs)) (hi : IntD kvs)
    (hf : M.fn "" "block_size" = some (spSz 0 d)) (hD : ∀ v, D.nx [some b, some (.ref a), some (.int F), v] G) :
    ∀ (xs : Blk) (t : Int) (v : Option T), okB RB (d + 1) xs → t + (szs (gI 0 kvs) xs - 1) = F → forB M st (.nm 3) c_block_size_b1 D (encs xs) [some b, some (.ref a), some (.int t), v] G f1 f2 f3
  | [], t, v, _, h => by
    simp only [szs] at h
    have h : t = F := by omega
    subst h
    simp only [encs, Fnil]
    exact ⟨hs _, hD _⟩
  | x :: xs, t, v, hx, h => by
    have ih := fun t' w h' => z_block_size (M := M) (f1 := .mk) (f2 := .mk) (f3 := .mk) (st := st) (b := b) hs ea hi hf hD xs t' w (fun y hy => hx y (List.mem_cons_of_mem _ hy)) h'
    obtain ⟨hr, hx0⟩ := hx x List.mem_cons_self
    simp only [szs] at h
    rw [encs, Fcons]
    refine ⟨hs _, ?_⟩
    cases x with
    | start i w =>
      simp [c_block_size_b1, enc, tAt0, tAt1, tAt2]
      repeat (refine KB.of ?_; simp [ea, tAt0, tAt1])
      rw [gI_eq hi]
      simp
      exact ih _ _ (by simp only [szS] at h; omega)
    | tr p q =>
      simp [c_block_size_b1, enc, tAt0]
      refine KB.of ?_; simp [tAt0]
      refine KB.of ?_; simp [tAt0, tAt1, tAt2, Wcall hf]
      refine KB.of ?_; simp
      refine PrB.of ⟨p, a, kvs, rfl, ea, hi, hx0.1, ?_⟩
      simp [tAt2, Wcall hf]
      refine KB.of ?_; simp
      refine PrB.of ⟨q, a, kvs, rfl, ea, hi, hx0.2, ?_⟩
      simp
      exact ih _ _ (by simp only [szS] at h; omega)
    | rep m q =>
      have hm1 := hr.1
      have hm2 := hr.2
      simp [c_block_size_b1, enc, tAt0]
      refine KB.of ?_; simp [tAt0]
      refine KB.of ?_; simp [tAt0]
      refine KB.of ?_; simp [tAt1]
      refine KB.of ?_; simp [tAt2, Wcall hf]
      refine KB.of ?_; simp
      refine PrB.of ⟨q, a, kvs, rfl, ea, hi, hx0, ?_⟩
      simp
      refine ⟨.inl (by omega), ?_⟩
      exact ih _ _ (by simp only [szS] at h; omega)
    | _ =>
      simp [c_block_size_b1, enc, tAt0]
      repeat (refine KB.of ?_; simp [tAt0])
      exact ih _ _ (by simp only [szS] at h; omega)
theorem w_block_size {M : Gm} {d : Nat} (hf : M.fn "" "block_size" = some (spSz 0 d)) : Ob c_block_size 4 M (spSz 0 (d + 1)) := by
  rintro ts G Q X ⟨b, a, kvs, rfl, ea, hi, hb, q⟩
  simp [c_block_size, slots0]
  refine z_block_size (fun _ => trivial) ea hi hf (fun v => ?_) b 1 none hb rfl
  simp
  have e : 1 + (szs (gI 0 kvs) b - 1) = szs (gI 0 kvs) b := by omega
  rw [e]
  exact q
theorem z_law_weight {M : Gm} {D : En} {G : Gp} {a : Addr} {b : T} {kvs : List (DK × T)} {st : Gp → Prop} {f1 f2 f3} {d : Nat} {F : Int} (hs : ∀ G, st G) (ea : G a = some (.dct kvs)) (hi : IntD kvs)
    (hf : M.fn "" "_law_weight" = some (spSz 1 d)) (hD : ∀ v, D.nx [some b, some (.ref a), some (.int F), v] G) :
    ∀ (xs : Blk) (t : Int) (v : Option T), okB RB (d + 1) xs → t + (szs (gI 1 kvs) xs - 1) = F → forB M st (.nm 3) c_law_weight_b1 D (encs xs) [some b, some (.ref a), some (.int t), v] G f1 f2 f3
  | [], t, v, _, h => by
    simp only [szs] at h
    have h : t = F := by omega
    subst h
    simp only [encs, Fnil]
    exact ⟨hs _, hD _⟩
  | x :: xs, t, v, hx, h => by
    have ih := fun t' w h' => z_law_weight (M := M) (f1 := .mk) (f2 := .mk) (f3 := .mk) (st := st) (b := b) hs ea hi hf hD xs t' w (fun y hy => hx y (List.mem_cons_of_mem _ hy)) h'
    obtain ⟨hr, hx0⟩ := hx x List.mem_cons_self
    simp only [szs] at h
    rw [encs, Fcons]
    refine ⟨hs _, ?_⟩
    cases x with
    | start i w =>
      simp [c_law_weight_b1, enc, tAt0, tAt1, tAt2]
      repeat (refine KB.of ?_; simp [ea, tAt0, tAt1])
      rw [gI_eq hi]
      simp
      exact ih _ _ (by simp only [szS] at h; omega)
    | tr p q =>
      simp [c_law_weight_b1, enc, tAt0]
      refine KB.of ?_; simp [tAt0]
      refine KB.of ?_; simp [tAt0, tAt1, tAt2, Wcall hf]
      refine KB.of ?_; simp
      refine PrB.of ⟨p, a, kvs, rfl, ea, hi, hx0.1, ?_⟩
      simp [tAt2, Wcall hf]
      refine KB.of ?_; simp
      refine PrB.of ⟨q, a, kvs, rfl, ea, hi, hx0.2, ?_⟩
      simp
      exact ih _ _ (by simp only [szS] at h; omega)
    | rep m q =>
      have hm1 := hr.1
      have hm2 := hr.2
      simp [c_law_weight_b1, enc, tAt0]
      refine KB.of ?_; simp [tAt0]
      refine KB.of ?_; simp [tAt0]
      refine KB.of ?_; simp [tAt1]
      refine KB.of ?_; simp [tAt2, Wcall hf]
      refine KB.of ?_; simp
      refine PrB.of ⟨q, a, kvs, rfl, ea, hi, hx0, ?_⟩
      simp
      refine ⟨.inl (by omega), ?_⟩
      exact ih _ _ (by simp only [szS] at h; omega)
    | _ =>
      simp [c_law_weight_b1, enc, tAt0]
      repeat (refine KB.of ?_; simp [tAt0])
      exact ih _ _ (by simp only [szS] at h; omega)
theorem w_law_weight {M : Gm} {d : Nat} (hf : M.fn "" "_law_weight" = some (spSz 1 d)) : Ob c_law_weight 4 M (spSz 1 (d + 1)) := by
  rintro ts G Q X ⟨b, a, kvs, rfl, ea, hi, hb, q⟩
  simp [c_law_weight, slots0]
  refine z_law_weight (fun _ => trivial) ea hi hf (fun v => ?_) b 1 none hb rfl
  simp
  have e : 1 + (szs (gI 1 kvs) b - 1) = szs (gI 1 kvs) b := by omega
  rw [e]
  exact q
theorem z_law_measure {M : Gm} {D : En} {G : Gp} {a : Addr} {b : T} {kvs : List (DK × T)} {st : Gp → Prop} {f1 f2 f3} {d : Nat} {F : Int} (hs : ∀ G, st G) (ea : G a = some (.dct kvs)) (hi : IntD kvs)
    (hf : M.fn "" "_law_measure" = some (spSz 0 d)) (hD : ∀ v, D.nx [some b, some (.ref a), some (.int F), v] G) :
    ∀ (xs : Blk) (t : Int) (v : Option T), okB RB (d + 1) xs → t + (szs (gI 0 kvs) xs - 1) = F → forB M st (.nm 3) c_law_measure_b1 D (encs xs) [some b, some (.ref a), some (.int t), v] G f1 f2 f3
  | [], t, v, _, h => by
    simp only [szs] at h
    have h : t = F := by omega
    subst h
    simp only [encs, Fnil]
    exact ⟨hs _, hD _⟩
  | x :: xs, t, v, hx, h => by
    have ih := fun t' w h' => z_law_measure (M := M) (f1 := .mk) (f2 := .mk) (f3 := .mk) (st := st) (b := b) hs ea hi hf hD xs t' w (fun y hy => hx y (List.mem_cons_of_mem _ hy)) h'
    obtain ⟨hr, hx0⟩ := hx x List.mem_cons_self
    simp only [szs] at h
    rw [encs, Fcons]
    refine ⟨hs _, ?_⟩
    cases x with
    | start i w =>
      simp [c_law_measure_b1, enc, tAt0, tAt1, tAt2]
      repeat (refine KB.of ?_; simp [ea, tAt0, tAt1])
      rw [gI_eq hi]
      simp
      exact ih _ _ (by simp only [szS] at h; omega)
    | tr p q =>
      simp [c_law_measure_b1, enc, tAt0]
      refine KB.of ?_; simp [tAt0]
      refine KB.of ?_; simp [tAt0, tAt1, tAt2, Wcall hf]
      refine KB.of ?_; simp
      refine PrB.of ⟨p, a, kvs, rfl, ea, hi, hx0.1, ?_⟩
      simp [tAt2, Wcall hf]
      refine KB.of ?_; simp
      refine PrB.of ⟨q, a, kvs, rfl, ea, hi, hx0.2, ?_⟩
      simp
      exact ih _ _ (by simp only [szS] at h; omega)
    | rep m q =>
      have hm1 := hr.1
      have hm2 := hr.2
      simp [c_law_measure_b1, enc, tAt0]
      refine KB.of ?_; simp [tAt0]
      refine KB.of ?_; simp [tAt0]
      refine KB.of ?_; simp [tAt1]
      refine KB.of ?_; simp [tAt2, Wcall hf]
      refine KB.of ?_; simp
      refine PrB.of ⟨q, a, kvs, rfl, ea, hi, hx0, ?_⟩
      simp
      refine ⟨.inl (by omega), ?_⟩
      exact ih _ _ (by simp only [szS] at h; omega)
    | _ =>
      simp [c_law_measure_b1, enc, tAt0]
      repeat (refine KB.of ?_; simp [tAt0])
      exact ih _ _ (by simp only [szS] at h; omega)
theorem w_law_measure {M : Gm} {d : Nat} (hf : M.fn "" "_law_measure" = some (spSz 0 d)) : Ob c_law_measure 4 M (spSz 0 (d + 1)) := by
  rintro ts G Q X ⟨b, a, kvs, rfl, ea, hi, hb, q⟩
  simp [c_law_measure, slots0]
  refine z_law_measure (fun _ => trivial) ea hi hf (fun v => ?_) b 1 none hb rfl
  simp
  have e : 1 + (szs (gI 0 kvs) b - 1) = szs (gI 0 kvs) b := by omega
  rw [e]
  exact q
end SK.W

set_option Elab.async false
set_option linter.all false
set_option maxRecDepth 100000
/-! W4: drawn programs. -/
namespace SK.W
open PySem PySem.Spec PyProof.Rows L2 SK SK.D SK.C
theorem upto_succ {lo st : Int} {n : Nat} : upto lo st (n + 1) = .int lo :: upto (lo + st) st n := by
  unfold upto
  rw [List.range_succ_eq_map, List.map_cons, List.map_map]
  have e : (List.range n).map ((fun (i : Nat) => T.int (lo + (i : Int) * st)) ∘ Nat.succ) = (List.range n).map fun (i : Nat) => T.int (lo + st + (i : Int) * st) := List.map_congr_left fun i _ => by
    simp only [Function.comp]
    congr 1
    rw [show ((i.succ : Nat) : Int) = (i : Int) + 1 by omega, Int.add_mul]
    omega
  rw [e]
  simp
theorem upto_zero {lo st : Int} : upto lo st 0 = [] := rfl
/-- n - 1, .., 0 -/
def dn : Nat → List T
  | 0 => []
  | m + 1 => .int m :: dn m
theorem upto_dn : ∀ {n : Nat}, upto ((n : Int) - 1) (-1) n = dn n
  | 0 => rfl
  | n + 1 => by
    rw [upto_succ, dn]
    have e : ((n + 1 : Nat) : Int) - 1 = (n : Int) := by omega
    rw [e]
    congr 1
    rw [show (n : Int) + -1 = (n : Int) - 1 by omega]
    exact upto_dn
/-- sizes of the bodies from number i on; k for all others -/
def szTab (k : Int) : List Blk → Int → Int → Int
  | [], _ => fun _ => k
  | b :: r, i => fun j => if j = i then 1 + szs (szTab k r (i + 1)) b else szTab k r (i + 1) j
/-- a drawn program -/
structure DP (most room : Int) (P : List Blk) : Prop where
  n1 : 1 ≤ P.length
  n2 : (P.length : Int) ≤ most
  blk : ∀ (i : Nat) b, P[i]? = some b → okB (LI i P.length) 3 b ∧ cnt b ≤ 24
  siz : ∀ i : Nat, i < P.length → szTab 1 P 0 i ≤ room
theorem gI_put {k : Int} {kvs : List (DK × T)} {i : Int} {z : Int} : gI k (dPut kvs (.inl i) (.int z)) = fun j => if j = i then z else gI k kvs j := by
  funext j
  unfold gI
  rw [dGet_put]
  by_cases h : j = i
  · subst h; simp
  · rw [if_neg (fun e => h (Sum.inl.inj e)), if_neg h]
theorem dPut_len {kvs : List (DK × T)} {k : DK} {v : T} : (dPut kvs k v).length ≤ kvs.length + 1 := by
  unfold dPut
  split <;> simp
theorem dPut_int {kvs : List (DK × T)} {k : DK} {z : Int} (h : IntD kvs) : IntD (dPut kvs k (.int z)) := by
  unfold dPut
  split
  · intro p hp
    obtain ⟨q, hq, e⟩ := List.mem_map.mp hp
    subst e
    split
    · exact ⟨z, rfl⟩
    · exact h q hq
  · intro p hp
    rcases List.mem_append.mp hp with hp | hp
    · exact h p hp
    · simp at hp; subst hp; exact ⟨z, rfl⟩
theorem Fr.ext {a : Addr} {G G1 G2 : Gp} (h : G a = none) (x : Ext G G1) (f : Fr a G1 G2) : Ext G G2 := fun p o e => f p o (fun z => by subst z; rw [h] at e; cases e) (x p o e)
def spProg : Pr := fun ts G Q _ => ∃ (ns : List Int) (first most len room : Int), ts = [.frl (ns.map T.int), .int first, .int most, .int len, .int room] ∧ 0 ≤ first ∧ first ≤ 700 ∧ 1 ≤ most ∧ most ≤ 100 ∧ 0 ≤ len ∧ len ≤ 100 ∧ 4 ≤ room ∧
  ∀ P G', DP most room P → Ext G G' → Q (encP P) G'
theorem prog1 {M : Gm} {D : En} {G0 : Gp} {l : Addr} {ns : List Int} {first most len room nI : Int} {n : Nat} {st : Gp → Prop} {v8 : Option T} {f1 f2 f3} (hs : ∀ G, st G) (hbx : M.fn "" "_law_box" = some spBox) (hbl : M.fn "" "_law_block" = some (spBlk 3)) (hl0 : G0 l = none) (h1 : 0 ≤ first) (h2 : first ≤ 700) (hl1 : 0 ≤ len) (hl2 : len ≤ 100) (hn : n ≤ 200) (hnI : nI = (n : Int))
    (hD : ∀ G (xs : List Blk) v7, G l = some (.lst (xs.map encB)) → (∀ (i : Nat) b, xs[i]? = some b → okB (LI i n) 3 b) → xs.length = n → Ext G0 G → D.nx [some (.frl (ns.map T.int)), some (.int first), some (.int most), some (.int len), some (.int room), some (.int nI), some (.ref l), v7, v8] G) :
    ∀ (k : Nat) (G : Gp) (xs : List Blk) (v7 : Option T) (ys : List T), ys = upto xs.length 1 k → xs.length + k = n → G l = some (.lst (xs.map encB)) → (∀ (i : Nat) b, xs[i]? = some b → okB (LI i n) 3 b) → Ext G0 G →
      forB M st (.nm 7) c_law_program_b2 D ys [some (.frl (ns.map T.int)), some (.int first), some (.int most), some (.int len), some (.int room), some (.int nI), some (.ref l), v7, v8] G f1 f2 f3
  | 0, G, xs, v7, ys, hys, hlen, e, hb, x => by
    rw [hys, upto_zero]
    simp only [Fnil]
    exact ⟨hs _, hD G xs _ e hb hlen x⟩
  | k + 1, G, xs, v7, ys, hys, hlen, e, hb, x => by
    rw [hys, upto_succ, Fcons]
    refine ⟨hs _, ?_⟩
    simp [c_law_program_b2, e, Wcall hbx, Wcall hbl]
    refine PrB.of ⟨ns, _, rfl, by omega, by omega, fun a d G1 ha hd x1 b1 => ?_⟩
    simp
    refine PrB.of ⟨a, d, len, xs.length, nI, rfl, b1, hl1, hl2, by omega, by omega, fun b G2 hok hlb b2 fr => ?_⟩
    have la : l ≠ a := fun z => by subst z; rw [ha] at e; cases e
    have e2 := fr _ _ la (x1 _ _ e)
    simp [e2]
    refine ⟨by unfold line; omega, KB.of ?_⟩
    simp
    have := prog1 (f1 := .mk) (f2 := .mk) (f3 := .mk) (M := M) (most := most) (room := room) hs hbx hbl hl0 h1 h2 hl1 hl2 hn hnI hD k (gu G2 l (.lst (xs.map encB ++ [encB b]))) (xs ++ [b]) (some (.int xs.length)) _ rfl (by simp; omega) (by rw [gu_same]; simp) (fun i c hi => ?_) (Ext.gu hl0 (x.trans (Fr.ext ha x1 fr)))
    · rw [List.length_append] at this
      exact this
    · rcases Nat.lt_or_ge i xs.length with h | h
      · rw [List.getElem?_append_left h] at hi
        exact hb i c hi
      · rw [List.getElem?_append_right h] at hi
        have : i - xs.length = 0 := by
          rcases Nat.eq_zero_or_pos (i - xs.length) with z | z
          · exact z
          · rw [List.getElem?_eq_none (by simp; omega)] at hi; cases hi
        rw [this] at hi
        simp at hi
        subst hi
        have : i = xs.length := by omega
        subst this
        rw [← hnI]
        exact hok
abbrev sayPause : Blk := [.say "a", .pause]
theorem ok_say {lo hi : Int} : okB (LI lo hi) 3 sayPause := fun s hs => by
  simp at hs
  rcases hs with rfl | rfl
  · exact ⟨by simp [LI, LW], trivial⟩
  · exact ⟨trivial, trivial⟩
theorem drop_set_lt {xs : List Blk} {i j : Nat} {b : Blk} (h : i < j) : (xs.set i b).drop j = xs.drop j := by
  rw [List.drop_set]
  simp [h]
theorem prog2 {M : Gm} {D : En} {G0 : Gp} {l s : Addr} {v0 v1 v2 v3 : Option T} {room nI : Int} {n : Nat} {st : Gp → Prop} {f1 f2 f3} (hs : ∀ G, st G) (hw : M.fn "" "_law_weight" = some (spSz 1 3)) (hc : M.fn "" "_law_count" = some (spCnt 3)) (hl0 : G0 l = none) (hs0 : G0 s = none) (hn : n ≤ 200) (hroom : 4 ≤ room)
    (hD : ∀ G (xs : List Blk) v7, G l = some (.lst (xs.map encB)) → xs.length = n → (∀ (i : Nat) b, xs[i]? = some b → okB (LI i n) 3 b ∧ cnt b ≤ 24) → (∀ i : Nat, i < n → szTab 1 xs 0 i ≤ room) → Ext G0 G → D.nx [v0, v1, v2, v3, some (.int room), some (.int nI), some (.ref l), v7, some (.ref s)] G) :
    ∀ (m : Nat) (G : Gp) (xs : List Blk) (kvs : List (DK × T)) (v7 : Option T) (ys : List T), ys = dn m → m ≤ n → G l = some (.lst (xs.map encB)) → G s = some (.dct kvs) → IntD kvs → kvs.length + m ≤ 1000 → xs.length = n → (∀ (i : Nat) b, xs[i]? = some b → okB (LI i n) 3 b) →
      gI 1 kvs = szTab 1 (xs.drop m) m → (∀ (i : Nat) b, m ≤ i → xs[i]? = some b → cnt b ≤ 24) → (∀ i : Nat, m ≤ i → i < n → szTab 1 (xs.drop m) m i ≤ room) → Ext G0 G →
      forB M st (.nm 7) c_law_program_b1 D ys [v0, v1, v2, v3, some (.int room), some (.int nI), some (.ref l), v7, some (.ref s)] G f1 f2 f3
  | 0, G, xs, kvs, v7, ys, hys, _, e, _, _, _, hlen, hb, hg, hc24, hr, x => by
    rw [hys]
    simp only [dn, Fnil]
    exact ⟨hs _, hD G xs _ e hlen (fun i b hi => ⟨hb i b hi, hc24 i b (Nat.zero_le _) hi⟩) (fun i hi => by simpa using hr i (Nat.zero_le _) hi) x⟩
  | m + 1, G, xs, kvs, v7, ys, hys, hm, e, es, hi, hk, hlen, hb, hg, hc24, hr, x => by
    have hmn : m < n := hm
    have ls : s ≠ l := fun z => by subst z; rw [e] at es; cases es
    have fin : ∀ (b : Blk) (G' : Gp) (xs' : List Blk), G' l = some (.lst (xs'.map encB)) → G' s = some (.dct kvs) → xs' = xs.set m b → okB (LI m n) 3 b → cnt b ≤ 24 → szs (gI 1 kvs) b + 1 ≤ room → Ext G0 G' →
        wpSs (.cons (.asd (.var 8) (.var 7) (.bin .add (.kc (.int 1)) (.call "_law_weight" (.cons (.ix (.var 6) (.var 7)) (.cons (.var 8) .nil))))) .nil) M [v0, v1, v2, v3, some (.int room), some (.int nI), some (.ref l), some (.int m), some (.ref s)] G'
          ⟨fun s2 G2 => forB M st (.nm 7) c_law_program_b1 D (dn m) s2 G2, D.rt, D.nx, fun s2 G2 => forB M st (.nm 7) c_law_program_b1 D (dn m) s2 G2, D.ex⟩ := by
      intro b G' xs' e' es' hxs hb' hcb hsz x'
      have hlen' : xs'.length = n := by rw [hxs, List.length_set]; exact hlen
      have hget : xs'[m]? = some b := by rw [hxs]; simp [hlen, hmn]
      have e1 : tAt (xs'.map encB) (m : Int) = some (encB b) := by
        unfold tAt
        rw [if_pos (by omega)]
        simp [hget]
      simp [e', e1, Wcall hw]
      refine KB.of ?_
      simp
      refine PrB.of ⟨b, s, kvs, rfl, es', hi, okB_imp (fun _ => LI_RB) hb', ?_⟩
      simp [es']
      refine ⟨by unfold line; omega, KB.of ?_⟩
      simp
      have hl2 := dPut_len (kvs := kvs) (k := .inl (m : Int)) (v := .int (1 + szs (gI 1 kvs) b))
      have hdrop : xs'.drop m = b :: xs'.drop (m + 1) := by
        rw [List.drop_eq_getElem_cons (by omega)]
        congr 1
        have := List.getElem?_eq_some_iff.mp hget
        exact this.2
      have hdrop2 : xs'.drop (m + 1) = xs.drop (m + 1) := by rw [hxs]; exact drop_set_lt (Nat.lt_succ_self _)
      have hg' : gI 1 (dPut kvs (.inl (m : Int)) (.int (1 + szs (gI 1 kvs) b))) = szTab 1 (xs'.drop m) m := by
        rw [gI_put, hdrop]
        funext j
        simp only [szTab]
        rw [hdrop2]
        rw [hg, show ((m + 1 : Nat) : Int) = (m : Int) + 1 by omega]
      refine prog2 hs hw hc hl0 hs0 hn hroom hD m _ xs' _ _ _ rfl (by omega) (by rw [gu_ne ls.symm]; exact e') gu_same (dPut_int hi) (by omega) hlen' (fun i c hic => ?_) hg' (fun i c hi2 hic => ?_) (fun i hi2 hi3 => ?_) (Ext.gu hs0 x')
      · by_cases h : i = m
        · subst h; rw [hget] at hic; cases hic; exact hb'
        · rw [hxs, List.getElem?_set_ne (fun z => h z.symm)] at hic
          exact hb i c hic
      · by_cases h : i = m
        · subst h; rw [hget] at hic; cases hic; exact hcb
        · rw [hxs, List.getElem?_set_ne (fun z => h z.symm)] at hic
          exact hc24 i c (by omega) hic
      · rw [hdrop]
        simp only [szTab]
        by_cases h : i = m
        · subst h
          rw [if_pos rfl, hdrop2]
          rw [hg, show ((i + 1 : Nat) : Int) = (i : Int) + 1 by omega] at hsz
          omega
        · rw [if_neg (by omega), hdrop2]
          have := hr i (by omega) hi3
          rw [show ((m + 1 : Nat) : Int) = (m : Int) + 1 by omega] at this
          exact this
    have hlt : m < xs.length := by omega
    have hq := hb m xs[m] (List.getElem?_eq_getElem hlt)
    have e1 : tAt (xs.map encB) (m : Int) = some (encB xs[m]) := by
      unfold tAt
      rw [if_pos (by omega)]
      simp [hlt]
    have xself : xs = xs.set m xs[m] := by simp
    have repl : ∀ D', D' = (⟨fun s1 G1 => wpSs (.cons (.asd (.var 8) (.var 7) (.bin .add (.kc (.int 1)) (.call "_law_weight" (.cons (.ix (.var 6) (.var 7)) (.cons (.var 8) .nil))))) .nil) M s1 G1
          ⟨fun s2 G2 => forB M st (.nm 7) c_law_program_b1 D (dn m) s2 G2, D.rt, D.nx, fun s2 G2 => forB M st (.nm 7) c_law_program_b1 D (dn m) s2 G2, D.ex⟩, D.rt, D.nx, fun s2 G2 => forB M st (.nm 7) c_law_program_b1 D (dn m) s2 G2, D.ex⟩ : En) →
        wpSs (.cons (.asi (.var 6) (.var 7) (.tup (.cons (.tup (.cons (.kc (.str "say")) (.cons (.kc (.str "a")) .nil))) (.cons (.tup (.cons (.kc (.str "pause")) .nil)) .nil)))) .nil) M [v0, v1, v2, v3, some (.int room), some (.int nI), some (.ref l), some (.int m), some (.ref s)] G D' := by
      intro D' hD'
      subst hD'
      simp [e]
      refine ⟨m, ?_, KB.of ?_⟩
      · unfold ixN
        rw [if_pos (by omega), if_pos (by omega)]
        rfl
      · refine fin sayPause _ (xs.set m sayPause) (by rw [gu_same, List.map_set]; rfl) (by rw [gu_ne ls]; exact es) rfl ok_say (by decide) (by simp [szs, szS]; omega) (Ext.gu hl0 x)
    rw [hys, dn, Fcons]
    refine ⟨hs _, ?_⟩
    simp [c_law_program_b1, e, e1, Wcall hw]
    refine KB.of ?_
    simp
    refine PrB.of ⟨xs[m], s, kvs, rfl, es, hi, okB_imp (fun _ => LI_RB) hq, ?_⟩
    simp
    refine cnd_dec (fun _ => ?_) (fun hsz => ?_)
    · simp only [asB1, cndT]
      exact repl _ rfl
    · simp [e, e1, Wcall hc]
      refine KB.of ?_
      simp
      refine PrB.of ⟨xs[m], rfl, okB_imp (fun _ _ => trivial) hq, ?_⟩
      simp
      refine cnd_dec (fun _ => ?_) (fun hct => ?_)
      · exact repl _ rfl
      · simp only [Wnil]
        exact fin xs[m] G xs e es xself hq (by omega) (by omega) x
theorem w_program {M : Gm} (hbx : M.fn "" "_law_box" = some spBox) (hd : M.fn "" "_law_draw" = some spDraw) (hbl : M.fn "" "_law_block" = some (spBlk 3)) (hw : M.fn "" "_law_weight" = some (spSz 1 3)) (hc : M.fn "" "_law_count" = some (spCnt 3)) : Ob c_law_program 9 M spProg := by
  rintro ts G Q X ⟨ns, first, most, len, room, rfl, h1, h2, h3, h4, h5, h6, h7, q⟩
  simp [c_law_program, slots0, Wcall hbx, Wcall hd]
  refine PrB.of ⟨ns, first, rfl, h1, by omega, fun a d G1 ha hd x1 b1 => ?_⟩
  simp
  refine PrB.of ⟨a, d, most, rfl, b1, by omega, fun r G2 h20 h21 b2 g2 => ?_⟩
  have x2 : Ext G G2 := Fr.ext ha x1 (fr_of g2)
  obtain ⟨n, hn⟩ : ∃ n : Nat, 1 + r = (n : Int) := ⟨(1 + r).toNat, by omega⟩
  simp
  intro l hl
  refine KB.of ?_
  simp
  refine ⟨⟨by omega, by omega⟩, ?_⟩
  have hl0 : G l = none := by
    cases e : G l with
    | none => rfl
    | some o => rw [x2 _ _ e] at hl; cases hl
  refine prog1 (n := n) (fun _ => trivial) hbx hbl hl h1 h2 h5 h6 (by omega) hn (fun G3 xs v7 e hb hlen x3 => ?_) n _ [] _ _ (by rw [hn, Int.toNat_natCast]; rfl) (by simp) gu_same (fun i b z => by simp at z) (Ext.gu hl (Ext.refl _))
  simp [gu_gu]
  intro s hs
  refine ⟨⟨by omega, by omega⟩, ?_⟩
  have ls : l ≠ s := fun z => by subst z; rw [hs] at e; cases e
  have hs0 : G s = none := by
    cases e : G s with
    | none => rfl
    | some o => rw [x3 _ _ (x2 _ _ e)] at hs; cases hs
  refine prog2 (fun _ => trivial) hw hc hl0 hs0 (by omega) h7 (fun G4 xs' v7 e' hlen' hb' hsz x4 => ?_) n _ xs [] _ _ (by rw [hn, Int.toNat_natCast]; exact upto_dn) (Nat.le_refl _) (by rw [gu_ne ls]; exact e) gu_same (fun p hp => absurd hp (by simp)) (by simp; omega) hlen hb ?_ (fun i b hi hb2 => ?_) (fun i hi hi2 => by omega) (Ext.gu hs0 (x2.trans x3))
  · simp [e']
    refine KB.of ?_
    exact q xs' _ ⟨by omega, by omega, fun i b hi => by rw [hlen']; exact hb' i b hi, fun i hi => hsz i (by omega)⟩ x4
  · rw [List.drop_eq_nil_of_le (by omega)]
    rfl
  · rw [List.getElem?_eq_none (by omega)] at hb2; cases hb2
end SK.W

set_option Elab.async false
set_option linter.all false
set_option maxRecDepth 100000
/-! W5: all statements of a block; places. -/
namespace SK.W
open PySem PySem.Spec PyProof.Rows L2 SK SK.D SK.C
mutual
def allS : Stm → List Stm
  | .tr b h => .tr b h :: (alls b ++ alls h)
  | .rep n b => .rep n b :: alls b
  | .say w => [.say w] | .pause => [.pause] | .start b v => [.start b v] | .wait v => [.wait v] | .adopt v => [.adopt v] | .ret => [.ret] | .fail => [.fail]
def alls : List Stm → List Stm
  | [] => []
  | s :: r => allS s ++ alls r
end
mutual
theorem allS_len : ∀ (s : Stm), (allS s).length = cntS s
  | .tr b h => by simp only [allS, cntS, List.length_cons, List.length_append, alls_len b, alls_len h]; omega
  | .rep n b => by simp only [allS, cntS, List.length_cons, alls_len b]; omega
  | .say _ => rfl | .pause => rfl | .start _ _ => rfl | .wait _ => rfl | .adopt _ => rfl | .ret => rfl | .fail => rfl
theorem alls_len : ∀ (b : List Stm), (alls b).length = cnt b
  | [] => rfl
  | s :: r => by simp only [alls, cnt, List.length_append, allS_len s, alls_len r]
end
/-- a list of one's own that grows -/
structure Acc (G0 G : Gp) (l : Addr) (xs : List T) : Prop where
  nw : G0 l = none
  at_ : G l = some (.lst xs)
  ext : Ext G0 G
theorem Ext.none {G0 G : Gp} (x : Ext G0 G) {p : Addr} (h : G p = none) : G0 p = none := by
  cases e : G0 p with
  | none => rfl
  | some o => rw [x _ _ e] at h; cases h
theorem Acc.new {G0 G : Gp} (x : Ext G0 G) {p : Addr} (h : G p = none) {xs : List T} : Acc G0 (gu G p (.lst xs)) p xs := ⟨x.none h, gu_same, Ext.gu (x.none h) x⟩
theorem Acc.put {G0 G : Gp} {l : Addr} {xs ys : List T} (a : Acc G0 G l xs) : Acc G0 (gu G l (.lst ys)) l ys := ⟨a.nw, gu_same, Ext.gu a.nw a.ext⟩
theorem Acc.newE {G0 G : Gp} (x : Ext G0 G) {p : Addr} (h : G p = none) {xs ys : List T} (e : ys = xs) : Acc G0 (gu G p (.lst ys)) p xs := e ▸ Acc.new x h
theorem Acc.putE {G0 G : Gp} {l : Addr} {xs ys zs : List T} (a : Acc G0 G l xs) (e : ys = zs) : Acc G0 (gu G l (.lst ys)) l zs := e ▸ a.put
theorem Acc.later {G0 G G1 : Gp} {l : Addr} {xs : List T} (a : Acc G0 G l xs) (x : Ext G G1) : Acc G0 G1 l xs := ⟨a.nw, x _ _ a.at_, a.ext.trans x⟩
abbrev okA (d : Nat) (b : Blk) : Prop := okB (fun _ => True) d b
def spAll (d : Nat) : Pr := fun ts G Q _ => ∃ b : Blk, ts = [encB b] ∧ okA d b ∧ cnt b ≤ 100000 ∧ ∀ p G', Acc G G' p (encs (alls b)) → Q (.ref p) G'
def spBlocks : Pr := fun ts G Q _ => ∃ s : Stm, ts = [enc s] ∧ Q (.tup (match s with | .tr b h => [encB b, encB h] | .rep _ b => [encB b] | _ => [])) G
theorem w_blocks_of {M : Gm} : Ob c_blocks_of 1 M spBlocks := by
  rintro ts G Q X ⟨s, rfl, q⟩
  cases s <;> simp [c_blocks_of, slots0, enc, tAt0] <;> repeat (refine KB.of ?_; simp [tAt0, tAt1, tAt2])
  all_goals exact q
theorem all2 {M : Gm} {D : En} {G0 : Gp} {b : T} {st : Gp → Prop} {f1 f2 f3} {d : Nat} {R : List Stm} (hs : ∀ G, st G) (hf : M.fn "" "all_statements" = some (spAll d)) (hb : M.fn "" "blocks_of" = some spBlocks) (hR : R.length ≤ 100000)
    (hD : ∀ G l w v, Acc G0 G l (encs R) → D.nx [some b, some (.ref l), w, v] G) :
    ∀ (xs acc : List Stm) (G : Gp) (l : Addr) (w v : Option T), (∀ x ∈ xs, subs (okA d) x) → acc ++ alls xs = R → Acc G0 G l (encs acc) → forB M st (.nm 2) c_all_statements_b2 D (encs xs) [some b, some (.ref l), w, v] G f1 f2 f3
  | [], acc, G, l, w, v, _, h, a => by
    simp only [alls, List.append_nil] at h
    subst h
    simp only [encs, Fnil]
    exact ⟨hs _, hD _ _ _ _ a⟩
  | x :: xs, acc, G, l, w, v, hx, h, a => by
    have ih := fun acc' G' l' w' v' h' a' => all2 (M := M) (f1 := .mk) (f2 := .mk) (f3 := .mk) (st := st) hs hf hb hR hD xs acc' G' l' w' v' (fun y hy => hx y (List.mem_cons_of_mem _ hy)) h' a'
    have hx0 := hx x List.mem_cons_self
    simp only [alls] at h
    have hln : acc.length + (allS x).length + (alls xs).length ≤ 100000 := by rw [← h] at hR; simpa [Nat.add_assoc] using hR
    have hl1 : (encs acc).length < line := by
      have : 0 < (allS x).length := by cases x <;> simp [allS]
      rw [encs_len]; unfold line; omega
    rw [encs, Fcons]
    refine ⟨hs _, ?_⟩
    simp [c_all_statements_b2, Wcall hb, a.at_, hl1]
    refine KB.of ?_
    simp [Wcall hb]
    refine PrB.of ⟨x, rfl, ?_⟩
    have a1 : Acc G0 (gu G l (.lst (encs acc ++ [enc x]))) l (encs (acc ++ [x])) := by
      have := a.put (ys := encs acc ++ [enc x])
      rw [encs_app]
      exact this
    have fin := fun w' v' (hx' : allS x = [x]) => ih (acc ++ [x]) _ _ w' v' (by rw [← h, hx']; simp) a1
    cases x with
    | tr p q =>
      have hp : cnt p ≤ 100000 := by rw [← alls_len]; simp only [allS, List.length_cons, List.length_append] at hln; omega
      have hq : cnt q ≤ 100000 := by rw [← alls_len]; simp only [allS, List.length_cons, List.length_append] at hln; omega
      simp [Fcons]
      simp [c_all_statements_b1, Wcall hf]
      refine PrB.of ⟨p, rfl, hx0.1, hp, fun r G2 a2 => ?_⟩
      have b2 := a1.later a2.ext
      simp [b2.at_, a2.at_]
      refine ⟨by simp only [encs_len, List.length_append, allS, List.length_cons, List.length_nil] at hln ⊢; unfold line; omega, fun l2 hl2 => KB.of ?_⟩
      have b3 : Acc G0 (gu G2 l2 (.lst (encs (acc ++ [.tr p q] ++ alls p)))) l2 (encs (acc ++ [.tr p q] ++ alls p)) := Acc.new b2.ext hl2
      try simp [c_all_statements_b1, Wcall hf]
      refine PrB.of ⟨q, rfl, hx0.2, hq, fun r2 G3 a3 => ?_⟩
      have e1 : encs (acc ++ [.tr p q]) ++ encs (alls p) = encs (acc ++ [.tr p q] ++ alls p) := encs_app.symm
      rw [← e1] at b3
      have b4 := b3.later a3.ext
      simp [b4.at_, a3.at_]
      refine ⟨by simp only [encs_len, List.length_append, allS, List.length_cons, List.length_nil] at hln ⊢; unfold line; omega, fun l3 hl3 => KB.of ?_⟩
      have b5 : Acc G0 (gu G3 l3 (.lst (encs (acc ++ [.tr p q] ++ alls p ++ alls q)))) l3 (encs (acc ++ [.tr p q] ++ alls p ++ alls q)) := Acc.new b4.ext hl3
      exact ih (acc ++ [.tr p q] ++ alls p ++ alls q) _ l3 _ _ (by simp [allS] at h ⊢; exact h) (Acc.newE b4.ext hl3 (by simp only [encs_app]))
    | rep k p =>
      have hp : cnt p ≤ 100000 := by rw [← alls_len]; simp only [allS, List.length_cons, List.length_append] at hln; omega
      simp [Fcons]
      simp [c_all_statements_b1, Wcall hf]
      refine PrB.of ⟨p, rfl, hx0, hp, fun r G2 a2 => ?_⟩
      have b2 := a1.later a2.ext
      simp [b2.at_, a2.at_]
      refine ⟨by simp only [encs_len, List.length_append, allS, List.length_cons, List.length_nil] at hln ⊢; unfold line; omega, fun l2 hl2 => KB.of ?_⟩
      have b3 : Acc G0 (gu G2 l2 (.lst (encs (acc ++ [.rep k p] ++ alls p)))) l2 (encs (acc ++ [.rep k p] ++ alls p)) := Acc.new b2.ext hl2
      exact ih (acc ++ [.rep k p] ++ alls p) _ l2 _ _ (by simp [allS] at h ⊢; exact h) (Acc.newE b2.ext hl2 (by simp only [encs_app]))
    | _ =>
      simp
      exact fin _ _ rfl
theorem w_all_statements {M : Gm} {d : Nat} (hf : M.fn "" "all_statements" = some (spAll d)) (hb : M.fn "" "blocks_of" = some spBlocks) : Ob c_all_statements 4 M (spAll (d + 1)) := by
  rintro ts G Q X ⟨b, rfl, hok, hn, q⟩
  simp [c_all_statements, slots0]
  intro l hl
  refine KB.of ?_
  simp
  refine all2 (fun _ => trivial) hf hb (R := alls b) (by rw [alls_len]; exact hn) (fun G1 l1 w v a => by simp; exact q _ _ a) b [] _ _ _ _ (fun x hx => (hok x hx).2) rfl (Acc.new (Ext.refl _) hl)
theorem lall2 {M : Gm} {D : En} {G0 : Gp} {b : T} {st : Gp → Prop} {f1 f2 f3} {d : Nat} {R : List Stm} (hs : ∀ G, st G) (hf : M.fn "" "_law_all" = some (spAll d)) (hR : R.length ≤ 100000)
    (hD : ∀ G l w, Acc G0 G l (encs R) → D.nx [some b, some (.ref l), w] G) :
    ∀ (xs acc : List Stm) (G : Gp) (l : Addr) (w : Option T), (∀ x ∈ xs, subs (okA d) x) → acc ++ alls xs = R → Acc G0 G l (encs acc) → forB M st (.nm 2) c_law_all_b1 D (encs xs) [some b, some (.ref l), w] G f1 f2 f3
  | [], acc, G, l, w, _, h, a => by
    simp only [alls, List.append_nil] at h
    subst h
    simp only [encs, Fnil]
    exact ⟨hs _, hD _ _ _ a⟩
  | x :: xs, acc, G, l, w, hx, h, a => by
    have ih := fun acc' G' l' w' h' a' => lall2 (M := M) (f1 := .mk) (f2 := .mk) (f3 := .mk) (st := st) hs hf hR hD xs acc' G' l' w' (fun y hy => hx y (List.mem_cons_of_mem _ hy)) h' a'
    have hx0 := hx x List.mem_cons_self
    simp only [alls] at h
    have hln : acc.length + (allS x).length + (alls xs).length ≤ 100000 := by rw [← h] at hR; simpa [Nat.add_assoc] using hR
    have hl1 : (encs acc).length < line := by
      have : 0 < (allS x).length := by cases x <;> simp [allS]
      rw [encs_len]; unfold line; omega
    rw [encs, Fcons]
    refine ⟨hs _, ?_⟩
    have a1 : Acc G0 (gu G l (.lst (encs acc ++ [enc x]))) l (encs (acc ++ [x])) := by
      have := a.put (ys := encs acc ++ [enc x])
      rw [encs_app]
      exact this
    simp [c_law_all_b1, a.at_, hl1]
    refine KB.of ?_
    have fin := fun w' (hx' : allS x = [x]) => ih (acc ++ [x]) _ _ w' (by rw [← h, hx']; simp) a1
    cases x with
    | tr p q =>
      have hp : cnt p ≤ 100000 := by rw [← alls_len]; simp only [allS, List.length_cons, List.length_append] at hln; omega
      have hq : cnt q ≤ 100000 := by rw [← alls_len]; simp only [allS, List.length_cons, List.length_append] at hln; omega
      simp [enc, tAt0, tAt1, Wcall hf]
      refine KB.of ?_; simp [tAt0, tAt1, Wcall hf]
      refine KB.of ?_; simp
      refine PrB.of ⟨p, rfl, hx0.1, hp, fun r G2 a2 => ?_⟩
      have b2 := a1.later a2.ext
      have e0 : encs (acc ++ [Stm.tr p q]) = encs acc ++ [.tup [.str "try", .tup (encs p), .tup (encs q)]] := by rw [encs_app]; rfl
      rw [e0] at b2
      simp [b2.at_, a2.at_]
      refine ⟨by simp only [encs_len, List.length_append, allS, List.length_cons, List.length_nil] at hln ⊢; unfold line; omega, fun l2 hl2 => KB.of ?_⟩
      have b3 : Acc G0 (gu G2 l2 (.lst (encs acc ++ .tup [.str "try", .tup (encs p), .tup (encs q)] :: encs (alls p)))) l2 (encs acc ++ .tup [.str "try", .tup (encs p), .tup (encs q)] :: encs (alls p)) := Acc.new b2.ext hl2
      simp [tAt2, Wcall hf]
      refine KB.of ?_; simp
      refine PrB.of ⟨q, rfl, hx0.2, hq, fun r2 G3 a3 => ?_⟩
      have b4 := b3.later a3.ext
      simp [b4.at_, a3.at_]
      refine ⟨by simp only [encs_len, List.length_append, allS, List.length_cons, List.length_nil] at hln ⊢; unfold line; omega, fun l3 hl3 => KB.of ?_⟩
      try simp [tAt0]
      try refine KB.of ?_
      try simp
      exact ih (acc ++ [.tr p q] ++ alls p ++ alls q) _ l3 _ (by simp [allS] at h ⊢; exact h) (Acc.newE b4.ext hl3 (by simp [encs_app, encs, enc]))
    | rep k p =>
      have hp : cnt p ≤ 100000 := by rw [← alls_len]; simp only [allS, List.length_cons, List.length_append] at hln; omega
      simp [enc, tAt0, tAt1, Wcall hf]
      refine KB.of ?_; simp [tAt0, tAt2, Wcall hf]
      refine KB.of ?_; simp [tAt0, tAt2, Wcall hf]
      refine KB.of ?_; simp
      refine PrB.of ⟨p, rfl, hx0, hp, fun r G2 a2 => ?_⟩
      have b2 := a1.later a2.ext
      have e0 : encs (acc ++ [Stm.rep k p]) = encs acc ++ [.tup [.str "repeat", .int k, .tup (encs p)]] := by rw [encs_app]; rfl
      rw [e0] at b2
      simp [b2.at_, a2.at_]
      refine ⟨by simp only [encs_len, List.length_append, allS, List.length_cons, List.length_nil] at hln ⊢; unfold line; omega, fun l2 hl2 => KB.of ?_⟩
      exact ih (acc ++ [.rep k p] ++ alls p) _ l2 _ (by simp [allS] at h ⊢; exact h) (Acc.newE b2.ext hl2 (by simp [encs_app, encs, enc]))
    | _ =>
      simp [enc, tAt0]
      repeat (refine KB.of ?_; simp [tAt0])
      exact fin _ rfl
theorem w_law_all {M : Gm} {d : Nat} (hf : M.fn "" "_law_all" = some (spAll d)) : Ob c_law_all 3 M (spAll (d + 1)) := by
  rintro ts G Q X ⟨b, rfl, hok, hn, q⟩
  simp [c_law_all, slots0]
  intro l hl
  refine KB.of ?_
  simp
  refine lall2 (fun _ => trivial) hf (R := alls b) (by rw [alls_len]; exact hn) (fun G1 l1 w a => by simp; exact q _ _ a) b [] _ _ _ (fun x hx => (hok x hx).2) rfl (Acc.new (Ext.refl _) hl)
end SK.W

set_option Elab.async false
set_option linter.all false
set_option maxRecDepth 100000
/-! W6: what a program must be: depth, words, statements, bodies, sizes (package). -/
namespace SK.W
open PySem PySem.Spec PyProof.Rows L2 SK SK.D SK.C
mutual
def depS : Stm → Nat
  | .tr b h => max (1 + dep b) (1 + dep h)
  | .rep _ b => 1 + dep b
  | .say _ => 0 | .pause => 0 | .start _ _ => 0 | .wait _ => 0 | .adopt _ => 0 | .ret => 0 | .fail => 0
def dep : List Stm → Nat
  | [] => 0
  | s :: r => max (depS s) (dep r)
end
theorem mxI (a b : Nat) : (if (b : Int) > (a : Int) then T.int b else T.int a) = T.int ((max a b : Nat) : Int) := by
  by_cases h : (b : Int) > a
  · rw [if_pos h, Nat.max_eq_right (by omega)]
  · rw [if_neg h, Nat.max_eq_left (by omega)]
theorem mxJ (a b : Nat) : (if (a : Int) < (b : Int) then (b : Int) else (a : Int)) = ((max a b : Nat) : Int) := by
  by_cases h : (a : Int) < b
  · rw [if_pos h, Nat.max_eq_right (by omega)]
  · rw [if_neg h, Nat.max_eq_left (by omega)]
def spDep (d : Nat) : Pr := fun ts G Q _ => ∃ b : Blk, ts = [encB b] ∧ okA d b ∧ Q (.int (dep b)) G
theorem dep2 {M : Gm} {D : En} {G : Gp} {b : T} {st : Gp → Prop} {f1 f2 f3} {d : Nat} {N : Nat} (hs : ∀ G, st G) (hf : M.fn "" "depth_of" = some (spDep d)) (hb : M.fn "" "blocks_of" = some spBlocks) (hD : ∀ w v, D.nx [some b, some (.int N), w, v] G) :
    ∀ (xs : Blk) (n : Nat) (w v : Option T), (∀ x ∈ xs, subs (okA d) x) → max n (dep xs) = N → forB M st (.nm 2) c_depth_of_b2 D (encs xs) [some b, some (.int n), w, v] G f1 f2 f3
  | [], n, w, v, _, h => by
    simp only [dep, Nat.max_zero] at h
    subst h
    simp only [encs, Fnil]
    exact ⟨hs _, hD _ _⟩
  | x :: xs, n, w, v, hx, h => by
    have ih := fun n' w' v' h' => dep2 (M := M) (f1 := .mk) (f2 := .mk) (f3 := .mk) (st := st) hs hf hb hD xs n' w' v' (fun y hy => hx y (List.mem_cons_of_mem _ hy)) h'
    have hx0 := hx x List.mem_cons_self
    simp only [dep] at h
    rw [encs, Fcons]
    refine ⟨hs _, ?_⟩
    simp [c_depth_of_b2, Wcall hb]
    refine PrB.of ⟨x, rfl, ?_⟩
    cases x with
    | tr p q =>
      simp [Fcons]
      simp [c_depth_of_b1, Wcall hf]
      refine PrB.of ⟨p, rfl, hx0.1, ?_⟩
      simp [Wcall hf]
      have e1 := mxJ n (1 + dep p)
      simp only [Int.natCast_add, Int.cast_ofNat_Int] at e1
      rw [e1]
      refine PrB.of ⟨q, rfl, hx0.2, ?_⟩
      simp
      have e2 := mxJ (max n (1 + dep p)) (1 + dep q)
      simp only [Int.natCast_add, Int.cast_ofNat_Int] at e2
      rw [e2]
      exact ih _ _ _ (by simp only [depS] at h; omega)
    | rep k p =>
      simp [Fcons]
      simp [c_depth_of_b1, Wcall hf]
      refine PrB.of ⟨p, rfl, hx0, ?_⟩
      simp
      have e1 := mxJ n (1 + dep p)
      simp only [Int.natCast_add, Int.cast_ofNat_Int] at e1
      rw [e1]
      exact ih _ _ _ (by simp only [depS] at h; omega)
    | _ =>
      simp
      exact ih _ _ _ (by simp only [depS] at h; omega)
theorem w_depth_of {M : Gm} {d : Nat} (hf : M.fn "" "depth_of" = some (spDep d)) (hb : M.fn "" "blocks_of" = some spBlocks) : Ob c_depth_of 4 M (spDep (d + 1)) := by
  rintro ts G Q X ⟨b, rfl, hok, q⟩
  simp [c_depth_of, slots0]
  exact dep2 (fun _ => trivial) hf hb (fun w v => by simp; exact q) b 0 _ _ (fun x hx => (hok x hx).2) (by omega)
/-! ### words -/
def WS : String := "abcdefghijklmnopqrstuvwxyz0123456789"
def isW (w : String) : Bool := decide (0 < w.length) && decide (w.length ≤ 8) && w.toList.all fun c => decide (c ∈ WS.toList)
def spIsW : Pr := fun ts G Q _ => ∃ w : String, ts = [.str w] ∧ w.length ≤ 100000 ∧ Q (.bl (isW w)) G
theorem w_is_word {M : Gm} (hc : M.cst "WORD_SIGNS" = some (.str WS)) : Ob c_is_word 2 M spIsW := by
  rintro ts G Q X ⟨w, rfl, hl, q⟩
  have hl' : w.length ≤ line := by unfold line; omega
  simp [c_is_word, slots0, hl']
  refine cnd_dec (fun h1 => ?_) (fun h1 => ?_)
  · simp [hl']
    refine cnd_dec (fun h2 => ?_) (fun h2 => ?_)
    · simp
      refine gen_inv (fun G' => G' = G) (fun _ _ => trivial) (fun t => match t with | .str s => decide (s.toList.all fun c => decide (c ∈ WS.toList)) | _ => false) rfl (fun y hy G' e Q' hq => ?_) (fun G' e => ?_)
      · subst e
        obtain ⟨c, hcm, e⟩ := List.mem_map.mp hy
        subst e
        simp [c_is_word_e1, hc]
        refine KB.of ?_
        simp [inW]
        have := hq G' rfl
        simpa using this
      · subst e
        have : isW w = (w.toList.map fun c => T.str (String.singleton c)).all (fun t => match t with | .str s => decide (s.toList.all fun c => decide (c ∈ WS.toList)) | _ => false) := by
          unfold isW
          rw [decide_eq_true (by omega : 0 < w.length), decide_eq_true (by omega : w.length ≤ 8)]
          simp [List.all_map, Function.comp_def]
        rw [if_pos rfl, ← this]
        exact q
    · have : isW w = false := by
        unfold isW
        rw [decide_eq_false (by omega : ¬ w.length ≤ 8)]
        simp
      rw [this] at q
      exact q
  · have : isW w = false := by
      unfold isW
      rw [decide_eq_false (by omega : ¬ 0 < w.length)]
      simp
    rw [this] at q
    exact q
theorem gen_map {α : Type} {M : Gm} {ss : Sl} {st : Gp → Prop} {x : Nat} {elt : E} (f : α → T) (R : Gp → Prop) (hst : ∀ G, R G → st G) (p : α → Bool) : ∀ {xs : List α} {all : Bool} {G : Gp} {Q : QT} {g : Frz Q} {f1 : Frz st}, R G → (∀ y ∈ xs, ∀ G, R G → ∀ Q' : QT, (∀ G', R G' → Q' (.bl (p y)) G') → wpE M elt (ss.set x (some (f y))) G (fun _ _ _ => False) Q') →
    (∀ G', R G' → Q (.bl (if all = true then xs.all p else xs.any p)) G') → genB M st all x elt ss Q (xs.map f) G g f1
  | [], all, G, Q, g, f1, r, h, q => by
    rw [List.map_nil, Gnil]
    refine ⟨hst G r, ?_⟩
    have := q G r
    cases all <;> exact this
  | y :: ys, all, G, Q, g, f1, r, h, q => by
    rw [List.map_cons, Gcons]
    refine ⟨hst G r, h y List.mem_cons_self G r _ fun G' r' => ⟨p y, rfl, ?_⟩⟩
    by_cases hp : p y = all
    · rw [if_pos hp]
      refine gen_map f R hst p r' (fun z hz => h z (List.mem_cons_of_mem _ hz)) fun G2 r2 => ?_
      have := q G2 r2
      cases all <;> simp [hp] at this ⊢ <;> exact this
    · rw [if_neg hp]
      have := q G' r'
      cases all <;> simp at hp <;> simp [hp] at this ⊢ <;> exact this
/-! ### statements -/
def inLN (v : String) : Bool := LN.any fun y => y == v
def okSt (lo hi : Int) : Stm → Bool
  | .say w => isW w
  | .start b v => decide (lo ≤ b) && (decide (b ≤ hi) && inLN v)
  | .wait v => inLN v
  | .adopt v => inLN v
  | .rep n _ => decide (0 ≤ n) && decide (n ≤ 100)
  | .pause => true | .ret => true | .fail => true | .tr _ _ => true
def wl : Stm → Prop
  | .say w => w.length ≤ 100000
  | .start _ _ => True | .wait _ => True | .adopt _ => True | .rep _ _ => True | .pause => True | .ret => True | .fail => True | .tr _ _ => True
abbrev vLN : T := .tup (LN.map T.str)
theorem inV {v : String} {G : Gp} {Q : QT} (q : Q (.bl (inLN v)) G) : cmpW .inS (.str v) vLN G Q := by
  show inW false (.str v) (.tup _) G Q
  refine ⟨rfl, rfl, ?_⟩
  have e : ((LN.map T.str).any fun y => teq y (.str v)) = inLN v := by
    unfold inLN
    rw [List.any_map]
    rfl
  rw [e]
  simpa using q
def spIsSt : Pr := fun ts G Q _ => ∃ (s : Stm) (lo hi : Int), ts = [enc s, .int lo, .int hi] ∧ wl s ∧ Q (.bl (okSt lo hi s)) G
theorem w_is_statement {M : Gm} (hw : M.fn "" "is_word" = some spIsW) (hv : M.cst "VARIABLES" = some vLN) (hm : M.cst "MOST_COUNT" = some (.int 100)) : Ob c_is_statement 3 M spIsSt := by
  rintro ts G Q X ⟨s, lo, hi, rfl, hl, q⟩
  cases s with
  | say w =>
    simp [c_is_statement, slots0, enc, tAt0, Wcall hw]
    refine KB.of ?_
    simp [tAt1, Wcall hw]
    refine KB.of ?_
    simp
    exact PrB.of ⟨w, rfl, hl, q⟩
  | start b v =>
    simp [c_is_statement, slots0, enc, tAt0, Wcall hw]
    refine KB.of ?_
    simp [tAt0]
    refine KB.of ?_
    simp [tAt1]
    refine KB.of ?_
    simp
    refine cnd_dec (fun h1 => ?_) (fun h1 => ?_)
    · simp [tAt1]
      refine KB.of ?_
      simp
      refine cnd_dec (fun h2 => ?_) (fun h2 => ?_)
      · simp [tAt2, hv]
        refine KB.of ?_
        simp [hv]
        refine KB.of ?_
        refine inV ?_
        simpa [okSt, h1, h2] using q
      · simpa [okSt, h1, h2] using q
    · simpa [okSt, h1] using q
  | wait v =>
    simp [c_is_statement, slots0, enc, tAt0]
    repeat (refine KB.of ?_; simp [tAt0, tAt1, hv])
    exact inV (by simpa [okSt] using q)
  | adopt v =>
    simp [c_is_statement, slots0, enc, tAt0]
    repeat (refine KB.of ?_; simp [tAt0, tAt1, hv])
    exact inV (by simpa [okSt] using q)
  | rep n b =>
    simp [c_is_statement, slots0, enc, tAt0]
    repeat (refine KB.of ?_; simp [tAt0, tAt1, hm])
    refine cnd_dec (fun h1 => ?_) (fun h1 => ?_)
    · simp [tAt1, hm]
      repeat (refine KB.of ?_; simp [hm])
      simpa [okSt, h1] using q
    · simpa [okSt, h1] using q
  | _ =>
    simp [c_is_statement, slots0, enc, tAt0]
    repeat (refine KB.of ?_; simp [tAt0, tAt1])
    simpa [okSt] using q
/-! ### bodies -/
def okBody (lo most : Int) (b : Blk) : Bool := decide (cnt b ≤ 40) && (decide (dep b ≤ 2) && (alls b).all (okSt lo most))
def areF (most : Int) : Int → List Blk → Bool
  | _, [] => true
  | i, b :: r => okBody (i + 1) most b && areF most (i + 1) r
structure okF (d : Nat) (b : Blk) : Prop where
  dp : okA d b
  ct : cnt b ≤ 100000
  wd : ∀ s ∈ alls b, wl s
  rb : okB RB d b
def spAre (d : Nat) : Pr := fun ts G Q _ => ∃ (P : List Blk) (most : Int), ts = [encP P, .int most] ∧ (∀ b ∈ P, okF d b) ∧ P.length ≤ 100000 ∧ ∀ G', Ext G G' → Q (.bl (areF most 0 P)) G'
theorem tAt_nat {xs : List T} {i : Nat} {v : T} (h : xs[i]? = some v) : tAt xs (i : Int) = some v := by
  unfold tAt
  rw [if_pos (Int.natCast_nonneg _)]
  simpa using h
theorem are2 {M : Gm} {D : En} {G0 : Gp} {d : Nat} {P : List Blk} {most : Int} {st : Gp → Prop} {f1 f2 f3} (hs : ∀ G, st G) (ha : M.fn "" "all_statements" = some (spAll d)) (hd : M.fn "" "depth_of" = some (spDep d)) (hi : M.fn "" "is_statement" = some spIsSt) (h40 : M.cst "MOST_STATEMENTS" = some (.int 40)) (h2 : M.cst "MOST_DEPTH" = some (.int 2))
    (hP : ∀ b ∈ P, okF d b) (hr : ∀ G', Ext G0 G' → areF most 0 P = false → D.rt (.bl false) G') (hD : ∀ G' a b c, Ext G0 G' → areF most 0 P = true → D.nx [some (encP P), some (.int most), a, b, c] G') :
    ∀ (n i : Nat) (a b c : Option T) (G : Gp), i + n = P.length → areF most 0 P = areF most i (P.drop i) → Ext G0 G → forB M st (.nm 2) c_are_bodies_b2 D (upto i 1 n) [some (encP P), some (.int most), a, b, c] G f1 f2 f3
  | 0, i, a, b, c, G, hn, he, x => by
    have : P.drop i = [] := List.drop_eq_nil_of_le (by omega)
    rw [this] at he
    simp [upto_zero, hs]
    exact hD _ _ _ _ x he
  | n + 1, i, a, b, c, G, hn, he, x => by
    have ih := fun a' b' c' G' => are2 (M := M) (f1 := .mk) (f2 := .mk) (f3 := .mk) (st := st) hs ha hd hi h40 h2 hP hr hD n (i + 1) a' b' c' G' (by omega)
    have hlt : i < P.length := by omega
    have hb := hP _ (List.getElem_mem hlt)
    have eg : (P.map encB)[i]? = some (encB P[i]) := by rw [List.getElem?_map, List.getElem?_eq_getElem hlt]; rfl
    rw [List.drop_eq_getElem_cons hlt] at he
    simp only [areF] at he
    have ei : ((i : Int) + 1) = ((i + 1 : Nat) : Int) := by omega
    rw [upto_succ, Fcons]
    refine ⟨hs _, ?_⟩
    simp [c_are_bodies_b2, Wcall ha]
    refine ⟨_, tAt_nat eg, KB.of ?_⟩
    simp
    refine PrB.of ⟨P[i], rfl, hb.dp, hb.ct, fun p G1 a1 => ?_⟩
    simp [a1.at_, h40]
    refine KB.of ?_
    simp [h40]
    refine KB.of ?_
    simp
    have el : ((encs (alls P[i])).length : Int) = cnt P[i] := by rw [encs_len, alls_len]
    have xx := x.trans a1.ext
    refine cnd_dec (fun h1 => ?_) (fun h1 => ?_)
    · simp
      refine hr _ xx ?_
      rw [he]
      have : okBody ((i : Int) + 1) most P[i] = false := by
        unfold okBody
        rw [decide_eq_false (by omega : ¬ cnt P[i] ≤ 40)]
        rfl
      rw [this]
      rfl
    simp [Wcall hd]
    refine ⟨_, tAt_nat eg, KB.of ?_⟩
    simp
    refine PrB.of ⟨P[i], rfl, hb.dp, ?_⟩
    simp [h2]
    refine KB.of ?_
    simp
    refine cnd_dec (fun h3 => ?_) (fun h3 => ?_)
    · simp
      refine hr _ xx ?_
      rw [he]
      have : okBody ((i : Int) + 1) most P[i] = false := by
        unfold okBody
        rw [decide_eq_false (by omega : ¬ dep P[i] ≤ 2)]
        simp
      rw [this]
      rfl
    simp [a1.at_]
    refine KB.of ?_
    rw [encs_map]
    refine gen_map enc (fun G' => G' = G1) (fun G' e => by subst e; simpa [encs_map] using a1.at_) (okSt ((i : Int) + 1) most) rfl (fun y hy G' e Q' hq => ?_) (fun G' e => ?_)
    · subst e
      simp [c_are_bodies_e1, Wcall hi]
      exact PrB.of ⟨y, _, _, rfl, hb.wd y hy, hq _ rfl⟩
    · subst e
      simp
      have e2 : okBody ((i : Int) + 1) most P[i] = (alls P[i]).all (okSt ((i : Int) + 1) most) := by
        unfold okBody
        rw [decide_eq_true (by omega : cnt P[i] ≤ 40), decide_eq_true (by omega : dep P[i] ≤ 2)]
        rfl
      rw [← e2]
      cases e3 : okBody ((i : Int) + 1) most P[i] with
      | true =>
        simp
        rw [ei]
        refine ih _ _ _ _ ?_ xx
        rw [he, e3, ← ei]
        rfl
      | false =>
        simp
        refine hr _ xx ?_
        rw [he, e3]
        rfl
end SK.W

set_option Elab.async false
set_option linter.all false
set_option maxRecDepth 100000
/-! W7: sizes of bodies, check_program. -/
namespace SK.W
open PySem PySem.Spec PyProof.Rows L2 SK SK.D SK.C
theorem bsz2 {M : Gm} {D : En} {G0 : Gp} {d : Nat} {P : List Blk} {s : Addr} {st : Gp → Prop} {f1 f2 f3} (hs : ∀ G, st G) (hw : M.fn "" "block_size" = some (spSz 0 d)) (hs0 : G0 s = none) (hP : ∀ b ∈ P, okB RB d b)
    (hD : ∀ G kvs v, G s = some (.dct kvs) → gI 0 kvs = szTab 0 P 0 → (∀ i : Nat, i < P.length → ∃ z, dGet kvs (.inl (i : Int)) = some (.int z)) → Ext G0 G → D.nx [some (encP P), some (.ref s), v] G) :
    ∀ (m : Nat) (G : Gp) (kvs : List (DK × T)) (v : Option T), m ≤ P.length → G s = some (.dct kvs) → IntD kvs → kvs.length + m ≤ 100000 → gI 0 kvs = szTab 0 (P.drop m) m → (∀ i : Nat, m ≤ i → i < P.length → ∃ z, dGet kvs (.inl (i : Int)) = some (.int z)) → Ext G0 G →
      forB M st (.nm 2) c_body_sizes_b2 D (dn m) [some (encP P), some (.ref s), v] G f1 f2 f3
  | 0, G, kvs, v, _, es, hi, _, hg, hk, x => by
    simp only [dn, Fnil]
    exact ⟨hs _, hD G kvs v es (by simpa using hg) (fun i hi => hk i (Nat.zero_le _) hi) x⟩
  | m + 1, G, kvs, v, hm, es, hi, hl, hg, hk, x => by
    have hlt : m < P.length := hm
    have eg : (P.map encB)[m]? = some (encB P[m]) := by rw [List.getElem?_map, List.getElem?_eq_getElem hlt]; rfl
    rw [dn, Fcons]
    refine ⟨hs _, ?_⟩
    simp [c_body_sizes_b2, Wcall hw]
    refine ⟨_, tAt_nat eg, KB.of ?_⟩
    simp
    refine PrB.of ⟨P[m], s, kvs, rfl, es, hi, hP _ (List.getElem_mem hlt), ?_⟩
    simp [es]
    refine ⟨by unfold line; omega, KB.of ?_⟩
    simp
    have hl2 := dPut_len (kvs := kvs) (k := .inl (m : Int)) (v := .int (1 + szs (gI 0 kvs) P[m]))
    have hg' : gI 0 (dPut kvs (.inl (m : Int)) (.int (1 + szs (gI 0 kvs) P[m]))) = szTab 0 (P.drop m) m := by
      rw [gI_put, List.drop_eq_getElem_cons hlt]
      funext j
      simp only [szTab]
      rw [hg, show ((m + 1 : Nat) : Int) = (m : Int) + 1 by omega]
    refine bsz2 hs hw hs0 hP hD m _ _ _ (by omega) gu_same (dPut_int hi) (by omega) hg' (fun i h1 h2 => ?_) (Ext.gu hs0 x)
    rw [dGet_put]
    by_cases h : (i : Int) = (m : Int)
    · rw [if_pos (congrArg Sum.inl h)]
      exact ⟨_, rfl⟩
    · rw [if_neg (fun z => h (Sum.inl.inj z))]
      exact hk i (by omega) h2
def SZ (P : List Blk) : List Int := (List.range P.length).map fun (j : Nat) => szTab 0 P 0 (j : Int)
theorem bsz1 {M : Gm} {G0 : Gp} {P : List Blk} {s A : Addr} {Q : QT} {v : Option T} {kvs : List (DK × T)} {st : Gp → Prop} {f1 f2} (hs : ∀ G, st G) (hA : G0 A = none) (hn : P.length ≤ 100000) (hg : gI 0 kvs = szTab 0 P 0) (hk : ∀ i : Nat, i < P.length → ∃ z, dGet kvs (.inl (i : Int)) = some (.int z))
    (hQ : ∀ G', G' A = some (.lst ((SZ P).map T.int)) → Ext G0 G' → Q (.ref A) G') (hsA : s ≠ A) :
    ∀ (n i : Nat) (G : Gp), i + n = P.length → G A = some (.lst (((List.range i).map fun (j : Nat) => szTab 0 P 0 (j : Int)).map T.int)) → G s = some (.dct kvs) → Ext G0 G → lcB M st (.nm 2) [2] .no c_body_sizes_e1 A (upto i 1 n) [some (encP P), some (.ref s), v] G Q f1 f2
  | 0, i, G, hi, ha, es, x => by
    have : i = P.length := by omega
    subst this
    simp [upto_zero, hs]
    exact hQ _ ha x
  | n + 1, i, G, hi, ha, es, x => by
    obtain ⟨z, ez⟩ := hk i (by omega)
    have hz : z = szTab 0 P 0 (i : Int) := by
      rw [← hg]
      unfold gI
      rw [ez]
    rw [upto_succ, Lcons]
    refine ⟨hs _, ?_⟩
    simp [c_body_sizes_e1, es, ez]
    refine KB.of ?_
    refine ⟨_, ha, by simp [line]; omega, ?_⟩
    rw [show ((i : Int) + 1) = ((i + 1 : Nat) : Int) by omega]
    refine bsz1 hs hA hn hg hk hQ hsA n (i + 1) _ (by omega) ?_ (by rw [gu_ne hsA]; exact es) (Ext.gu hA x)
    rw [gu_same, List.range_succ, hz]
    simp
def spSizes (d : Nat) : Pr := fun ts G Q _ => ∃ P : List Blk, ts = [encP P] ∧ (∀ b ∈ P, okB RB d b) ∧ P.length ≤ 100000 ∧ ∀ G', Ext G G' → Q (.tup ((SZ P).map T.int)) G'
theorem w_body_sizes {M : Gm} {d : Nat} (hw : M.fn "" "block_size" = some (spSz 0 d)) : Ob c_body_sizes 3 M (spSizes d) := by
  rintro ts G Q X ⟨P, rfl, hP, hn, q⟩
  simp [c_body_sizes, slots0]
  intro s hs0
  refine ⟨by omega, ?_⟩
  rw [upto_dn, gu_gu]
  refine bsz2 (fun _ => trivial) hw hs0 hP (fun G1 kvs v es hg hk x => ?_) P.length _ [] _ (Nat.le_refl _) gu_same (fun p hp => by cases hp) (by simpa using hn) ?_ (fun i h1 h2 => absurd h2 (by omega)) (Ext.gu hs0 (Ext.refl _))
  · simp
    refine ⟨by omega, fun A hA => ?_⟩
    have hsA : s ≠ A := fun z => by subst z; rw [es] at hA; cases hA
    refine bsz1 (fun _ => trivial) hA hn hg hk (fun G2 ha x2 => ?_) hsA P.length 0 _ (by omega) gu_same (by rw [gu_ne hsA]; exact es) (Ext.gu hA (Ext.refl _))
    simp [ha]
    exact KB.of (q _ (x.trans x2))
  · rw [List.drop_length]
    rfl
def isProg (P : List Blk) : Bool := decide (1 ≤ P.length ∧ P.length ≤ 8) && areF ((P.length : Int) - 1) 0 P && (SZ P).all fun z => decide (z ≤ 600)
def spCheckP (d : Nat) : Pr := fun ts G Q X => ∃ P : List Blk, ts = [encP P] ∧ (∀ b ∈ P, okF d b) ∧ P.length ≤ 100000 ∧ (isProg P = true → ∀ G', Ext G G' → Q .non G') ∧ (isProg P = false → ∀ G', Ext G G' → X "BadProgram" [] G')
theorem w_are_bodies {M : Gm} {d : Nat} (ha : M.fn "" "all_statements" = some (spAll d)) (hd : M.fn "" "depth_of" = some (spDep d)) (hi : M.fn "" "is_statement" = some spIsSt) (h40 : M.cst "MOST_STATEMENTS" = some (.int 40)) (h2 : M.cst "MOST_DEPTH" = some (.int 2)) : Ob c_are_bodies 5 M (spAre d) := by
  rintro ts G Q X ⟨P, most, rfl, hP, hn, q⟩
  simp [c_are_bodies, slots0]
  refine ⟨by omega, ?_⟩
  refine are2 (fun _ => trivial) ha hd hi h40 h2 hP (fun G' x e => by rw [e] at q; exact q G' x) (fun G' a b c x e => by rw [e] at q; simp; exact q G' x) P.length 0 _ _ _ _ (by omega) rfl (Ext.refl _)
theorem w_check_program {M : Gm} {d : Nat} (ha : M.fn "" "are_bodies" = some (spAre d)) (hz : M.fn "" "body_sizes" = some (spSizes d)) (h8 : M.cst "MOST_BODIES" = some (.int 8)) (h6 : M.cst "MOST_SIZE" = some (.int 600)) (hx : M.xfs "BadProgram" = some []) : Ob c_check_program 1 M (spCheckP d) := by
  rintro ts G Q X ⟨P, rfl, hP, hn, q1, q2⟩
  simp [c_check_program, slots0, h8]
  refine cnd_dec (fun h1 => ?_) (fun h1 => ?_)
  · simp [Wraise hx]
    refine q2 ?_ _ (Ext.refl _)
    unfold isProg
    rw [decide_eq_false (by omega)]
    rfl
  · simp [h8]
    refine KB.of ?_
    simp
    refine cnd_dec (fun h3 => ?_) (fun h3 => ?_)
    · simp [Wraise hx]
      refine q2 ?_ _ (Ext.refl _)
      unfold isProg
      rw [decide_eq_false (by omega)]
      rfl
    · simp [Wcall ha]
      refine PrB.of ⟨P, _, rfl, hP, hn, fun G1 x1 => ?_⟩
      cases e1 : areF ((P.length : Int) - 1) 0 P with
      | false =>
        simp [Wraise hx]
        refine q2 ?_ _ x1
        unfold isProg
        rw [e1]
        simp
      | true =>
        simp [Wcall hz]
        refine PrB.of ⟨P, rfl, fun b hb => (hP b hb).rb, hn, fun G2 x2 => ?_⟩
        have hl : (SZ P).length = P.length := by simp [SZ]
        simp
        refine ⟨SZ P, rfl, by omega, fun m hm hmx => KB.of ?_⟩
        simp [h6]
        refine KB.of ?_
        simp
        refine cnd_dec (fun h4 => ?_) (fun h4 => ?_)
        · simp [Wraise hx]
          refine q2 ?_ _ (x1.trans x2)
          unfold isProg
          rw [e1]
          have : ((SZ P).all fun z => decide (z ≤ 600)) = false := by
            rw [List.all_eq_false]
            exact ⟨m, hm, by simp; omega⟩
          rw [this]
          simp
        · simp
          refine q1 ?_ _ (x1.trans x2)
          unfold isProg
          rw [e1, decide_eq_true (by omega)]
          simp only [Bool.true_and]
          rw [List.all_eq_true]
          intro y hy
          have := hmx y hy
          exact decide_eq_true (by omega)
end SK.W

set_option Elab.async false
set_option linter.all false
set_option maxRecDepth 100000
/-! W8 (printed by gw8.py): counts in the package, a statement put in. -/
namespace SK.W
open PySem PySem.Spec PyProof.Rows L2 SK SK.D SK.C
theorem cntin2 {M : Gm} {D : En} {G : Gp} {b : T} {st : Gp → Prop} {f1 f2 f3} {d : Nat} {N : Int} (hs : ∀ G, st G) (hf : M.fn "" "count_in" = some (spCnt d)) (hD : ∀ w v, D.nx [some b, some (.int N), w, v] G) :
    ∀ (xs : Blk) (n : Int) (w v : Option T), (∀ x ∈ xs, subs (okB (fun _ => True) d) x) → n + cnt xs = N → forB M st (.nm 2) c_count_in_b2 D (encs xs) [some b, some (.int n), w, v] G f1 f2 f3
  | [], n, w, v, _, h => by
    simp only [cnt] at h
    have h : n = N := by omega
    subst h
    simp only [encs, Fnil]
    exact ⟨hs _, hD _ _⟩
  | x :: xs, n, w, v, hx, h => by
    have ih := fun n' w' v' h' => cntin2 (M := M) (f1 := .mk) (f2 := .mk) (f3 := .mk) (st := st) hs hf hD xs n' w' v' (fun y hy => hx y (List.mem_cons_of_mem _ hy)) h'
    have hx0 := hx x List.mem_cons_self
    simp only [cnt] at h
    rw [encs, Fcons]
    refine ⟨hs _, ?_⟩
    cases x with
    | tr p q =>
      simp [c_count_in_b2, enc, cutT_one, Fcons]
      simp [c_count_in_b1, Wcall hf]
      refine PrB.of ⟨p, rfl, hx0.1, ?_⟩
      simp [Wcall hf]
      refine PrB.of ⟨q, rfl, hx0.2, ?_⟩
      simp
      exact ih _ _ _ (by simp only [cntS] at h; omega)
    | rep k p =>
      simp [c_count_in_b2, enc, cutT_one, Fcons]
      simp [c_count_in_b1, Wcall hf]
      refine PrB.of ⟨p, rfl, hx0, ?_⟩
      simp
      exact ih _ _ _ (by simp only [cntS] at h; omega)
    | _ =>
      simp [c_count_in_b2, enc, cutT_one, Fcons]
      try simp [c_count_in_b1]
      exact ih _ _ _ (by simp only [cntS] at h; omega)
theorem w_count_in {M : Gm} {d : Nat} (hf : M.fn "" "count_in" = some (spCnt d)) : Ob c_count_in 4 M (spCnt (d + 1)) := by
  rintro ts G Q X ⟨b, rfl, hb, q⟩
  simp [c_count_in, slots0]
  exact cntin2 (fun _ => trivial) hf (fun w v => by simp; exact q) b _ _ _ (fun x hx => (hb x hx).2) (by omega)

mutual
/-- a statement put in at place k -/
def insS (new : Stm) : Stm → Int → Stm
  | .tr b h, k => .tr (if 0 ≤ k ∧ k < cnt b then ins new b k else b) (if 0 ≤ k - cnt b ∧ k - cnt b < cnt h then ins new h (k - cnt b) else h)
  | .rep n b, k => .rep n (if 0 ≤ k ∧ k < cnt b then ins new b k else b)
  | .say w, _ => .say w | .pause, _ => .pause | .start b v, _ => .start b v | .wait v, _ => .wait v | .adopt v, _ => .adopt v | .ret, _ => .ret | .fail, _ => .fail
def ins (new : Stm) : List Stm → Int → List Stm
  | [], k => if k = 0 then [new] else []
  | s :: r, k => (if k = 0 then [new] else []) ++ (insS new s (k - 1) :: ins new r (k - cntS s))
end
theorem set_self {α : Type} {xs : List α} {j : Nat} {v : α} (h : xs[j]? = some v) : xs.set j v = xs := by
  obtain ⟨hl, e⟩ := List.getElem?_eq_some_iff.mp h
  rw [← e]
  simp
def spIns (d : Nat) : Pr := fun ts G Q _ => ∃ (b : Blk) (k : Int) (new : Stm), ts = [encB b, .int k, enc new] ∧ okA d b ∧ cnt b ≤ 1000 ∧ ∀ G', Ext G G' → Q (encB (ins new b k)) G'

/-- one turn over a part that is a block -/
theorem wstt {M : Gm} {D : En} {G0 G : Gp} {d : Nat} {q : Blk} {new : Stm} {l p : Addr} {acc : List T} {ps : List T} {j : Nat} {n : Int} {b s a7 : Option T} (hf : M.fn "" "with_statement" = some (spIns d)) (hc : M.fn "" "count_in" = some (spCnt d)) (a : Acc G0 G l acc) (ep : G p = some (.lst ps)) (hpl : p ≠ l) (hp0 : G0 p = none)
    (hj : ps[j]? = some (encB q)) (hq : okA d q) (hcq : cnt q ≤ 1000)
    (hD : ∀ G' a7, Acc G0 G' l acc → G' p = some (.lst (ps.set j (encB (if 0 ≤ n ∧ n < cnt q then ins new q n else q)))) → D.nx [b, some (.int (n - cnt q)), some (enc new), some (.ref l), s, some (.ref p), some (.int j), a7] G') :
    wpSs c_with_statement_b1 M [b, some (.int n), some (enc new), some (.ref l), s, some (.ref p), some (.int j), a7] G D := by
  have ej := tAt_nat hj
  have hjl : j < ps.length := by
    rcases Nat.lt_or_ge j ps.length with h | h
    · exact h
    · rw [List.getElem?_eq_none h] at hj; cases hj
  simp [c_with_statement_b1, ep, ej]
  refine KB.of ?_
  simp [ep, ej, Wcall hc]
  refine KB.of ?_
  simp [Wcall hc]
  refine PrB.of ⟨q, rfl, hq, ?_⟩
  simp
  have same : ∀ (h : ¬ (0 ≤ n ∧ n < cnt q)), D.nx [b, some (.int (n - cnt q)), some (enc new), some (.ref l), s, some (.ref p), some (.int j), some (.int (cnt q))] G := fun h => by
    refine hD _ _ a ?_
    rw [if_neg h, ep]
    rw [set_self hj]
  refine cnd_dec (fun h1 => ?_) (fun h1 => ?_)
  · simp
    refine cnd_dec (fun h2 => ?_) (fun h2 => ?_)
    · simp [ep, ej, Wcall hf]
      refine KB.of ?_
      simp [Wcall hf]
      refine PrB.of ⟨q, n, new, rfl, hq, hcq, fun G' x => ?_⟩
      have a' := a.later x
      simp [x _ _ ep]
      refine ⟨j, ?_, KB.of ?_⟩
      · unfold ixN
        rw [if_pos (by omega), if_pos (by omega)]
        rfl
      · simp
        refine hD _ _ ⟨a'.nw, by rw [gu_ne hpl.symm]; exact a'.at_, Ext.gu hp0 a'.ext⟩ ?_
        rw [gu_same, if_pos ⟨h1, h2⟩]
    · simp
      exact same (fun z => h2 z.2)
  · simp
    exact same (fun z => h1 z.1)
theorem wstn {M : Gm} {D : En} {G : Gp} {p : Addr} {ps : List T} {j : Nat} {t : T} {b n new l s a7 : Option T} (ep : G p = some (.lst ps)) (hj : ps[j]? = some t) (ht : (∃ w, t = .str w) ∨ ∃ i, t = .int i) (hD : D.nx [b, n, new, l, s, some (.ref p), some (.int j), a7] G) :
    wpSs c_with_statement_b1 M [b, n, new, l, s, some (.ref p), some (.int j), a7] G D := by
  have ej := tAt_nat hj
  simp [c_with_statement_b1, ep, ej]
  refine KB.of ?_
  rcases ht with ⟨w, rfl⟩ | ⟨i, rfl⟩ <;> simp <;> exact hD
theorem wst2 {M : Gm} {D : En} {G0 : Gp} {d : Nat} {b : T} {new : Stm} {R : List Stm} {st : Gp → Prop} {f1 f2 f3} (hs : ∀ G, st G) (hf : M.fn "" "with_statement" = some (spIns d)) (hc : M.fn "" "count_in" = some (spCnt d)) (hR : R.length ≤ 100000)
    (hD : ∀ (k : Int) (acc : List Stm) G l a4 a5 a6 a7, Acc G0 G l (encs acc) → acc ++ ins new [] k = R → D.nx [some b, some (.int k), some (enc new), some (.ref l), a4, a5, a6, a7] G) :
    ∀ (xs acc : List Stm) (k : Int) (G : Gp) (l : Addr) (a4 a5 a6 a7 : Option T), (∀ x ∈ xs, subs (okA d) x ∧ cntS x ≤ 1000) → acc ++ ins new xs k = R → Acc G0 G l (encs acc) →
      forB M st (.nm 4) c_with_statement_b2 D (encs xs) [some b, some (.int k), some (enc new), some (.ref l), a4, a5, a6, a7] G f1 f2 f3
  | [], acc, k, G, l, a4, a5, a6, a7, _, h, a => by
    simp only [encs, Fnil]
    exact ⟨hs _, hD _ _ _ _ _ _ _ _ a h⟩
  | x :: xs, acc, k, G, l, a4, a5, a6, a7, hx, h, a => by
    have ih := fun acc' k' G' l' a4' a5' a6' a7' h' a' => wst2 (M := M) (f1 := .mk) (f2 := .mk) (f3 := .mk) (st := st) hs hf hc hR hD xs acc' k' G' l' a4' a5' a6' a7' (fun y hy => hx y (List.mem_cons_of_mem _ hy)) h' a'
    have hx0 := hx x List.mem_cons_self
    simp only [ins] at h
    have rest : ∀ (acc1 : List Stm) (G1 : Gp) , Acc G0 G1 l (encs acc1) → acc1 ++ (insS new x (k - 1) :: ins new xs (k - cntS x)) = R →
        wpSs (.cons (.asg 1 (.bin .sub (.var 1) (.kc (.int 1)))) (.cons (.asg 5 (.bi .list (.cons (.var 4) .nil))) (.cons (.for_ (.nm 6) (.rng (.cons (.kc (.int 1)) (.cons (.bi .len (.cons (.var 5) .nil)) .nil))) c_with_statement_b1) (.cons (.ex (.bm (.var 3) .append (.cons (.bi .tuple (.cons (.var 5) .nil)) .nil))) .nil)))) M
          [some b, some (.int k), some (enc new), some (.ref l), some (enc x), a5, a6, a7] G1 ⟨fun s2 G2 => forB M st (.nm 4) c_with_statement_b2 D (encs xs) s2 G2, D.rt, D.nx, fun s2 G2 => forB M st (.nm 4) c_with_statement_b2 D (encs xs) s2 G2, D.ex⟩ := by
      intro acc1 G1 a1 h1
      have hl1 : (encs acc1).length < line := by
        rw [encs_len]
        have := congrArg List.length h1
        simp only [List.length_append, List.length_cons] at this
        unfold line; omega
      have fin : ∀ (p : Addr) (ps : List T) (k2 : Int) (G2 : Gp) (a4' a6' a7' : Option T), p ≠ l → Acc G0 G2 l (encs acc1) → G2 p = some (.lst ps) → T.tup ps = enc (insS new x (k - 1)) → k2 = k - cntS x →
          wpSs (.cons (.ex (.bm (.var 3) .append (.cons (.bi .tuple (.cons (.var 5) .nil)) .nil))) .nil) M [some b, some (.int k2), some (enc new), some (.ref l), a4', some (.ref p), a6', a7'] G2 ⟨fun s2 G2 => forB M st (.nm 4) c_with_statement_b2 D (encs xs) s2 G2, D.rt, D.nx, fun s2 G2 => forB M st (.nm 4) c_with_statement_b2 D (encs xs) s2 G2, D.ex⟩ := by
        intro p ps k2 G2 a4' a6' a7' hpl a2 ep e hk
        subst hk
        simp [a2.at_, ep, hl1]
        refine KB.of ?_
        simp [a2.at_, hl1]
        refine KB.of ?_
        rw [e]
        refine ih (acc1 ++ [insS new x (k - 1)]) _ _ _ _ _ _ _ ?_ (a2.putE ?_)
        · rw [← h1]; simp
        · rw [encs_app]; rfl
      have new1 : ∀ {p : Addr}, G1 p = none → p ≠ l ∧ G0 p = none := fun {p} hp => ⟨fun z => (by rw [z, a1.at_] at hp; cases hp), a1.ext.none hp⟩
      have acc2 : ∀ {p : Addr} {ps : List T}, G1 p = none → Acc G0 (gu G1 p (.lst ps)) l (encs acc1) := fun {p ps} hp => ⟨a1.nw, by rw [gu_ne (fun z => (new1 hp).1 z.symm)]; exact a1.at_, Ext.gu (new1 hp).2 a1.ext⟩
      cases x with
      | tr q r =>
        simp only [subs] at hx0
        obtain ⟨⟨hq, hr⟩, hn⟩ := hx0
        have hcq : cnt q ≤ 1000 := by simp only [cntS] at hn; omega
        have hcr : cnt r ≤ 1000 := by simp only [cntS] at hn; omega
        simp [enc]
        intro p hp
        refine KB.of ?_
        simp
        refine KB.of ?_
        simp
        rw [show upto 1 1 2 = [.int ((1 : Nat) : Int), .int ((2 : Nat) : Int)] from rfl, Fcons]
        refine ⟨trivial, ?_⟩
        refine wstt hf hc (acc2 hp) gu_same (new1 hp).1 (new1 hp).2 (q := q) rfl hq hcq fun G2 a7' a2 e2 => ?_
        dsimp only
        rw [Fcons]
        refine ⟨trivial, ?_⟩
        refine wstt hf hc a2 e2 (new1 hp).1 (new1 hp).2 (q := r) rfl hr hcr fun G3 a7'' a3 e3 => ?_
        dsimp only
        rw [Fnil]
        refine ⟨trivial, ?_⟩
        refine fin p _ _ _ _ _ _ (new1 hp).1 a3 e3 (by simp [insS, enc]) (by simp only [cntS]; omega)
      | rep m q =>
        simp only [subs] at hx0
        obtain ⟨hq, hn⟩ := hx0
        have hcq : cnt q ≤ 1000 := by simp only [cntS] at hn; omega
        simp [enc]
        intro p hp
        refine KB.of ?_
        simp
        refine KB.of ?_
        simp
        rw [show upto 1 1 2 = [.int ((1 : Nat) : Int), .int ((2 : Nat) : Int)] from rfl, Fcons]
        refine ⟨trivial, ?_⟩
        refine wstn gu_same (t := .int m) rfl (.inr ⟨_, rfl⟩) ?_
        dsimp only
        rw [Fcons]
        refine ⟨trivial, ?_⟩
        refine wstt hf hc (acc2 hp) gu_same (new1 hp).1 (new1 hp).2 (q := q) rfl hq hcq fun G2 a7' a2 e2 => ?_
        dsimp only
        rw [Fnil]
        refine ⟨trivial, ?_⟩
        refine fin p _ _ _ _ _ _ (new1 hp).1 a2 e2 (by simp [insS, enc]) (by simp only [cntS]; omega)
      | start bb vv =>
        simp [enc]
        intro p hp
        refine KB.of ?_
        simp
        refine KB.of ?_
        simp
        rw [show upto 1 1 2 = [.int ((1 : Nat) : Int), .int ((2 : Nat) : Int)] from rfl, Fcons]
        refine ⟨trivial, ?_⟩
        refine wstn gu_same (t := .int bb) rfl (.inr ⟨_, rfl⟩) ?_
        dsimp only
        rw [Fcons]
        refine ⟨trivial, ?_⟩
        refine wstn gu_same (t := .str vv) rfl (.inl ⟨_, rfl⟩) ?_
        dsimp only
        rw [Fnil]
        refine ⟨trivial, ?_⟩
        refine fin p _ _ _ _ _ _ (new1 hp).1 (acc2 hp) gu_same (by simp [insS, enc]) (by simp only [cntS]; omega)
      | say _ =>
        simp [enc]
        intro p hp
        refine KB.of ?_
        simp
        refine KB.of ?_
        simp
        rw [show upto 1 1 1 = [.int ((1 : Nat) : Int)] from rfl, Fcons]
        refine ⟨trivial, ?_⟩
        refine wstn gu_same rfl (.inl ⟨_, rfl⟩) ?_
        dsimp only
        rw [Fnil]
        refine ⟨trivial, ?_⟩
        refine fin p _ _ _ _ _ _ (new1 hp).1 (acc2 hp) gu_same (by simp [insS, enc]) (by simp only [cntS]; omega)
      | wait _ =>
        simp [enc]
        intro p hp
        refine KB.of ?_
        simp
        refine KB.of ?_
        simp
        rw [show upto 1 1 1 = [.int ((1 : Nat) : Int)] from rfl, Fcons]
        refine ⟨trivial, ?_⟩
        refine wstn gu_same rfl (.inl ⟨_, rfl⟩) ?_
        dsimp only
        rw [Fnil]
        refine ⟨trivial, ?_⟩
        refine fin p _ _ _ _ _ _ (new1 hp).1 (acc2 hp) gu_same (by simp [insS, enc]) (by simp only [cntS]; omega)
      | adopt _ =>
        simp [enc]
        intro p hp
        refine KB.of ?_
        simp
        refine KB.of ?_
        simp
        rw [show upto 1 1 1 = [.int ((1 : Nat) : Int)] from rfl, Fcons]
        refine ⟨trivial, ?_⟩
        refine wstn gu_same rfl (.inl ⟨_, rfl⟩) ?_
        dsimp only
        rw [Fnil]
        refine ⟨trivial, ?_⟩
        refine fin p _ _ _ _ _ _ (new1 hp).1 (acc2 hp) gu_same (by simp [insS, enc]) (by simp only [cntS]; omega)
      | _ =>
        simp [enc]
        intro p hp
        refine KB.of ?_
        simp
        refine KB.of ?_
        simp
        rw [show upto 1 1 0 = [] from rfl, Fnil]
        refine ⟨trivial, ?_⟩
        refine fin p _ _ _ _ _ _ (new1 hp).1 (acc2 hp) gu_same (by simp [insS, enc]) (by simp only [cntS]; omega)
    rw [encs, Fcons]
    refine ⟨hs _, ?_⟩
    have hl0 : k = 0 → (encs acc).length < line := fun hk => by
      rw [encs_len]
      have := congrArg List.length h
      simp only [List.length_append, List.length_cons] at this
      unfold line; omega
    simp [c_with_statement_b2]
    refine cnd_dec (fun h1 => ?_) (fun h1 => ?_)
    · subst h1
      simp [a.at_, hl0 rfl]
      refine KB.of ?_
      exact rest (acc ++ [new]) _ (a.putE (by rw [encs_app]; rfl)) (by rw [← h]; simp)
    · exact rest acc _ a (by rw [← h, if_neg h1]; rfl)
mutual
theorem wstnsl (new : Stm) : ∀ (b : List Stm) (k : Int), (ins new b k).length ≤ 2 * b.length + 1
  | [], k => by simp only [ins]; split <;> simp
  | s :: r, k => by
    have := wstnsl new r (k - cntS s)
    simp only [ins, List.length_append, List.length_cons]
    split <;> simp <;> omega
end
theorem w_with_statement {M : Gm} {d : Nat} (hf : M.fn "" "with_statement" = some (spIns d)) (hc : M.fn "" "count_in" = some (spCnt d)) : Ob c_with_statement 8 M (spIns (d + 1)) := by
  rintro ts G Q X ⟨b, k, new, rfl, hok, hn, q⟩
  have hlen : b.length ≤ cnt b := by
    clear hok hn q
    induction b with
    | nil => simp
    | cons s r ih => simp only [List.length_cons, cnt]; have : 1 ≤ cntS s := by cases s <;> simp [cntS] <;> omega
                     omega
  have hcs : ∀ x ∈ b, cntS x ≤ 1000 := by
    clear hok hlen q
    induction b with
    | nil => intro x hx; cases hx
    | cons s r ih =>
      intro x hx
      simp only [cnt] at hn
      rcases List.mem_cons.mp hx with h | h
      · subst h; omega
      · exact ih (by omega) x h
  have hR : (ins new b k).length ≤ 100000 := by have := wstnsl new b k; omega
  simp [c_with_statement, slots0]
  intro l hl
  refine KB.of ?_
  simp
  refine wst2 (fun _ => trivial) hf hc hR (fun k2 acc G2 l2 a4 a5 a6 a7 a h => ?_) b [] k _ l _ _ _ _ (fun x hx => ⟨(hok x hx).2, hcs x hx⟩) rfl (Acc.new (Ext.refl _) hl)
  simp
  simp only [ins] at h
  refine cnd_dec (fun h1 => ?_) (fun h1 => ?_)
  · rw [if_pos h1] at h
    have hl1 : (encs acc).length < line := by
      rw [encs_len]
      have := congrArg List.length h
      simp only [List.length_append, List.length_cons] at this
      unfold line; omega
    simp [a.at_, hl1]
    refine KB.of ?_
    simp [hl1]
    refine KB.of ?_
    have e : encs acc ++ [enc new] = encs (ins new b k) := by rw [← h, encs_app]; rfl
    rw [e]
    exact q _ (Ext.gu a.nw a.ext)
  · rw [if_neg h1, List.append_nil] at h
    subst h
    simp [a.at_]
    exact KB.of (q _ a.ext)

/-- one turn over a part that is a block -/
theorem lpat {M : Gm} {D : En} {G0 G : Gp} {d : Nat} {q : Blk} {new : Stm} {l p : Addr} {acc : List T} {ps : List T} {j : Nat} {n : Int} {b s a7 : Option T} (hf : M.fn "" "_law_paused" = some (spIns d)) (hc : M.fn "" "_law_count" = some (spCnt d)) (a : Acc G0 G l acc) (ep : G p = some (.lst ps)) (hpl : p ≠ l) (hp0 : G0 p = none)
    (hj : ps[j]? = some (encB q)) (hq : okA d q) (hcq : cnt q ≤ 1000)
    (hD : ∀ G' a7, Acc G0 G' l acc → G' p = some (.lst (ps.set j (encB (if 0 ≤ n ∧ n < cnt q then ins new q n else q)))) → D.nx [b, some (.int (n - cnt q)), some (enc new), some (.ref l), s, some (.ref p), some (.int j), a7] G') :
    wpSs c_law_paused_b1 M [b, some (.int n), some (enc new), some (.ref l), s, some (.ref p), some (.int j), a7] G D := by
  have ej := tAt_nat hj
  have hjl : j < ps.length := by
    rcases Nat.lt_or_ge j ps.length with h | h
    · exact h
    · rw [List.getElem?_eq_none h] at hj; cases hj
  simp [c_law_paused_b1, ep, ej]
  refine KB.of ?_
  simp [ep, ej, Wcall hc]
  refine KB.of ?_
  simp [Wcall hc]
  refine PrB.of ⟨q, rfl, hq, ?_⟩
  simp
  have same : ∀ (h : ¬ (0 ≤ n ∧ n < cnt q)), D.nx [b, some (.int (n - cnt q)), some (enc new), some (.ref l), s, some (.ref p), some (.int j), some (.int (cnt q))] G := fun h => by
    refine hD _ _ a ?_
    rw [if_neg h, ep]
    rw [set_self hj]
  refine cnd_dec (fun h1 => ?_) (fun h1 => ?_)
  · simp
    refine cnd_dec (fun h2 => ?_) (fun h2 => ?_)
    · simp [ep, ej, Wcall hf]
      refine KB.of ?_
      simp [Wcall hf]
      refine PrB.of ⟨q, n, new, rfl, hq, hcq, fun G' x => ?_⟩
      have a' := a.later x
      simp [x _ _ ep]
      refine ⟨j, ?_, KB.of ?_⟩
      · unfold ixN
        rw [if_pos (by omega), if_pos (by omega)]
        rfl
      · simp
        refine hD _ _ ⟨a'.nw, by rw [gu_ne hpl.symm]; exact a'.at_, Ext.gu hp0 a'.ext⟩ ?_
        rw [gu_same, if_pos ⟨h1, h2⟩]
    · simp
      exact same (fun z => h2 z.2)
  · simp
    exact same (fun z => h1 z.1)
theorem lpan {M : Gm} {D : En} {G : Gp} {p : Addr} {ps : List T} {j : Nat} {t : T} {b n new l s a7 : Option T} (ep : G p = some (.lst ps)) (hj : ps[j]? = some t) (ht : (∃ w, t = .str w) ∨ ∃ i, t = .int i) (hD : D.nx [b, n, new, l, s, some (.ref p), some (.int j), a7] G) :
    wpSs c_law_paused_b1 M [b, n, new, l, s, some (.ref p), some (.int j), a7] G D := by
  have ej := tAt_nat hj
  simp [c_law_paused_b1, ep, ej]
  refine KB.of ?_
  rcases ht with ⟨w, rfl⟩ | ⟨i, rfl⟩ <;> simp <;> exact hD
theorem lpa2 {M : Gm} {D : En} {G0 : Gp} {d : Nat} {b : T} {new : Stm} {R : List Stm} {st : Gp → Prop} {f1 f2 f3} (hs : ∀ G, st G) (hf : M.fn "" "_law_paused" = some (spIns d)) (hc : M.fn "" "_law_count" = some (spCnt d)) (hR : R.length ≤ 100000)
    (hD : ∀ (k : Int) (acc : List Stm) G l a4 a5 a6 a7, Acc G0 G l (encs acc) → acc ++ ins new [] k = R → D.nx [some b, some (.int k), some (enc new), some (.ref l), a4, a5, a6, a7] G) :
    ∀ (xs acc : List Stm) (k : Int) (G : Gp) (l : Addr) (a4 a5 a6 a7 : Option T), (∀ x ∈ xs, subs (okA d) x ∧ cntS x ≤ 1000) → acc ++ ins new xs k = R → Acc G0 G l (encs acc) →
      forB M st (.nm 4) c_law_paused_b2 D (encs xs) [some b, some (.int k), some (enc new), some (.ref l), a4, a5, a6, a7] G f1 f2 f3
  | [], acc, k, G, l, a4, a5, a6, a7, _, h, a => by
    simp only [encs, Fnil]
    exact ⟨hs _, hD _ _ _ _ _ _ _ _ a h⟩
  | x :: xs, acc, k, G, l, a4, a5, a6, a7, hx, h, a => by
    have ih := fun acc' k' G' l' a4' a5' a6' a7' h' a' => lpa2 (M := M) (f1 := .mk) (f2 := .mk) (f3 := .mk) (st := st) hs hf hc hR hD xs acc' k' G' l' a4' a5' a6' a7' (fun y hy => hx y (List.mem_cons_of_mem _ hy)) h' a'
    have hx0 := hx x List.mem_cons_self
    simp only [ins] at h
    have rest : ∀ (acc1 : List Stm) (G1 : Gp) , Acc G0 G1 l (encs acc1) → acc1 ++ (insS new x (k - 1) :: ins new xs (k - cntS x)) = R →
        wpSs (.cons (.asg 1 (.bin .sub (.var 1) (.kc (.int 1)))) (.cons (.asg 5 (.bi .list (.cons (.var 4) .nil))) (.cons (.for_ (.nm 6) (.rng (.cons (.kc (.int 1)) (.cons (.bi .len (.cons (.var 5) .nil)) .nil))) c_law_paused_b1) (.cons (.ex (.bm (.var 3) .append (.cons (.bi .tuple (.cons (.var 5) .nil)) .nil))) .nil)))) M
          [some b, some (.int k), some (enc new), some (.ref l), some (enc x), a5, a6, a7] G1 ⟨fun s2 G2 => forB M st (.nm 4) c_law_paused_b2 D (encs xs) s2 G2, D.rt, D.nx, fun s2 G2 => forB M st (.nm 4) c_law_paused_b2 D (encs xs) s2 G2, D.ex⟩ := by
      intro acc1 G1 a1 h1
      have hl1 : (encs acc1).length < line := by
        rw [encs_len]
        have := congrArg List.length h1
        simp only [List.length_append, List.length_cons] at this
        unfold line; omega
      have fin : ∀ (p : Addr) (ps : List T) (k2 : Int) (G2 : Gp) (a4' a6' a7' : Option T), p ≠ l → Acc G0 G2 l (encs acc1) → G2 p = some (.lst ps) → T.tup ps = enc (insS new x (k - 1)) → k2 = k - cntS x →
          wpSs (.cons (.ex (.bm (.var 3) .append (.cons (.bi .tuple (.cons (.var 5) .nil)) .nil))) .nil) M [some b, some (.int k2), some (enc new), some (.ref l), a4', some (.ref p), a6', a7'] G2 ⟨fun s2 G2 => forB M st (.nm 4) c_law_paused_b2 D (encs xs) s2 G2, D.rt, D.nx, fun s2 G2 => forB M st (.nm 4) c_law_paused_b2 D (encs xs) s2 G2, D.ex⟩ := by
        intro p ps k2 G2 a4' a6' a7' hpl a2 ep e hk
        subst hk
        simp [a2.at_, ep, hl1]
        refine KB.of ?_
        simp [a2.at_, hl1]
        refine KB.of ?_
        rw [e]
        refine ih (acc1 ++ [insS new x (k - 1)]) _ _ _ _ _ _ _ ?_ (a2.putE ?_)
        · rw [← h1]; simp
        · rw [encs_app]; rfl
      have new1 : ∀ {p : Addr}, G1 p = none → p ≠ l ∧ G0 p = none := fun {p} hp => ⟨fun z => (by rw [z, a1.at_] at hp; cases hp), a1.ext.none hp⟩
      have acc2 : ∀ {p : Addr} {ps : List T}, G1 p = none → Acc G0 (gu G1 p (.lst ps)) l (encs acc1) := fun {p ps} hp => ⟨a1.nw, by rw [gu_ne (fun z => (new1 hp).1 z.symm)]; exact a1.at_, Ext.gu (new1 hp).2 a1.ext⟩
      cases x with
      | tr q r =>
        simp only [subs] at hx0
        obtain ⟨⟨hq, hr⟩, hn⟩ := hx0
        have hcq : cnt q ≤ 1000 := by simp only [cntS] at hn; omega
        have hcr : cnt r ≤ 1000 := by simp only [cntS] at hn; omega
        simp [enc]
        intro p hp
        refine KB.of ?_
        simp
        refine KB.of ?_
        simp
        rw [show upto 1 1 2 = [.int ((1 : Nat) : Int), .int ((2 : Nat) : Int)] from rfl, Fcons]
        refine ⟨trivial, ?_⟩
        refine lpat hf hc (acc2 hp) gu_same (new1 hp).1 (new1 hp).2 (q := q) rfl hq hcq fun G2 a7' a2 e2 => ?_
        dsimp only
        rw [Fcons]
        refine ⟨trivial, ?_⟩
        refine lpat hf hc a2 e2 (new1 hp).1 (new1 hp).2 (q := r) rfl hr hcr fun G3 a7'' a3 e3 => ?_
        dsimp only
        rw [Fnil]
        refine ⟨trivial, ?_⟩
        refine fin p _ _ _ _ _ _ (new1 hp).1 a3 e3 (by simp [insS, enc]) (by simp only [cntS]; omega)
      | rep m q =>
        simp only [subs] at hx0
        obtain ⟨hq, hn⟩ := hx0
        have hcq : cnt q ≤ 1000 := by simp only [cntS] at hn; omega
        simp [enc]
        intro p hp
        refine KB.of ?_
        simp
        refine KB.of ?_
        simp
        rw [show upto 1 1 2 = [.int ((1 : Nat) : Int), .int ((2 : Nat) : Int)] from rfl, Fcons]
        refine ⟨trivial, ?_⟩
        refine lpan gu_same (t := .int m) rfl (.inr ⟨_, rfl⟩) ?_
        dsimp only
        rw [Fcons]
        refine ⟨trivial, ?_⟩
        refine lpat hf hc (acc2 hp) gu_same (new1 hp).1 (new1 hp).2 (q := q) rfl hq hcq fun G2 a7' a2 e2 => ?_
        dsimp only
        rw [Fnil]
        refine ⟨trivial, ?_⟩
        refine fin p _ _ _ _ _ _ (new1 hp).1 a2 e2 (by simp [insS, enc]) (by simp only [cntS]; omega)
      | start bb vv =>
        simp [enc]
        intro p hp
        refine KB.of ?_
        simp
        refine KB.of ?_
        simp
        rw [show upto 1 1 2 = [.int ((1 : Nat) : Int), .int ((2 : Nat) : Int)] from rfl, Fcons]
        refine ⟨trivial, ?_⟩
        refine lpan gu_same (t := .int bb) rfl (.inr ⟨_, rfl⟩) ?_
        dsimp only
        rw [Fcons]
        refine ⟨trivial, ?_⟩
        refine lpan gu_same (t := .str vv) rfl (.inl ⟨_, rfl⟩) ?_
        dsimp only
        rw [Fnil]
        refine ⟨trivial, ?_⟩
        refine fin p _ _ _ _ _ _ (new1 hp).1 (acc2 hp) gu_same (by simp [insS, enc]) (by simp only [cntS]; omega)
      | say _ =>
        simp [enc]
        intro p hp
        refine KB.of ?_
        simp
        refine KB.of ?_
        simp
        rw [show upto 1 1 1 = [.int ((1 : Nat) : Int)] from rfl, Fcons]
        refine ⟨trivial, ?_⟩
        refine lpan gu_same rfl (.inl ⟨_, rfl⟩) ?_
        dsimp only
        rw [Fnil]
        refine ⟨trivial, ?_⟩
        refine fin p _ _ _ _ _ _ (new1 hp).1 (acc2 hp) gu_same (by simp [insS, enc]) (by simp only [cntS]; omega)
      | wait _ =>
        simp [enc]
        intro p hp
        refine KB.of ?_
        simp
        refine KB.of ?_
        simp
        rw [show upto 1 1 1 = [.int ((1 : Nat) : Int)] from rfl, Fcons]
        refine ⟨trivial, ?_⟩
        refine lpan gu_same rfl (.inl ⟨_, rfl⟩) ?_
        dsimp only
        rw [Fnil]
        refine ⟨trivial, ?_⟩
        refine fin p _ _ _ _ _ _ (new1 hp).1 (acc2 hp) gu_same (by simp [insS, enc]) (by simp only [cntS]; omega)
      | adopt _ =>
        simp [enc]
        intro p hp
        refine KB.of ?_
        simp
        refine KB.of ?_
        simp
        rw [show upto 1 1 1 = [.int ((1 : Nat) : Int)] from rfl, Fcons]
        refine ⟨trivial, ?_⟩
        refine lpan gu_same rfl (.inl ⟨_, rfl⟩) ?_
        dsimp only
        rw [Fnil]
        refine ⟨trivial, ?_⟩
        refine fin p _ _ _ _ _ _ (new1 hp).1 (acc2 hp) gu_same (by simp [insS, enc]) (by simp only [cntS]; omega)
      | _ =>
        simp [enc]
        intro p hp
        refine KB.of ?_
        simp
        refine KB.of ?_
        simp
        rw [show upto 1 1 0 = [] from rfl, Fnil]
        refine ⟨trivial, ?_⟩
        refine fin p _ _ _ _ _ _ (new1 hp).1 (acc2 hp) gu_same (by simp [insS, enc]) (by simp only [cntS]; omega)
    rw [encs, Fcons]
    refine ⟨hs _, ?_⟩
    have hl0 : k = 0 → (encs acc).length < line := fun hk => by
      rw [encs_len]
      have := congrArg List.length h
      simp only [List.length_append, List.length_cons] at this
      unfold line; omega
    simp [c_law_paused_b2]
    refine cnd_dec (fun h1 => ?_) (fun h1 => ?_)
    · subst h1
      simp [a.at_, hl0 rfl]
      refine KB.of ?_
      exact rest (acc ++ [new]) _ (a.putE (by rw [encs_app]; rfl)) (by rw [← h]; simp)
    · exact rest acc _ a (by rw [← h, if_neg h1]; rfl)
mutual
theorem lpansl (new : Stm) : ∀ (b : List Stm) (k : Int), (ins new b k).length ≤ 2 * b.length + 1
  | [], k => by simp only [ins]; split <;> simp
  | s :: r, k => by
    have := lpansl new r (k - cntS s)
    simp only [ins, List.length_append, List.length_cons]
    split <;> simp <;> omega
end
theorem w_law_paused {M : Gm} {d : Nat} (hf : M.fn "" "_law_paused" = some (spIns d)) (hc : M.fn "" "_law_count" = some (spCnt d)) : Ob c_law_paused 8 M (spIns (d + 1)) := by
  rintro ts G Q X ⟨b, k, new, rfl, hok, hn, q⟩
  have hlen : b.length ≤ cnt b := by
    clear hok hn q
    induction b with
    | nil => simp
    | cons s r ih => simp only [List.length_cons, cnt]; have : 1 ≤ cntS s := by cases s <;> simp [cntS] <;> omega
                     omega
  have hcs : ∀ x ∈ b, cntS x ≤ 1000 := by
    clear hok hlen q
    induction b with
    | nil => intro x hx; cases hx
    | cons s r ih =>
      intro x hx
      simp only [cnt] at hn
      rcases List.mem_cons.mp hx with h | h
      · subst h; omega
      · exact ih (by omega) x h
  have hR : (ins new b k).length ≤ 100000 := by have := lpansl new b k; omega
  simp [c_law_paused, slots0]
  intro l hl
  refine KB.of ?_
  simp
  refine lpa2 (fun _ => trivial) hf hc hR (fun k2 acc G2 l2 a4 a5 a6 a7 a h => ?_) b [] k _ l _ _ _ _ (fun x hx => ⟨(hok x hx).2, hcs x hx⟩) rfl (Acc.new (Ext.refl _) hl)
  simp
  simp only [ins] at h
  refine cnd_dec (fun h1 => ?_) (fun h1 => ?_)
  · rw [if_pos h1] at h
    have hl1 : (encs acc).length < line := by
      rw [encs_len]
      have := congrArg List.length h
      simp only [List.length_append, List.length_cons] at this
      unfold line; omega
    simp [a.at_, hl1]
    refine KB.of ?_
    simp [hl1]
    refine KB.of ?_
    have e : encs acc ++ [enc new] = encs (ins new b k) := by rw [← h, encs_app]; rfl
    rw [e]
    exact q _ (Ext.gu a.nw a.ext)
  · rw [if_neg h1, List.append_nil] at h
    subst h
    simp [a.at_]
    exact KB.of (q _ a.ext)

theorem ldp2 {M : Gm} {D : En} {G : Gp} {b : T} {st : Gp → Prop} {f1 f2 f3} {d : Nat} {N : Nat} (hs : ∀ G, st G) (hf : M.fn "" "_law_depth" = some (spDep d)) (hD : ∀ w v, D.nx [some b, some (.int N), w, v] G) :
    ∀ (xs : Blk) (n : Nat) (w v : Option T), (∀ x ∈ xs, subs (okA d) x) → max n (dep xs) = N → forB M st (.nm 2) c_law_depth_b2 D (encs xs) [some b, some (.int n), w, v] G f1 f2 f3
  | [], n, w, v, _, h => by
    simp only [dep, Nat.max_zero] at h
    subst h
    simp only [encs, Fnil]
    exact ⟨hs _, hD _ _⟩
  | x :: xs, n, w, v, hx, h => by
    have ih := fun n' w' v' h' => ldp2 (M := M) (f1 := .mk) (f2 := .mk) (f3 := .mk) (st := st) hs hf hD xs n' w' v' (fun y hy => hx y (List.mem_cons_of_mem _ hy)) h'
    have hx0 := hx x List.mem_cons_self
    simp only [dep] at h
    rw [encs, Fcons]
    refine ⟨hs _, ?_⟩
    cases x with
    | tr p q =>
      simp [c_law_depth_b2, enc, cutT_one, Fcons]
      simp [c_law_depth_b1, Wcall hf]
      refine PrB.of ⟨p, rfl, hx0.1, ?_⟩
      simp [Wcall hf]
      have e1 := mxJ n (1 + dep p)
      simp only [Int.natCast_add, Int.cast_ofNat_Int] at e1
      rw [e1]
      refine PrB.of ⟨q, rfl, hx0.2, ?_⟩
      simp
      have e2 := mxJ (max n (1 + dep p)) (1 + dep q)
      simp only [Int.natCast_add, Int.cast_ofNat_Int] at e2
      rw [e2]
      exact ih _ _ _ (by simp only [depS] at h; omega)
    | rep k p =>
      simp [c_law_depth_b2, enc, cutT_one, Fcons]
      simp [c_law_depth_b1, Wcall hf]
      refine PrB.of ⟨p, rfl, hx0, ?_⟩
      simp
      have e1 := mxJ n (1 + dep p)
      simp only [Int.natCast_add, Int.cast_ofNat_Int] at e1
      rw [e1]
      exact ih _ _ _ (by simp only [depS] at h; omega)
    | _ =>
      simp [c_law_depth_b2, enc, cutT_one, Fcons]
      try simp [c_law_depth_b1]
      exact ih _ _ _ (by simp only [depS] at h; omega)
theorem w_law_depth {M : Gm} {d : Nat} (hf : M.fn "" "_law_depth" = some (spDep d)) : Ob c_law_depth 4 M (spDep (d + 1)) := by
  rintro ts G Q X ⟨b, rfl, hok, q⟩
  simp [c_law_depth, slots0]
  exact ldp2 (fun _ => trivial) hf (fun w v => by simp; exact q) b 0 _ _ (fun x hx => (hok x hx).2) (by omega)

theorem ldq2 {M : Gm} {D : En} {G : Gp} {b : T} {st : Gp → Prop} {f1 f2 f3} {d : Nat} {N : Nat} (hs : ∀ G, st G) (hf : M.fn "" "_law_deep" = some (spDep d)) (hD : ∀ w v, D.nx [some b, some (.int N), w, v] G) :
    ∀ (xs : Blk) (n : Nat) (w v : Option T), (∀ x ∈ xs, subs (okA d) x) → max n (dep xs) = N → forB M st (.nm 2) c_law_deep_b2 D (encs xs) [some b, some (.int n), w, v] G f1 f2 f3
  | [], n, w, v, _, h => by
    simp only [dep, Nat.max_zero] at h
    subst h
    simp only [encs, Fnil]
    exact ⟨hs _, hD _ _⟩
  | x :: xs, n, w, v, hx, h => by
    have ih := fun n' w' v' h' => ldq2 (M := M) (f1 := .mk) (f2 := .mk) (f3 := .mk) (st := st) hs hf hD xs n' w' v' (fun y hy => hx y (List.mem_cons_of_mem _ hy)) h'
    have hx0 := hx x List.mem_cons_self
    simp only [dep] at h
    rw [encs, Fcons]
    refine ⟨hs _, ?_⟩
    cases x with
    | tr p q =>
      simp [c_law_deep_b2, enc, cutT_one, Fcons]
      simp [c_law_deep_b1, Wcall hf]
      refine PrB.of ⟨p, rfl, hx0.1, ?_⟩
      simp [Wcall hf]
      have e1 := mxJ n (1 + dep p)
      simp only [Int.natCast_add, Int.cast_ofNat_Int] at e1
      rw [e1]
      refine PrB.of ⟨q, rfl, hx0.2, ?_⟩
      simp
      have e2 := mxJ (max n (1 + dep p)) (1 + dep q)
      simp only [Int.natCast_add, Int.cast_ofNat_Int] at e2
      rw [e2]
      exact ih _ _ _ (by simp only [depS] at h; omega)
    | rep k p =>
      simp [c_law_deep_b2, enc, cutT_one, Fcons]
      simp [c_law_deep_b1, Wcall hf]
      refine PrB.of ⟨p, rfl, hx0, ?_⟩
      simp
      have e1 := mxJ n (1 + dep p)
      simp only [Int.natCast_add, Int.cast_ofNat_Int] at e1
      rw [e1]
      exact ih _ _ _ (by simp only [depS] at h; omega)
    | _ =>
      simp [c_law_deep_b2, enc, cutT_one, Fcons]
      try simp [c_law_deep_b1]
      exact ih _ _ _ (by simp only [depS] at h; omega)
theorem w_law_deep {M : Gm} {d : Nat} (hf : M.fn "" "_law_deep" = some (spDep d)) : Ob c_law_deep 4 M (spDep (d + 1)) := by
  rintro ts G Q X ⟨b, rfl, hok, q⟩
  simp [c_law_deep, slots0]
  exact ldq2 (fun _ => trivial) hf (fun w v => by simp; exact q) b 0 _ _ (fun x hx => (hok x hx).2) (by omega)
end SK.W

set_option Elab.async false
set_option linter.all false
set_option maxRecDepth 100000
/-! W9: plain facts: statements put in, sizes, what a drawn program keeps. -/
namespace SK.W
open PySem PySem.Spec PyProof.Rows L2 SK SK.D SK.C
theorem cntS_pos : ∀ (s : Stm), 1 ≤ cntS s
  | .tr b h => by simp only [cntS]; omega
  | .rep n b => by simp only [cntS]; omega
  | .say _ => Nat.le_refl _ | .pause => Nat.le_refl _ | .start _ _ => Nat.le_refl _ | .wait _ => Nat.le_refl _ | .adopt _ => Nat.le_refl _ | .ret => Nat.le_refl _ | .fail => Nat.le_refl _
mutual
theorem insS_neg (new : Stm) : ∀ (s : Stm) (k : Int), k < 0 → insS new s k = s
  | .tr b h, k, hk => by simp only [insS]; rw [if_neg (by omega), if_neg (by omega)]
  | .rep n b, k, hk => by simp only [insS]; rw [if_neg (by omega)]
  | .say _, _, _ => rfl | .pause, _, _ => rfl | .start _ _, _, _ => rfl | .wait _, _, _ => rfl | .adopt _, _, _ => rfl | .ret, _, _ => rfl | .fail, _, _ => rfl
theorem ins_neg (new : Stm) : ∀ (b : List Stm) (k : Int), k < 0 → ins new b k = b
  | [], k, hk => by simp only [ins]; rw [if_neg (by omega)]
  | s :: r, k, hk => by
    simp only [ins]
    rw [if_neg (by omega), insS_neg new s (k - 1) (by omega), ins_neg new r (k - cntS s) (by omega)]
    rfl
end
theorem insS_big (new : Stm) : ∀ (s : Stm) (k : Int), (cntS s : Int) - 1 ≤ k → insS new s k = s
  | .tr b h, k, hk => by simp only [cntS] at hk; simp only [insS]; rw [if_neg (by omega), if_neg (by omega)]
  | .rep n b, k, hk => by simp only [cntS] at hk; simp only [insS]; rw [if_neg (by omega)]
  | .say _, _, _ => rfl | .pause, _, _ => rfl | .start _ _, _, _ => rfl | .wait _, _, _ => rfl | .adopt _, _, _ => rfl | .ret, _, _ => rfl | .fail, _, _ => rfl
mutual
theorem cntS_ins (new : Stm) : ∀ (s : Stm) (k : Int), cntS (insS new s k) ≤ cntS s + cntS new
  | .tr b h, k => by
    simp only [insS]
    have h1 := cnt_ins new b k
    have h2 := cnt_ins new h (k - cnt b)
    split
    · rw [if_neg (by omega)]; simp only [cntS]; omega
    · split <;> simp only [cntS] <;> omega
  | .rep n b, k => by
    simp only [insS]
    have h1 := cnt_ins new b k
    split <;> simp only [cntS] <;> omega
  | .say _, _ => by simp only [insS, cntS]; omega
  | .pause, _ => by simp only [insS, cntS]; omega
  | .start _ _, _ => by simp only [insS, cntS]; omega
  | .wait _, _ => by simp only [insS, cntS]; omega
  | .adopt _, _ => by simp only [insS, cntS]; omega
  | .ret, _ => by simp only [insS, cntS]; omega
  | .fail, _ => by simp only [insS, cntS]; omega
theorem cnt_ins (new : Stm) : ∀ (b : List Stm) (k : Int), cnt (ins new b k) ≤ cnt b + cntS new
  | [], k => by simp only [ins]; split <;> simp only [cnt] <;> omega
  | s :: r, k => by
    simp only [ins]
    have hp := cntS_pos s
    by_cases h0 : k = 0
    · subst h0
      rw [if_pos rfl, insS_neg new s _ (by omega), ins_neg new r _ (by omega)]
      simp only [List.cons_append, List.nil_append, cnt]
      omega
    · rw [if_neg h0]
      simp only [List.nil_append, cnt]
      by_cases h1 : k - 1 < (cntS s : Int) - 1
      · rw [ins_neg new r _ (by omega)]
        have := cntS_ins new s (k - 1)
        omega
      · rw [insS_big new s _ (by omega)]
        have := cnt_ins new r (k - cntS s)
        omega
end
/-! all statements, each by I -/
mutual
theorem allS_of {I : Stm → Prop} {d : Nat} : ∀ (s : Stm), I s → subs (okB I d) s → ∀ x ∈ allS s, I x
  | .tr b h, i, z, x, hx => by
    simp only [allS, List.mem_cons, List.mem_append] at hx
    rcases hx with e | e | e
    · subst e; exact i
    · exact alls_of b z.1 x e
    · exact alls_of h z.2 x e
  | .rep n b, i, z, x, hx => by
    simp only [allS, List.mem_cons] at hx
    rcases hx with e | e
    · subst e; exact i
    · exact alls_of b z x e
  | .say _, i, _, x, hx => by simp only [allS, List.mem_singleton] at hx; subst hx; exact i
  | .pause, i, _, x, hx => by simp only [allS, List.mem_singleton] at hx; subst hx; exact i
  | .start _ _, i, _, x, hx => by simp only [allS, List.mem_singleton] at hx; subst hx; exact i
  | .wait _, i, _, x, hx => by simp only [allS, List.mem_singleton] at hx; subst hx; exact i
  | .adopt _, i, _, x, hx => by simp only [allS, List.mem_singleton] at hx; subst hx; exact i
  | .ret, i, _, x, hx => by simp only [allS, List.mem_singleton] at hx; subst hx; exact i
  | .fail, i, _, x, hx => by simp only [allS, List.mem_singleton] at hx; subst hx; exact i
theorem alls_of {I : Stm → Prop} {d : Nat} : ∀ (b : List Stm), okB I d b → ∀ x ∈ alls b, I x
  | [], _, x, hx => by simp only [alls, List.not_mem_nil] at hx
  | s :: r, h, x, hx => by
    simp only [alls, List.mem_append] at hx
    cases d with
    | zero => exact h.elim
    | succ d =>
      have hs := h s List.mem_cons_self
      rcases hx with e | e
      · exact allS_of s hs.1 hs.2 x e
      · exact alls_of (d := d + 1) r (fun y hy => h y (List.mem_cons_of_mem _ hy)) x e
end
mutual
theorem depS_le {I : Stm → Prop} : ∀ (s : Stm) {d : Nat}, subs (okB I d) s → depS s ≤ d
  | .tr b h, d, z => by have h1 := dep_le b z.1; have h2 := dep_le h z.2; cases d with
    | zero => exact z.1.elim
    | succ d => simp only [depS]; omega
  | .rep n b, d, z => by have h1 := dep_le b z; cases d with
    | zero => exact z.elim
    | succ d => simp only [depS]; omega
  | .say _, _, _ => Nat.zero_le _ | .pause, _, _ => Nat.zero_le _ | .start _ _, _, _ => Nat.zero_le _ | .wait _, _, _ => Nat.zero_le _ | .adopt _, _, _ => Nat.zero_le _ | .ret, _, _ => Nat.zero_le _ | .fail, _, _ => Nat.zero_le _
theorem dep_le {I : Stm → Prop} : ∀ (b : List Stm) {d : Nat}, okB I d b → dep b ≤ d - 1
  | [], d, _ => Nat.zero_le _
  | s :: r, 0, z => z.elim
  | s :: r, d + 1, z => by
    have h1 := depS_le s (z s List.mem_cons_self).2
    have h2 := dep_le r (d := d + 1) (fun y hy => z y (List.mem_cons_of_mem _ hy))
    simp only [dep]
    omega
end
/-- putting in keeps what holds of each statement -/
theorem okB_ins {I : Stm → Prop} {new : Stm} (hI : ∀ s k, I s → I (insS new s k)) : ∀ (d : Nat) (b : List Stm) (k : Int), (I new ∧ subs (okB I 1) new) → okB I d b → okB I (d + 1) (ins new b k)
  | 0, b, k, _, h => h.elim
  | d + 1, b, k, hn, h => by
    have sub : ∀ (s : Stm) (k : Int), subs (okB I d) s → subs (okB I (d + 1)) (insS new s k) := fun s k z => by
      have up : ∀ {c : List Stm}, okB I d c → okB I (d + 1) c := fun z => okB_up (Nat.le_succ d) z
      cases s with
      | tr p q =>
        simp only [insS, subs]
        refine ⟨?_, ?_⟩
        · split
          · exact okB_ins hI d p _ hn z.1
          · exact up z.1
        · split
          · exact okB_ins hI d q _ hn z.2
          · exact up z.2
      | rep n p =>
        simp only [insS, subs]
        split
        · exact okB_ins hI d p _ hn z
        · exact up z
      | _ => trivial
    have nw : I new ∧ subs (okB I (d + 1)) new := ⟨hn.1, subs_imp (fun _ z => okB_up (by omega) z) hn.2⟩
    have key : ∀ (xs : List Stm) (k : Int), (∀ s ∈ xs, I s ∧ subs (okB I d) s) → ∀ s ∈ ins new xs k, I s ∧ subs (okB I (d + 1)) s := by
      intro xs
      induction xs with
      | nil =>
        intro k _ s hs
        simp only [ins] at hs
        split at hs
        · simp only [List.mem_singleton] at hs; subst hs; exact nw
        · cases hs
      | cons y ys ih =>
        intro k hx s hs
        simp only [ins, List.mem_append, List.mem_cons] at hs
        have hy := hx y List.mem_cons_self
        rcases hs with hs | hs | hs
        · split at hs
          · simp only [List.mem_singleton] at hs; subst hs; exact nw
          · cases hs
        · subst hs; exact ⟨hI _ _ hy.1, sub _ _ hy.2⟩
        · exact ih _ (fun z hz => hx z (List.mem_cons_of_mem _ hz)) s hs
    exact key b k h
/-! ### sizes under agreeing tables -/
mutual
theorem szS_congr {lo hi : Int} {g g' : Int → Int} {I : Stm → Prop} (hI : ∀ b v, I (.start b v) → lo < b ∧ b < hi) (hg : ∀ j, lo < j → j < hi → g j = g' j) {d : Nat} : ∀ (s : Stm), I s → subs (okB I d) s → szS g s = szS g' s
  | .tr b h, _, z => by simp only [szS]; rw [szs_congr hI hg b z.1, szs_congr hI hg h z.2]
  | .rep n b, _, z => by simp only [szS]; rw [szs_congr hI hg b z]
  | .start b v, i, _ => by simp only [szS]; rw [hg b (hI b v i).1 (hI b v i).2]
  | .say _, _, _ => rfl | .pause, _, _ => rfl | .wait _, _, _ => rfl | .adopt _, _, _ => rfl | .ret, _, _ => rfl | .fail, _, _ => rfl
theorem szs_congr {lo hi : Int} {g g' : Int → Int} {I : Stm → Prop} (hI : ∀ b v, I (.start b v) → lo < b ∧ b < hi) (hg : ∀ j, lo < j → j < hi → g j = g' j) {d : Nat} : ∀ (b : List Stm), okB I d b → szs g b = szs g' b
  | [], _ => rfl
  | s :: r, h => by
    cases d with
    | zero => exact h.elim
    | succ d =>
      have hs := h s List.mem_cons_self
      simp only [szs]
      rw [szS_congr hI hg s hs.1 hs.2, szs_congr hI hg (d := d + 1) r (fun y hy => h y (List.mem_cons_of_mem _ hy))]
end
end SK.W

set_option Elab.async false
set_option linter.all false
set_option maxRecDepth 100000
/-! W10: programs whose statements are good: what check_program asks of them is their size alone. -/
namespace SK.W
open PySem PySem.Spec PyProof.Rows L2 SK SK.D SK.C
def LJ (lo hi : Int) : Stm → Prop
  | .say w => w ∈ LW
  | .start b v => lo < b ∧ b < hi ∧ v ∈ LN
  | .wait v => v ∈ LN
  | .adopt v => v ∈ LN
  | .rep n _ => 0 ≤ n ∧ n ≤ 100
  | .pause => True | .ret => True | .fail => True | .tr _ _ => True
theorem LI_LJ {lo hi : Int} : ∀ s, LI lo hi s → LJ lo hi s
  | .rep n _, h => ⟨h.1, by have := h.2; omega⟩
  | .say _, h => h | .start _ _, h => h | .wait _, h => h | .adopt _, h => h | .pause, _ => trivial | .ret, _ => trivial | .fail, _ => trivial | .tr _ _, _ => trivial
theorem LJ_ins {lo hi : Int} {new : Stm} : ∀ s k, LJ lo hi s → LJ lo hi (insS new s k)
  | .rep n _, _, h => h
  | .say _, _, h => h | .start _ _, _, h => h | .wait _, _, h => h | .adopt _, _, h => h | .pause, _, _ => trivial | .ret, _, _ => trivial | .fail, _, _ => trivial | .tr _ _, _, _ => trivial
theorem LJ_wl {lo hi : Int} : ∀ s, LJ lo hi s → wl s
  | .say w, h => by
    have h : w ∈ LW := h
    simp only [LW, List.mem_cons, List.not_mem_nil, or_false] at h
    show w.length ≤ 100000
    rcases h with h | h | h | h | h | h | h | h <;> subst h <;> decide
  | .start _ _, _ => trivial | .wait _, _ => trivial | .adopt _, _ => trivial | .rep _ _, _ => trivial | .pause, _ => trivial | .ret, _ => trivial | .fail, _ => trivial | .tr _ _, _ => trivial
theorem LJ_RB {lo hi : Int} : ∀ s, LJ lo hi s → RB s
  | .rep n _, h => ⟨by have := h.1; omega, by have := h.2; omega⟩
  | .say _, _ => trivial | .start _ _, _ => trivial | .wait _, _ => trivial | .adopt _, _ => trivial | .pause, _ => trivial | .ret, _ => trivial | .fail, _ => trivial | .tr _ _, _ => trivial
theorem LN_in {v : String} (h : v ∈ LN) : inLN v = true := by
  simp only [LN, List.mem_cons, List.not_mem_nil, or_false] at h
  rcases h with h | h | h | h <;> subst h <;> decide
theorem LJ_ok {lo hi : Int} : ∀ s, LJ lo hi s → okSt (lo + 1) (hi - 1) s = true
  | .say w, h => by
    have h : w ∈ LW := h
    simp only [LW, List.mem_cons, List.not_mem_nil, or_false] at h
    show isW w = true
    rcases h with h | h | h | h | h | h | h | h <;> subst h <;> decide
  | .start b v, h => by
    obtain ⟨h1, h2, h3⟩ := h
    simp only [okSt]
    rw [decide_eq_true (by omega), decide_eq_true (by omega), LN_in h3]
    rfl
  | .wait v, h => LN_in h
  | .adopt v, h => LN_in h
  | .rep n _, h => by
    obtain ⟨h1, h2⟩ := h
    simp only [okSt]
    rw [decide_eq_true h1, decide_eq_true h2]
    rfl
  | .pause, _ => rfl | .ret, _ => rfl | .fail, _ => rfl | .tr _ _, _ => rfl
theorem areF_iff {most : Int} : ∀ (Q : List Blk) (o : Int), areF most o Q = true ↔ ∀ (j : Nat) b, Q[j]? = some b → okBody (o + j + 1) most b = true
  | [], o => by simp [areF]
  | b :: r, o => by
    simp only [areF, Bool.and_eq_true]
    rw [areF_iff r (o + 1)]
    constructor
    · rintro ⟨h1, h2⟩ j c e
      cases j with
      | zero => simp at e; subst e; simpa using h1
      | succ j =>
        have := h2 j c (by simpa using e)
        rw [show o + ((j + 1 : Nat) : Int) + 1 = o + 1 + (j : Int) + 1 by omega]
        exact this
    · intro h
      refine ⟨by simpa using h 0 b rfl, fun j c e => ?_⟩
      have := h (j + 1) c (by simpa using e)
      rw [show o + ((j + 1 : Nat) : Int) + 1 = o + 1 + (j : Int) + 1 by omega] at this
      exact this
theorem szTab_drop {k : Int} : ∀ (Q : List Blk) (o : Int) (j : Nat) (x : Int), o + j ≤ x → szTab k (Q.drop j) (o + j) x = szTab k Q o x
  | Q, o, 0, x, _ => by simp
  | [], o, j + 1, x, _ => by simp [szTab]
  | b :: r, o, j + 1, x, h => by
    simp only [List.drop_succ_cons, szTab]
    rw [if_neg (by omega), show o + ((j + 1 : Nat) : Int) = o + 1 + (j : Int) by omega]
    exact szTab_drop r (o + 1) j x (by omega)
theorem szTab_at {k : Int} : ∀ (Q : List Blk) (o : Int) (j : Nat) (b : Blk), Q[j]? = some b → szTab k Q o (o + j) = 1 + szs (szTab k (Q.drop (j + 1)) (o + j + 1)) b
  | b :: r, o, 0, c, e => by
    simp at e
    subst e
    simp [szTab]
  | b :: r, o, j + 1, c, e => by
    have := szTab_at (k := k) r (o + 1) j c (by simpa using e)
    simp only [szTab]
    rw [if_neg (by omega), show o + ((j + 1 : Nat) : Int) = o + 1 + (j : Int) by omega, this]
    simp
  | [], o, j, c, e => by simp at e
theorem szTab_01 {d : Nat} {n : Int} : ∀ (Q : List Blk) (o : Int), o + Q.length = n → (∀ (j : Nat) b, Q[j]? = some b → okB (LJ (o + j) n) d b) → ∀ x, o ≤ x → x < n → szTab 0 Q o x = szTab 1 Q o x
  | [], o, hn, _, x, h1, h2 => by simp at hn; omega
  | b :: r, o, hn, hb, x, h1, h2 => by
    have ih := szTab_01 (n := n) r (o + 1) (by simp at hn; omega) (fun j c e => by
      have := hb (j + 1) c (by simpa using e)
      rw [show o + ((j + 1 : Nat) : Int) = o + 1 + (j : Int) by omega] at this
      exact this)
    simp only [szTab]
    by_cases h : x = o
    · rw [if_pos h, if_pos h]
      have := hb 0 b rfl
      rw [szs_congr (g := szTab 0 r (o + 1)) (g' := szTab 1 r (o + 1)) (lo := o) (hi := n) (I := LJ (o + (0 : Nat)) n) (fun b v z => ⟨by have := z.1; omega, z.2.1⟩) (fun (j : Int) (h3 : o < j) (h4 : j < n) => ih j (by omega) h4) b this]
    · rw [if_neg h, if_neg h]
      exact ih x (by omega) h2
theorem cntS_le {s : Stm} : ∀ {b : List Stm}, s ∈ b → cntS s ≤ cnt b
  | y :: r, h => by
    simp only [W.cnt]
    rcases List.mem_cons.mp h with h | h
    · subst h; omega
    · have := cntS_le h; omega
theorem len_cnt : ∀ (b : List Stm), b.length ≤ cnt b
  | [] => Nat.le_refl _
  | s :: r => by
    have := len_cnt r
    have := cntS_pos s
    simp only [W.cnt, List.length_cons]
    omega
theorem vd_enc {I : Stm → Prop} : ∀ (d : Nat) (b : List Stm), okB I d b → cnt b ≤ 1000 → VD (2 * d + 1) (encB b)
  | 0, _, h, _ => h.elim
  | d + 1, b, h, hc => by
    refine ⟨by rw [encs_len]; have := len_cnt b; omega, fun x hx => ?_⟩
    rw [encs_map] at hx
    obtain ⟨s, hs, e⟩ := List.mem_map.mp hx
    subst e
    have hcs := cntS_le hs
    have z := (h s hs).2
    have up : ∀ (c : List Stm), okB I d c → cnt c ≤ 1000 → VD (2 * d + 1) (encB c) := fun c => vd_enc d c
    show VD (2 * d + 1 + 1) (enc s)
    cases s with
    | tr p q =>
      simp only [cntS] at hcs
      refine ⟨by simp, fun y hy => ?_⟩
      simp only [List.mem_cons, List.not_mem_nil, or_false] at hy
      rcases hy with hy | hy | hy <;> subst hy
      · trivial
      · exact up p z.1 (by omega)
      · exact up q z.2 (by omega)
    | rep n p =>
      simp only [cntS] at hcs
      refine ⟨by simp, fun y hy => ?_⟩
      simp only [List.mem_cons, List.not_mem_nil, or_false] at hy
      rcases hy with hy | hy | hy <;> subst hy
      · trivial
      · trivial
      · exact up p z (by omega)
    | start _ _ =>
      refine ⟨by simp, fun y hy => ?_⟩
      simp only [List.mem_cons, List.not_mem_nil, or_false] at hy
      rcases hy with hy | hy | hy <;> subst hy <;> trivial
    | say _ =>
      refine ⟨by simp, fun y hy => ?_⟩
      simp only [List.mem_cons, List.not_mem_nil, or_false] at hy
      rcases hy with hy | hy <;> subst hy <;> trivial
    | wait _ =>
      refine ⟨by simp, fun y hy => ?_⟩
      simp only [List.mem_cons, List.not_mem_nil, or_false] at hy
      rcases hy with hy | hy <;> subst hy <;> trivial
    | adopt _ =>
      refine ⟨by simp, fun y hy => ?_⟩
      simp only [List.mem_cons, List.not_mem_nil, or_false] at hy
      rcases hy with hy | hy <;> subst hy <;> trivial
    | _ =>
      refine ⟨by simp, fun y hy => ?_⟩
      simp only [List.mem_cons, List.not_mem_nil, or_false] at hy
      subst hy
      trivial
def lsz (P : List Blk) (b : Blk) : Int := szs (szTab 1 P 0) b + 1
/-- good but for its size -/
structure GP (d : Nat) (P : List Blk) : Prop where
  n1 : 1 ≤ P.length
  n2 : P.length ≤ 1000
  blk : ∀ (j : Nat) b, P[j]? = some b → okB (LJ j P.length) d b ∧ cnt b ≤ 40 ∧ dep b ≤ 2
theorem GP.mem {d : Nat} {P : List Blk} (p : GP d P) {b : Blk} (hb : b ∈ P) : ∃ j : Nat, P[j]? = some b := by
  obtain ⟨j, hj, e⟩ := List.mem_iff_getElem.mp hb
  exact ⟨j, by rw [List.getElem?_eq_getElem hj, e]⟩
theorem GP.okF {d : Nat} {P : List Blk} (p : GP d P) : ∀ b ∈ P, okF d b := fun b hb => by
  obtain ⟨j, e⟩ := p.mem hb
  obtain ⟨h1, h2, _⟩ := p.blk j b e
  exact ⟨okB_imp (fun _ _ => trivial) h1, by omega, alls_of b (okB_imp LJ_wl h1), okB_imp LJ_RB h1⟩
theorem GP.SZ_lsz {d : Nat} {P : List Blk} (p : GP d P) (j : Nat) (b : Blk) (e : P[j]? = some b) : szTab 0 P 0 (j : Int) = lsz P b := by
  have hj : j < P.length := by
    rcases Nat.lt_or_ge j P.length with h | h
    · exact h
    · rw [List.getElem?_eq_none h] at e; cases e
  have e1 := szTab_01 (d := d) (n := P.length) P 0 (by omega) (fun j b e => by have := (p.blk j b e).1; simpa using this) (j : Int) (by omega) (by omega)
  have e2 := szTab_at (k := 1) P 0 j b e
  simp only [Int.zero_add] at e2
  rw [e1, e2]
  unfold lsz
  rw [szs_congr (g' := szTab 1 P 0) (lo := (j : Int)) (hi := P.length) (I := LJ j P.length) (fun b v z => ⟨z.1, z.2.1⟩) (fun x h1 h2 => ?_) b (p.blk j b e).1]
  · omega
  · have := szTab_drop (k := 1) P 0 (j + 1) x (by omega)
    rw [show (0 : Int) + ((j + 1 : Nat) : Int) = (j : Int) + 1 by omega] at this
    exact this
theorem GP.isProg {d : Nat} {P : List Blk} (p : GP d P) : isProg P = true ↔ P.length ≤ 8 ∧ ¬ ∃ b ∈ P, lsz P b > 600 := by
  have hA : areF ((P.length : Int) - 1) 0 P = true := by
    rw [areF_iff]
    intro j b e
    obtain ⟨h1, h2, h3⟩ := p.blk j b e
    unfold okBody
    rw [decide_eq_true (by omega), decide_eq_true h3, Bool.true_and, Bool.true_and, List.all_eq_true]
    intro s hs
    have := LJ_ok s (alls_of b h1 s hs)
    rw [Int.zero_add]
    exact this
  have hS : ((SZ P).all fun z => decide (z ≤ 600)) = true ↔ ¬ ∃ b ∈ P, lsz P b > 600 := by
    rw [List.all_eq_true]
    constructor
    · rintro h ⟨b, hb, hz⟩
      obtain ⟨j, hj, e⟩ := List.mem_iff_getElem.mp hb
      have e1 := p.SZ_lsz j b (by rw [List.getElem?_eq_getElem hj, e])
      have := h (szTab 0 P 0 (j : Int)) (List.mem_map.mpr ⟨j, List.mem_range.mpr hj, rfl⟩)
      have := of_decide_eq_true this
      omega
    · intro h z hz
      obtain ⟨j, hj, e⟩ := List.mem_map.mp hz
      have hj := List.mem_range.mp hj
      have e1 := p.SZ_lsz j _ (List.getElem?_eq_getElem hj)
      refine decide_eq_true ?_
      rcases Int.lt_or_le 600 (lsz P P[j]) with h2 | h2
      · exact absurd ⟨_, List.getElem_mem hj, h2⟩ h
      · rw [← e, e1]; exact h2
  have n1 := p.n1
  unfold W.isProg
  rw [Bool.and_eq_true, Bool.and_eq_true, hS, hA]
  constructor
  · rintro ⟨⟨h0, _⟩, h2⟩
    exact ⟨(of_decide_eq_true h0).2, h2⟩
  · rintro ⟨h0, h2⟩
    exact ⟨⟨decide_eq_true ⟨n1, h0⟩, rfl⟩, h2⟩
end SK.W

set_option Elab.async false
set_option linter.all false
set_option maxRecDepth 100000
/-! W11 (printed by gw11.py): programs put into contexts, sizes, drawn contexts. -/
namespace SK.W
open PySem PySem.Spec PyProof.Rows L2 SK SK.D SK.C
mutual
/-- starts moved by n -/
def shS (n : Int) : Stm → Stm
  | .start b v => .start (b + n) v
  | .tr b h => .tr (sh n b) (sh n h)
  | .rep k b => .rep k (sh n b)
  | .say w => .say w | .pause => .pause | .wait v => .wait v | .adopt v => .adopt v | .ret => .ret | .fail => .fail
def sh (n : Int) : List Stm → List Stm
  | [] => []
  | s :: r => shS n s :: sh n r
end
theorem sh_len {n : Int} : ∀ {b : List Stm}, (sh n b).length = b.length
  | [] => rfl
  | s :: r => by simp [sh, sh_len (b := r)]
def spShift (d : Nat) : Pr := fun ts G Q _ => ∃ (b : Blk) (n : Int), ts = [encB b, .int n] ∧ okA d b ∧ cnt b ≤ 100000 ∧ ∀ G', Ext G G' → Q (encB (sh n b)) G'
/-- a program in a context -/
def joinP (Cx P : List Blk) : List Blk := Cx ++ P.map (sh Cx.length)
def spJoin (d : Nat) : Pr := fun ts G Q _ => ∃ Cx P : List Blk, ts = [encP Cx, encP P] ∧ (∀ b ∈ P, okA d b ∧ cnt b ≤ 100000) ∧ Cx.length ≤ 1000 ∧ P.length ≤ 1000 ∧ ∀ G', Ext G G' → Q (encP (joinP Cx P)) G'

theorem shp2 {M : Gm} {D : En} {G0 : Gp} {d : Nat} {b : T} {n : Int} {R : List Stm} {st : Gp → Prop} {f1 f2 f3} (hs : ∀ G, st G) (hf : M.fn "" "shifted" = some (spShift d)) (hR : R.length ≤ 100000)
    (hD : ∀ G l v, Acc G0 G l (encs R) → D.nx [some b, some (.int n), some (.ref l), v] G) :
    ∀ (xs acc : List Stm) (G : Gp) (l : Addr) (v : Option T), (∀ x ∈ xs, subs (okA d) x ∧ cntS x ≤ 100000) → acc ++ sh n xs = R → Acc G0 G l (encs acc) → forB M st (.nm 3) c_shifted_b1 D (encs xs) [some b, some (.int n), some (.ref l), v] G f1 f2 f3
  | [], acc, G, l, v, _, h, a => by
    simp only [sh, List.append_nil] at h
    subst h
    simp only [encs, Fnil]
    exact ⟨hs _, hD _ _ _ a⟩
  | x :: xs, acc, G, l, v, hx, h, a => by
    have ih := fun acc' G' l' v' h' a' => shp2 (M := M) (f1 := .mk) (f2 := .mk) (f3 := .mk) (st := st) hs hf hR hD xs acc' G' l' v' (fun y hy => hx y (List.mem_cons_of_mem _ hy)) h' a'
    have hx0 := hx x List.mem_cons_self
    simp only [sh] at h
    have hl1 : (encs acc).length < line := by
      rw [encs_len]
      have := congrArg List.length h
      simp only [List.length_append, List.length_cons] at this
      unfold line; omega
    have fin : ∀ (G2 : Gp) (t : T) (v' : Option T), Acc G0 G2 l (encs acc) → t = enc (shS n x) → forB M st (.nm 3) c_shifted_b1 D (encs xs) [some b, some (.int n), some (.ref l), v'] (gu G2 l (.lst (encs acc ++ [t]))) .mk .mk .mk := fun G2 t v' a2 e => by
      subst e
      exact ih (acc ++ [shS n x]) _ _ _ (by rw [← h]; simp) (a2.putE (by rw [encs_app]; rfl))
    rw [encs, Fcons]
    refine ⟨hs _, ?_⟩
    cases x with
    | tr p q =>
      simp only [subs] at hx0
      obtain ⟨⟨hp, hq⟩, hn⟩ := hx0
      have hcp : cnt p ≤ 100000 := by simp only [cntS] at hn; omega
      have hcq : cnt q ≤ 100000 := by simp only [cntS] at hn; omega
      simp [c_shifted_b1, enc, tAt0]
      repeat (refine KB.of ?_; simp [tAt0])
      simp [a.at_, tAt1, Wcall hf]
      refine KB.of ?_
      simp [Wcall hf]
      refine PrB.of ⟨p, n, rfl, hp, hcp, fun G1 x1 => ?_⟩
      simp [tAt2]
      refine KB.of ?_
      simp [Wcall hf]
      refine PrB.of ⟨q, n, rfl, hq, hcq, fun G2 x2 => ?_⟩
      have a2 := a.later (x1.trans x2)
      simp [a2.at_, hl1]
      try refine KB.of ?_
      exact fin G2 _ _ a2 (by simp [shS, enc])
    | rep m p =>
      simp only [subs] at hx0
      obtain ⟨hp, hn⟩ := hx0
      have hcp : cnt p ≤ 100000 := by simp only [cntS] at hn; omega
      simp [c_shifted_b1, enc, tAt0]
      repeat (refine KB.of ?_; simp [tAt0])
      simp [a.at_, tAt1, Wcall hf]
      refine KB.of ?_
      simp [tAt2, Wcall hf]
      refine KB.of ?_
      simp [Wcall hf]
      refine PrB.of ⟨p, n, rfl, hp, hcp, fun G1 x1 => ?_⟩
      have a2 := a.later x1
      simp [a2.at_, hl1]
      try refine KB.of ?_
      exact fin G1 _ _ a2 (by simp [shS, enc])
    | start bb vv =>
      simp [c_shifted_b1, enc, tAt0]
      repeat (refine KB.of ?_; simp [tAt0])
      simp [a.at_, tAt1, tAt2]
      refine KB.of ?_
      simp [tAt2]
      refine KB.of ?_
      simp [a.at_, hl1]
      try refine KB.of ?_
      exact fin G _ _ a (by simp [shS, enc])
    | _ =>
      simp [c_shifted_b1, enc, tAt0]
      repeat (refine KB.of ?_; simp [tAt0])
      simp [a.at_, hl1]
      try refine KB.of ?_
      exact fin G _ _ a (by simp [shS, enc])
theorem w_shifted {M : Gm} {d : Nat} (hf : M.fn "" "shifted" = some (spShift d)) : Ob c_shifted 4 M (spShift (d + 1)) := by
  rintro ts G Q X ⟨b, n, rfl, hok, hn, q⟩
  have hl : (sh n b).length ≤ 100000 := by rw [sh_len]; have := len_cnt b; omega
  simp [c_shifted, slots0]
  intro l hl0
  refine KB.of ?_
  simp
  refine shp2 (fun _ => trivial) hf hl (fun G2 l2 v a => ?_) b [] _ l _ (fun x hx => ⟨(hok x hx).2, by have := cntS_le hx; omega⟩) rfl (Acc.new (Ext.refl _) hl0)
  simp [a.at_]
  exact KB.of (q _ a.ext)

theorem shl2 {M : Gm} {D : En} {G0 : Gp} {d : Nat} {b : T} {n : Int} {R : List Stm} {st : Gp → Prop} {f1 f2 f3} (hs : ∀ G, st G) (hf : M.fn "" "_law_shift" = some (spShift d)) (hR : R.length ≤ 100000)
    (hD : ∀ G l v, Acc G0 G l (encs R) → D.nx [some b, some (.int n), some (.ref l), v] G) :
    ∀ (xs acc : List Stm) (G : Gp) (l : Addr) (v : Option T), (∀ x ∈ xs, subs (okA d) x ∧ cntS x ≤ 100000) → acc ++ sh n xs = R → Acc G0 G l (encs acc) → forB M st (.nm 3) c_law_shift_b1 D (encs xs) [some b, some (.int n), some (.ref l), v] G f1 f2 f3
  | [], acc, G, l, v, _, h, a => by
    simp only [sh, List.append_nil] at h
    subst h
    simp only [encs, Fnil]
    exact ⟨hs _, hD _ _ _ a⟩
  | x :: xs, acc, G, l, v, hx, h, a => by
    have ih := fun acc' G' l' v' h' a' => shl2 (M := M) (f1 := .mk) (f2 := .mk) (f3 := .mk) (st := st) hs hf hR hD xs acc' G' l' v' (fun y hy => hx y (List.mem_cons_of_mem _ hy)) h' a'
    have hx0 := hx x List.mem_cons_self
    simp only [sh] at h
    have hl1 : (encs acc).length < line := by
      rw [encs_len]
      have := congrArg List.length h
      simp only [List.length_append, List.length_cons] at this
      unfold line; omega
    have fin : ∀ (G2 : Gp) (t : T) (v' : Option T), Acc G0 G2 l (encs acc) → t = enc (shS n x) → forB M st (.nm 3) c_law_shift_b1 D (encs xs) [some b, some (.int n), some (.ref l), v'] (gu G2 l (.lst (encs acc ++ [t]))) .mk .mk .mk := fun G2 t v' a2 e => by
      subst e
      exact ih (acc ++ [shS n x]) _ _ _ (by rw [← h]; simp) (a2.putE (by rw [encs_app]; rfl))
    rw [encs, Fcons]
    refine ⟨hs _, ?_⟩
    cases x with
    | tr p q =>
      simp only [subs] at hx0
      obtain ⟨⟨hp, hq⟩, hn⟩ := hx0
      have hcp : cnt p ≤ 100000 := by simp only [cntS] at hn; omega
      have hcq : cnt q ≤ 100000 := by simp only [cntS] at hn; omega
      simp [c_law_shift_b1, enc, tAt0]
      repeat (refine KB.of ?_; simp [tAt0])
      simp [a.at_, tAt1, Wcall hf]
      refine KB.of ?_
      simp [Wcall hf]
      refine PrB.of ⟨p, n, rfl, hp, hcp, fun G1 x1 => ?_⟩
      simp [tAt2]
      refine KB.of ?_
      simp [Wcall hf]
      refine PrB.of ⟨q, n, rfl, hq, hcq, fun G2 x2 => ?_⟩
      have a2 := a.later (x1.trans x2)
      simp [a2.at_, hl1]
      try refine KB.of ?_
      exact fin G2 _ _ a2 (by simp [shS, enc])
    | rep m p =>
      simp only [subs] at hx0
      obtain ⟨hp, hn⟩ := hx0
      have hcp : cnt p ≤ 100000 := by simp only [cntS] at hn; omega
      simp [c_law_shift_b1, enc, tAt0]
      repeat (refine KB.of ?_; simp [tAt0])
      simp [a.at_, tAt1, Wcall hf]
      refine KB.of ?_
      simp [tAt2, Wcall hf]
      refine KB.of ?_
      simp [Wcall hf]
      refine PrB.of ⟨p, n, rfl, hp, hcp, fun G1 x1 => ?_⟩
      have a2 := a.later x1
      simp [a2.at_, hl1]
      try refine KB.of ?_
      exact fin G1 _ _ a2 (by simp [shS, enc])
    | start bb vv =>
      simp [c_law_shift_b1, enc, tAt0]
      repeat (refine KB.of ?_; simp [tAt0])
      simp [a.at_, tAt1, tAt2]
      refine KB.of ?_
      simp [tAt2]
      refine KB.of ?_
      simp [a.at_, hl1]
      try refine KB.of ?_
      exact fin G _ _ a (by simp [shS, enc])
    | _ =>
      simp [c_law_shift_b1, enc, tAt0]
      repeat (refine KB.of ?_; simp [tAt0])
      simp [a.at_, hl1]
      try refine KB.of ?_
      exact fin G _ _ a (by simp [shS, enc])
theorem w_law_shift {M : Gm} {d : Nat} (hf : M.fn "" "_law_shift" = some (spShift d)) : Ob c_law_shift 4 M (spShift (d + 1)) := by
  rintro ts G Q X ⟨b, n, rfl, hok, hn, q⟩
  have hl : (sh n b).length ≤ 100000 := by rw [sh_len]; have := len_cnt b; omega
  simp [c_law_shift, slots0]
  intro l hl0
  refine KB.of ?_
  simp
  refine shl2 (fun _ => trivial) hf hl (fun G2 l2 v a => ?_) b [] _ l _ (fun x hx => ⟨(hok x hx).2, by have := cntS_le hx; omega⟩) rfl (Acc.new (Ext.refl _) hl0)
  simp [a.at_]
  exact KB.of (q _ a.ext)

theorem jop1 {M : Gm} {G0 : Gp} {d : Nat} {Cx P R : List Blk} {A : Addr} {Q : QT} {v : Option T} {st : Gp → Prop} {f1 f2} (hs : ∀ G, st G) (hf : M.fn "" "shifted" = some (spShift d)) (hA : G0 A = none) (hR : R.length ≤ 1000)
    (hQ : ∀ G', G' A = some (.lst ((R.map (sh Cx.length)).map encB)) → Ext G0 G' → Q (.ref A) G') :
    ∀ (ys acc : List Blk) (G : Gp), (∀ b ∈ ys, okA d b ∧ cnt b ≤ 100000) → acc ++ ys = R → G A = some (.lst ((acc.map (sh Cx.length)).map encB)) → Ext G0 G → lcB M st (.nm 2) [2] .no c_joined_e1 A (ys.map encB) [some (encP Cx), some (encP P), v] G Q f1 f2
  | [], acc, G, _, e, ha, x => by
    simp only [List.append_nil] at e
    subst e
    simp [hs]
    exact hQ _ (by simpa using ha) x
  | y :: ys, acc, G, hy, e, ha, x => by
    have hy0 := hy y List.mem_cons_self
    rw [List.map_cons, Lcons]
    refine ⟨hs _, ?_⟩
    simp [c_joined_e1, Wcall hf]
    refine PrB.of ⟨y, _, rfl, hy0.1, hy0.2, fun G' hG => ?_⟩
    have hl : acc.length ≤ 1000 := by have := congrArg List.length e; simp at this; omega
    refine ⟨_, by have := hG _ _ ha; simpa using this, by simp [line]; omega, ?_⟩
    refine jop1 hs hf hA hR hQ ys (acc ++ [y]) _ (fun b hb => hy b (List.mem_cons_of_mem _ hb)) (by simpa using e) ?_ (Ext.gu hA (x.trans hG))
    rw [gu_same]
    simp
theorem w_joined {M : Gm} {d : Nat} (hf : M.fn "" "shifted" = some (spShift d)) : Ob c_joined 3 M (spJoin d) := by
  rintro ts G Q X ⟨Cx, P, rfl, hP, h1, h2, q⟩
  simp [c_joined, slots0]
  intro A hA
  refine jop1 (R := P) (fun _ => trivial) hf hA h2 (fun G1 ha x => ?_) P [] _ hP rfl gu_same (Ext.gu hA (Ext.refl _))
  simp [ha]
  refine KB.of ?_
  simp
  refine ⟨by unfold line; omega, ?_⟩
  have := q G1 x
  unfold joinP at this
  rw [encP, List.map_append, List.map_map] at this
  exact this

theorem jol1 {M : Gm} {G0 : Gp} {d : Nat} {Cx P R : List Blk} {A : Addr} {Q : QT} {v : Option T} {st : Gp → Prop} {f1 f2} (hs : ∀ G, st G) (hf : M.fn "" "_law_shift" = some (spShift d)) (hA : G0 A = none) (hR : R.length ≤ 1000)
    (hQ : ∀ G', G' A = some (.lst ((R.map (sh Cx.length)).map encB)) → Ext G0 G' → Q (.ref A) G') :
    ∀ (ys acc : List Blk) (G : Gp), (∀ b ∈ ys, okA d b ∧ cnt b ≤ 100000) → acc ++ ys = R → G A = some (.lst ((acc.map (sh Cx.length)).map encB)) → Ext G0 G → lcB M st (.nm 2) [2] .no c_law_put_e1 A (ys.map encB) [some (encP Cx), some (encP P), v] G Q f1 f2
  | [], acc, G, _, e, ha, x => by
    simp only [List.append_nil] at e
    subst e
    simp [hs]
    exact hQ _ (by simpa using ha) x
  | y :: ys, acc, G, hy, e, ha, x => by
    have hy0 := hy y List.mem_cons_self
    rw [List.map_cons, Lcons]
    refine ⟨hs _, ?_⟩
    simp [c_law_put_e1, Wcall hf]
    refine PrB.of ⟨y, _, rfl, hy0.1, hy0.2, fun G' hG => ?_⟩
    have hl : acc.length ≤ 1000 := by have := congrArg List.length e; simp at this; omega
    refine ⟨_, by have := hG _ _ ha; simpa using this, by simp [line]; omega, ?_⟩
    refine jol1 hs hf hA hR hQ ys (acc ++ [y]) _ (fun b hb => hy b (List.mem_cons_of_mem _ hb)) (by simpa using e) ?_ (Ext.gu hA (x.trans hG))
    rw [gu_same]
    simp
theorem w_law_put {M : Gm} {d : Nat} (hf : M.fn "" "_law_shift" = some (spShift d)) : Ob c_law_put 3 M (spJoin d) := by
  rintro ts G Q X ⟨Cx, P, rfl, hP, h1, h2, q⟩
  simp [c_law_put, slots0]
  intro A hA
  refine jol1 (R := P) (fun _ => trivial) hf hA h2 (fun G1 ha x => ?_) P [] _ hP rfl gu_same (Ext.gu hA (Ext.refl _))
  simp [ha]
  refine KB.of ?_
  simp
  refine ⟨by unfold line; omega, ?_⟩
  have := q G1 x
  unfold joinP at this
  rw [encP, List.map_append, List.map_map] at this
  exact this

/-! ### _law_size of a tuple or a list of bodies -/
def tupOrList (G : Gp) (t : T) (P : List Blk) : Prop := t = encP P ∨ ∃ l, t = .ref l ∧ G l = some (.lst (P.map encB))
theorem tol_ext {G G' : Gp} {t : T} {P : List Blk} (h : tupOrList G t P) (x : Ext G G') : tupOrList G' t P := by
  rcases h with h | ⟨l, e, h⟩
  · exact .inl h
  · exact .inr ⟨l, e, x _ _ h⟩
theorem lsz2 {M : Gm} {D : En} {G0 : Gp} {d : Nat} {P : List Blk} {t : T} {s : Addr} {v1 : Option T} {st : Gp → Prop} {f1 f2 f3} (hs : ∀ G, st G) (hw : M.fn "" "_law_weight" = some (spSz 1 d)) (hs0 : G0 s = none) (ht : tupOrList G0 t P) (hP : ∀ b ∈ P, okB RB d b)
    (hD : ∀ G kvs v, G s = some (.dct kvs) → IntD kvs → gI 1 kvs = szTab 1 P 0 → Ext G0 G → D.nx [some t, v1, some (.ref s), v] G) :
    ∀ (m : Nat) (G : Gp) (kvs : List (DK × T)) (v : Option T), m ≤ P.length → G s = some (.dct kvs) → IntD kvs → kvs.length + m ≤ 100000 → gI 1 kvs = szTab 1 (P.drop m) m → Ext G0 G →
      forB M st (.nm 3) c_law_size_b1 D (W.dn m) [some t, v1, some (.ref s), v] G f1 f2 f3
  | 0, G, kvs, v, _, es, hi, _, hg, x => by
    simp only [W.dn, Fnil]
    exact ⟨hs _, hD G kvs v es hi (by simpa using hg) x⟩
  | m + 1, G, kvs, v, hm, es, hi, hl, hg, x => by
    have hlt : m < P.length := hm
    have eg : (P.map encB)[m]? = some (encB P[m]) := by rw [List.getElem?_map, List.getElem?_eq_getElem hlt]; rfl
    rw [W.dn, Fcons]
    refine ⟨hs _, ?_⟩
    have fin : ∀ v', forB M st (.nm 3) c_law_size_b1 D (W.dn m) [some t, v1, some (.ref s), v'] (gu G s (.dct (dPut kvs (.inl (m : Int)) (.int (1 + szs (gI 1 kvs) P[m]))))) .mk .mk .mk := fun v' => by
      have hl2 := dPut_len (kvs := kvs) (k := .inl (m : Int)) (v := .int (1 + szs (gI 1 kvs) P[m]))
      have hg' : gI 1 (dPut kvs (.inl (m : Int)) (.int (1 + szs (gI 1 kvs) P[m]))) = szTab 1 (P.drop m) m := by
        rw [gI_put, List.drop_eq_getElem_cons hlt]
        funext j
        simp only [szTab]
        rw [hg, show ((m + 1 : Nat) : Int) = (m : Int) + 1 by omega]
      exact lsz2 hs hw hs0 ht hP hD m _ _ _ (by omega) gu_same (dPut_int hi) (by omega) hg' (Ext.gu hs0 x)
    rcases tol_ext ht x with h | ⟨l, h, hl0⟩
    · subst h
      simp [c_law_size_b1, Wcall hw]
      refine ⟨_, tAt_nat eg, KB.of ?_⟩
      simp
      refine PrB.of ⟨P[m], s, kvs, rfl, es, hi, hP _ (List.getElem_mem hlt), ?_⟩
      simp [es]
      refine ⟨by unfold line; omega, KB.of ?_⟩
      simp
      exact fin _
    · subst h
      simp [c_law_size_b1, Wcall hw, hl0]
      refine ⟨_, tAt_nat eg, KB.of ?_⟩
      simp
      refine PrB.of ⟨P[m], s, kvs, rfl, es, hi, hP _ (List.getElem_mem hlt), ?_⟩
      simp [es]
      refine ⟨by unfold line; omega, KB.of ?_⟩
      simp
      exact fin _
def spLSize (d : Nat) : Pr := fun ts G Q _ => ∃ (t : T) (b : Blk) (P : List Blk), ts = [t, encB b] ∧ tupOrList G t P ∧ (∀ b ∈ P, okB RB d b) ∧ okB RB d b ∧ P.length ≤ 1000 ∧ ∀ G', Ext G G' → Q (.int (szs (szTab 1 P 0) b)) G'
theorem w_lsize {M : Gm} {d : Nat} (hw : M.fn "" "_law_weight" = some (spSz 1 d)) : Ob c_law_size 4 M (spLSize d) := by
  rintro ts G Q X ⟨t, b, P, rfl, ht, hP, hb, hn, q⟩
  have fin : ∀ (s : Addr) (v : Option T) (st : Gp → Prop), (∀ G, st G) → G s = none → forB M st (.nm 3) c_law_size_b1 { nx := fun s1 G1 => wpSs (.cons (.ret (.call "_law_weight" (.cons (.var 1) (.cons (.var 2) .nil)))) .nil) M s1 G1 { nx := fun _ G' => Q .non G', rt := Q, ex := fun _ => X }, rt := Q, ex := fun _ => X }
      (W.dn P.length) [some t, some (encB b), some (.ref s), v] (gu G s (.dct [])) .mk .mk .mk := fun s v st hst hs0 => by
    refine lsz2 hst hw hs0 ht hP (fun G1 kvs v es hi hg x => ?_) P.length _ [] _ (Nat.le_refl _) gu_same (fun p hp => by cases hp) (by simp; omega) ?_ (Ext.gu hs0 (Ext.refl _))
    · simp [Wcall hw]
      refine PrB.of ⟨b, s, kvs, rfl, es, hi, hb, ?_⟩
      rw [hg]
      exact q _ x
    · rw [List.drop_length]
      rfl
  rcases id ht with h | ⟨l, h, hl0⟩
  · subst h
    simp [c_law_size, slots0]
    intro s hs0
    refine ⟨by omega, ?_⟩
    rw [upto_dn (n := P.length), gu_gu]
    exact fin s _ _ (fun _ => trivial) hs0
  · subst h
    simp [c_law_size, slots0]
    intro s hs0
    have hls : l ≠ s := fun z => by subst z; rw [hl0] at hs0; cases hs0
    simp [gu_ne hls, hl0, gu_gu]
    try refine KB.of ?_
    try simp
    refine ⟨by omega, ?_⟩
    rw [upto_dn (n := P.length), gu_gu]
    exact fin s _ _ (fun _ => trivial) hs0
/-! ### drawn contexts -/
/-- a context: its starts reach the hole; small -/
structure CP (most : Int) (Cx : List Blk) : Prop where
  n1 : 1 ≤ Cx.length
  n2 : (Cx.length : Int) ≤ most
  blk : ∀ (i : Nat) b, Cx[i]? = some b → okB (LI i (Cx.length + 1)) 3 b ∧ cnt b ≤ 24
  siz : ∀ i : Nat, i < Cx.length → szTab 1 Cx 0 i ≤ 30
abbrev ctxB (n : Int) : Blk := [.say "c", .start n "a", .wait "a", .say "d"]
theorem szTab_far {k : Int} : ∀ (Q : List Blk) (o x : Int), o + Q.length ≤ x → szTab k Q o x = k
  | [], _, _, _ => rfl
  | b :: r, o, x, h => by
    simp only [List.length_cons] at h
    simp only [szTab]
    rw [if_neg (by omega)]
    exact szTab_far r (o + 1) x (by omega)
theorem ctx_ok {m n : Nat} (h : m < n) : okB (LI m ((n : Int) + 1)) 3 (ctxB n) := fun s hs => by
  simp only [List.mem_cons, List.not_mem_nil, or_false] at hs
  rcases hs with e | e | e | e <;> subst e
  · exact ⟨by show "c" ∈ LW; decide, trivial⟩
  · exact ⟨⟨by omega, by omega, by decide⟩, trivial⟩
  · exact ⟨by show "a" ∈ LN; decide, trivial⟩
  · exact ⟨by show "d" ∈ LW; decide, trivial⟩
def spCtx : Pr := fun ts G Q _ => ∃ (ns : List Int) (first most len : Int), ts = [.frl (ns.map T.int), .int first, .int most, .int len] ∧ 0 ≤ first ∧ first ≤ 700 ∧ 1 ≤ most ∧ most ≤ 100 ∧ 0 ≤ len ∧ len ≤ 100 ∧ ∀ Cx G', CP most Cx → Ext G G' → Q (encP Cx) G'
theorem ctx1 {M : Gm} {D : En} {G0 : Gp} {l : Addr} {ns : List Int} {first most len nI : Int} {n : Nat} {st : Gp → Prop} {f1 f2 f3} (hs : ∀ G, st G) (hbx : M.fn "" "_law_box" = some spBox) (hbl : M.fn "" "_law_block" = some (spBlk 3)) (hl0 : G0 l = none) (h1 : 0 ≤ first) (h2 : first ≤ 700) (hl1 : 0 ≤ len) (hl2 : len ≤ 100) (hn : n ≤ 200) (hnI : nI = (n : Int))
    (hD : ∀ G (xs : List Blk) v6, G l = some (.lst (xs.map encB)) → (∀ (i : Nat) b, xs[i]? = some b → okB (LI i ((n : Int) + 1)) 3 b) → xs.length = n → Ext G0 G → D.nx [some (.frl (ns.map T.int)), some (.int first), some (.int most), some (.int len), some (.int nI), some (.ref l), v6] G) :
    ∀ (k : Nat) (G : Gp) (xs : List Blk) (v6 : Option T) (ys : List T), ys = upto xs.length 1 k → xs.length + k = n → G l = some (.lst (xs.map encB)) → (∀ (i : Nat) b, xs[i]? = some b → okB (LI i ((n : Int) + 1)) 3 b) → Ext G0 G →
      forB M st (.nm 6) c_law_context_b2 D ys [some (.frl (ns.map T.int)), some (.int first), some (.int most), some (.int len), some (.int nI), some (.ref l), v6] G f1 f2 f3
  | 0, G, xs, v6, ys, hys, hlen, e, hb, x => by
    rw [hys, upto_zero]
    simp only [Fnil]
    exact ⟨hs _, hD G xs _ e hb hlen x⟩
  | k + 1, G, xs, v6, ys, hys, hlen, e, hb, x => by
    rw [hys, upto_succ, Fcons]
    refine ⟨hs _, ?_⟩
    simp [c_law_context_b2, e, Wcall hbx, Wcall hbl]
    refine PrB.of ⟨ns, _, rfl, by omega, by omega, fun a d G1 ha hd x1 b1 => ?_⟩
    simp
    refine PrB.of ⟨a, d, len, xs.length, nI + 1, rfl, b1, hl1, hl2, by omega, by omega, fun b G2 hok hlb b2 fr => ?_⟩
    have la : l ≠ a := fun z => by subst z; rw [ha] at e; cases e
    have e2 := fr _ _ la (x1 _ _ e)
    simp [e2]
    refine ⟨by unfold line; omega, KB.of ?_⟩
    simp
    have := ctx1 (f1 := .mk) (f2 := .mk) (f3 := .mk) (M := M) (most := most) hs hbx hbl hl0 h1 h2 hl1 hl2 hn hnI hD k (gu G2 l (.lst (xs.map encB ++ [encB b]))) (xs ++ [b]) (some (.int xs.length)) _ rfl (by simp; omega) (by rw [gu_same]; simp) (fun i c hi => ?_) (Ext.gu hl0 (x.trans (Fr.ext ha x1 fr)))
    · rw [List.length_append] at this
      exact this
    · rcases Nat.lt_or_ge i xs.length with h | h
      · rw [List.getElem?_append_left h] at hi
        exact hb i c hi
      · rw [List.getElem?_append_right h] at hi
        have : i - xs.length = 0 := by
          rcases Nat.eq_zero_or_pos (i - xs.length) with z | z
          · exact z
          · rw [List.getElem?_eq_none (by simp; omega)] at hi; cases hi
        rw [this] at hi
        simp at hi
        subst hi
        have : i = xs.length := by omega
        subst this
        rw [← hnI]
        exact hok
theorem ctx2 {M : Gm} {D : En} {G0 : Gp} {l : Addr} {v0 v1 v2 v3 : Option T} {nI : Int} {n : Nat} {st : Gp → Prop} {f1 f2 f3} (hs : ∀ G, st G) (hz : M.fn "" "_law_size" = some (spLSize 3)) (hc : M.fn "" "_law_count" = some (spCnt 3)) (hl0 : G0 l = none) (hn : n ≤ 200) (hnI : nI = (n : Int))
    (hD : ∀ G (xs : List Blk) v6, G l = some (.lst (xs.map encB)) → xs.length = n → (∀ (i : Nat) b, xs[i]? = some b → okB (LI i ((n : Int) + 1)) 3 b ∧ cnt b ≤ 24) → (∀ i : Nat, i < n → szTab 1 xs 0 i ≤ 30) → Ext G0 G → D.nx [v0, v1, v2, v3, some (.int nI), some (.ref l), v6] G) :
    ∀ (m : Nat) (G : Gp) (xs : List Blk) (v6 : Option T), m ≤ n → G l = some (.lst (xs.map encB)) → xs.length = n → (∀ (i : Nat) b, xs[i]? = some b → okB (LI i ((n : Int) + 1)) 3 b) →
      (∀ (i : Nat) b, m ≤ i → xs[i]? = some b → cnt b ≤ 24) → (∀ i : Nat, m ≤ i → i < n → szTab 1 (xs.drop m) m i ≤ 30) → Ext G0 G →
      forB M st (.nm 6) c_law_context_b1 D (W.dn m) [v0, v1, v2, v3, some (.int nI), some (.ref l), v6] G f1 f2 f3
  | 0, G, xs, v6, _, e, hlen, hb, hc24, hr, x => by
    simp only [W.dn, Fnil]
    exact ⟨hs _, hD G xs _ e hlen (fun i b hi => ⟨hb i b hi, hc24 i b (Nat.zero_le _) hi⟩) (fun i hi => by simpa using hr i (Nat.zero_le _) hi) x⟩
  | m + 1, G, xs, v6, hm, e, hlen, hb, hc24, hr, x => by
    have hmn : m < n := hm
    have hlt : m < xs.length := by omega
    have e0 := List.getElem?_eq_getElem hlt
    have hq := hb m xs[m] e0
    have eg : (xs.map encB)[m]? = some (encB xs[m]) := by rw [List.getElem?_map, e0]; rfl
    have fin : ∀ (b : Blk) (G' : Gp) (v6' : Option T), G' l = some (.lst ((xs.set m b).map encB)) → okB (LI m ((n : Int) + 1)) 3 b → cnt b ≤ 24 → szs (szTab 1 (xs.drop (m + 1)) ((m : Int) + 1)) b + 1 ≤ 30 → Ext G0 G' → forB M st (.nm 6) c_law_context_b1 D (W.dn m) [v0, v1, v2, v3, some (.int nI), some (.ref l), v6'] G' .mk .mk .mk := by
      intro b G' v6' e' hb' hcb hsz x'
      have hget : (xs.set m b)[m]? = some b := by rw [List.getElem?_set_self hlt]
      have hdrop : (xs.set m b).drop m = b :: xs.drop (m + 1) := by
        rw [List.drop_eq_getElem_cons (by rw [List.length_set]; exact hlt), drop_set_lt (Nat.lt_succ_self _)]
        simp
      refine ctx2 hs hz hc hl0 hn hnI hD m G' (xs.set m b) _ (by omega) e' (by rw [List.length_set]; exact hlen) (fun i c hic => ?_) (fun i c hi2 hic => ?_) (fun i hi2 hi3 => ?_) x'
      · by_cases h : i = m
        · subst h; rw [hget] at hic; cases hic; exact hb'
        · rw [List.getElem?_set_ne (fun z => h z.symm)] at hic
          exact hb i c hic
      · by_cases h : i = m
        · subst h; rw [hget] at hic; cases hic; exact hcb
        · rw [List.getElem?_set_ne (fun z => h z.symm)] at hic
          exact hc24 i c (by omega) hic
      · rw [hdrop]
        simp only [szTab]
        by_cases h : i = m
        · subst h
          rw [if_pos rfl]
          omega
        · rw [if_neg (by omega)]
          have := hr i (by omega) hi3
          rw [show ((m + 1 : Nat) : Int) = (m : Int) + 1 by omega] at this
          exact this
    have repl : ∀ D', D' = (⟨fun s2 G2 => forB M st (.nm 6) c_law_context_b1 D (W.dn m) s2 G2, D.rt, D.nx, fun s2 G2 => forB M st (.nm 6) c_law_context_b1 D (W.dn m) s2 G2, D.ex⟩ : En) → ∀ G1, Ext G G1 →
        wpSs (.cons (.asi (.var 5) (.var 6) (.tup (.cons (.tup (.cons (.kc (.str "say")) (.cons (.kc (.str "c")) .nil))) (.cons (.tup (.cons (.kc (.str "start")) (.cons (.var 4) (.cons (.kc (.str "a")) .nil)))) (.cons (.tup (.cons (.kc (.str "wait")) (.cons (.kc (.str "a")) .nil))) (.cons (.tup (.cons (.kc (.str "say")) (.cons (.kc (.str "d")) .nil))) .nil)))))) .nil) M [v0, v1, v2, v3, some (.int nI), some (.ref l), some (.int m)] G1 ⟨fun s1 G1 => D'.nx s1 G1, D'.rt, D'.bk, D'.ct, D'.ex⟩ := by
      intro D' hD' G1 x1
      subst hD'
      subst hnI
      have e' := x1 _ _ e
      simp [e']
      refine ⟨m, ?_, KB.of ?_⟩
      · unfold ixN
        rw [if_pos (by omega), if_pos (by omega)]
        rfl
      · refine fin (ctxB n) _ _ (by rw [gu_same, List.map_set]; rfl) (ctx_ok hmn) (by simp [ctxB, W.cnt, cntS]) ?_ (Ext.gu hl0 (x.trans x1))
        have := szTab_far (k := 1) (xs.drop (m + 1)) ((m : Int) + 1) n (by rw [List.length_drop]; omega)
        simp only [szs, szS]
        rw [this]
        omega
    rw [W.dn, Fcons]
    refine ⟨hs _, ?_⟩
    have hxs : ∀ b ∈ xs, okB RB 3 b := fun b hb2 => by
      obtain ⟨j, hj, ej⟩ := List.mem_iff_getElem.mp hb2
      exact okB_imp (fun _ => LI_RB) (hb j b (by rw [List.getElem?_eq_getElem hj, ej]))
    simp [c_law_context_b1, e, Wcall hz]
    refine ⟨_, tAt_nat eg, KB.of ?_⟩
    simp
    refine PrB.of ⟨_, xs[m], xs, rfl, .inr ⟨l, rfl, e⟩, hxs, okB_imp (fun _ => LI_RB) hq, by omega, fun G1 x1 => ?_⟩
    simp
    refine cnd_dec (fun _ => ?_) (fun hsz => ?_)
    · simp only [asB1, cndT]
      exact repl _ rfl G1 x1
    · have e1 := x1 _ _ e
      simp [e1, Wcall hc]
      refine ⟨_, tAt_nat eg, KB.of ?_⟩
      simp
      refine PrB.of ⟨xs[m], rfl, okB_imp (fun _ _ => trivial) hq, ?_⟩
      simp
      refine cnd_dec (fun _ => ?_) (fun hct => ?_)
      · exact repl _ rfl G1 x1
      · simp only [Wnil]
        have hcg : szs (szTab 1 (xs.drop (m + 1)) ((m : Int) + 1)) xs[m] = szs (szTab 1 xs 0) xs[m] := szs_congr (lo := (m : Int)) (hi := (n : Int) + 1) (I := LI m ((n : Int) + 1)) (fun b v z => ⟨z.1, z.2.1⟩) (fun j h1 h2 => by
          have := szTab_drop (k := 1) xs 0 (m + 1) j (by omega)
          rw [show (0 : Int) + ((m + 1 : Nat) : Int) = (m : Int) + 1 by omega] at this
          exact this) xs[m] hq
        refine fin xs[m] G1 _ (by rw [e1]; simp) hq (by omega) (by rw [hcg]; omega) (x.trans x1)
theorem w_context {M : Gm} (hbx : M.fn "" "_law_box" = some spBox) (hd : M.fn "" "_law_draw" = some spDraw) (hbl : M.fn "" "_law_block" = some (spBlk 3)) (hz : M.fn "" "_law_size" = some (spLSize 3)) (hc : M.fn "" "_law_count" = some (spCnt 3)) : Ob c_law_context 7 M spCtx := by
  rintro ts G Q X ⟨ns, first, most, len, rfl, h1, h2, h3, h4, h5, h6, q⟩
  simp [c_law_context, slots0, Wcall hbx, Wcall hd]
  refine PrB.of ⟨ns, first, rfl, h1, by omega, fun a d G1 ha hd x1 b1 => ?_⟩
  simp
  refine PrB.of ⟨a, d, most, rfl, b1, by omega, fun r G2 h20 h21 b2 g2 => ?_⟩
  have x2 : Ext G G2 := Fr.ext ha x1 (fr_of g2)
  obtain ⟨n, hn⟩ : ∃ n : Nat, 1 + r = (n : Int) := ⟨(1 + r).toNat, by omega⟩
  simp
  intro l hl
  refine KB.of ?_
  simp
  refine ⟨⟨by omega, by omega⟩, ?_⟩
  have hl0 : G l = none := by
    cases e : G l with
    | none => rfl
    | some o => rw [x2 _ _ e] at hl; cases hl
  refine ctx1 (n := n) (fun _ => trivial) hbx hbl hl h1 h2 h5 h6 (by omega) hn (fun G3 xs v7 e hb hlen x3 => ?_) n _ [] _ _ (by rw [hn, Int.toNat_natCast]; rfl) (by simp) gu_same (fun i b z => by simp at z) (Ext.gu hl (Ext.refl _))
  simp
  refine ⟨⟨by omega, by omega⟩, ?_⟩
  rw [show upto (1 + r - 1) (-1) (1 + r).toNat = W.dn n by rw [hn, Int.toNat_natCast]; exact upto_dn]
  refine ctx2 (fun _ => trivial) hz hc hl0 (by omega) hn (fun G4 xs' v7 e' hlen' hb' hsz x4 => ?_) n _ xs _ (Nat.le_refl _) e hlen hb (fun i b hi hb2 => ?_) (fun i hi hi2 => by omega) (x2.trans x3)
  · simp [e']
    refine KB.of ?_
    exact q xs' _ ⟨by omega, by omega, fun i b hi => by rw [hlen']; exact hb' i b hi, fun i hi => hsz i (by omega)⟩ x4
  · rw [List.getElem?_eq_none (by omega)] at hb2; cases hb2
end SK.W

set_option Elab.async false
set_option linter.all false
set_option maxRecDepth 100000
/-! W12: the law's own is_program. -/
namespace SK.W
open PySem PySem.Spec PyProof.Rows L2 SK SK.D SK.C
/-- a list comprehension without condition, by what its element answers -/
theorem lc_map {α : Type} {M : Gm} {G0 : Gp} {st : Gp → Prop} {i : Nat} {own : List Nat} {elt : E} {A : Addr} {ss : Sl} {Q : QT} {f1 f2} (en f : α → T) (hst : ∀ G, Ext G0 G → st G) (hA : G0 A = none) :
    ∀ (ys : List α) (acc : List T) (G : Gp), (∀ y ∈ ys, ∀ G, Ext G0 G → ∀ Q' : QT, (∀ G', Ext G G' → Q' (f y) G') → wpE M elt ((wipeT ss own).set i (some (en y))) G (fun _ _ _ => False) Q') → acc.length + ys.length ≤ 100000 → G A = some (.lst acc) → Ext G0 G →
      (∀ G', Ext G0 G' → G' A = some (.lst (acc ++ ys.map f)) → Q (.ref A) G') → lcB M st (.nm i) own .no elt A (ys.map en) ss G Q f1 f2
  | [], acc, G, _, _, ha, x, q => by
    simp only [List.map_nil, Lnil]
    exact ⟨hst _ x, q _ x (by simpa using ha)⟩
  | y :: ys, acc, G, hy, hl, ha, x, q => by
    simp only [List.length_cons] at hl
    rw [List.map_cons, Lcons]
    refine ⟨hst _ x, ?_⟩
    simp only [Tnm, Wcno]
    refine ⟨true, rfl, ?_⟩
    rw [cndT]
    refine hy y List.mem_cons_self G x _ fun G' hG => ⟨acc, hG _ _ ha, by unfold line; omega, ?_⟩
    refine lc_map en f hst hA ys (acc ++ [f y]) _ (fun z hz => hy z (List.mem_cons_of_mem _ hz)) (by simp; omega) gu_same (Ext.gu hA (x.trans hG)) fun G2 x2 e => q G2 x2 (by simpa using e)
theorem upto_range {n : Nat} : upto 0 1 n = (List.range n).map fun (i : Nat) => T.int (i : Int) := by
  unfold upto
  refine List.map_congr_left fun i _ => ?_
  congr 1
  omega
def spIsWE : Pr := fun ts G Q _ => ∃ w : String, ts = [.str w] ∧ w.length ≤ 100000 ∧ ∀ G', Ext G G' → Q (.bl (isW w)) G'
def spIsStE : Pr := fun ts G Q _ => ∃ (s : Stm) (lo hi : Int), ts = [enc s, .int lo, .int hi] ∧ wl s ∧ ∀ G', Ext G G' → Q (.bl (okSt lo hi s)) G'
theorem w_law_is_word {M : Gm} : Ob c_law_is_word 2 M spIsWE := by
  rintro ts G Q X ⟨w, rfl, hl, q⟩
  have hl' : w.length ≤ line := by unfold line; omega
  simp [c_law_is_word, slots0, hl']
  refine cnd_dec (fun h1 => ?_) (fun h1 => ?_)
  · simp
    have : isW w = false := by
      unfold isW
      rw [decide_eq_false (by omega : ¬ 0 < w.length)]
      simp
    rw [this] at q
    exact q _ (Ext.refl _)
  · simp [hl']
    refine cnd_dec (fun h2 => ?_) (fun h2 => ?_)
    · simp
      have : isW w = false := by
        unfold isW
        rw [decide_eq_false (by omega : ¬ w.length ≤ 8)]
        simp
      rw [this] at q
      exact q _ (Ext.refl _)
    · simp
      intro A hA
      refine lc_map (fun c => T.str (String.singleton c)) (fun c => T.bl (decide (c ∈ WS.toList))) (fun _ _ => trivial) hA w.toList [] _ (fun c hc G1 x1 Q' hq => ?_) (by have : w.toList.length = w.length := String.length_toList; simp; omega) gu_same (Ext.gu hA (Ext.refl _)) fun G' x e => ?_
      · simp [c_law_is_word_e1]
        exact ⟨c, rfl, by rw [Bool.false_xor]; exact hq G1 (Ext.refl _)⟩
      · simp only [Wenil, List.nil_append] at e ⊢
        rw [Ball]
        refine ⟨w.toList.map fun c => decide (c ∈ WS.toList), by rw [e, List.map_map]; rfl, KB.of ?_⟩
        have : isW w = (w.toList.map fun c => decide (c ∈ WS.toList)).all id := by
          unfold isW
          rw [decide_eq_true (by omega : 0 < w.length), decide_eq_true (by omega : w.length ≤ 8)]
          simp [List.all_map, Function.comp_def]
        rw [← this]
        exact q _ x
theorem w_law_is_item {M : Gm} (hw : M.fn "" "_law_is_word" = some spIsWE) : Ob c_law_is_item 3 M spIsStE := by
  rintro ts G Q X ⟨s, lo, hi, rfl, hl, qE⟩
  have q := qE G (Ext.refl _)
  have inV' : ∀ {v : String} {G : Gp} {Q : QT}, Q (.bl (inLN v)) G → cmpW .inS (.str v) (.tup [.str "a", .str "b", .str "c", .str "d"]) G Q := fun q => inV q
  cases s with
  | say w =>
    simp [c_law_is_item, slots0, enc, tAt0, Wcall hw]
    refine KB.of ?_
    simp [tAt1, Wcall hw]
    refine KB.of ?_
    simp
    exact PrB.of ⟨w, rfl, hl, qE⟩
  | start b v =>
    simp [c_law_is_item, slots0, enc, tAt0, Wcall hw]
    refine KB.of ?_
    simp [tAt0]
    refine KB.of ?_
    simp [tAt1]
    refine KB.of ?_
    simp
    refine cnd_dec (fun h1 => ?_) (fun h1 => ?_)
    · simp [tAt1]
      refine KB.of ?_
      simp
      refine cnd_dec (fun h2 => ?_) (fun h2 => ?_)
      · simp [tAt2]
        refine KB.of ?_
        simp only [CinS]
        refine inV' ?_
        simpa [okSt, h1, h2] using q
      · simpa [okSt, h1, h2] using q
    · simpa [okSt, h1] using q
  | wait v =>
    simp [c_law_is_item, slots0, enc, tAt0]
    repeat (refine KB.of ?_; simp [tAt0, tAt1, inW, flT, teq])
    simpa [okSt, inLN, LN] using q
  | adopt v =>
    simp [c_law_is_item, slots0, enc, tAt0]
    repeat (refine KB.of ?_; simp [tAt0, tAt1, inW, flT, teq])
    simpa [okSt, inLN, LN] using q
  | rep n b =>
    simp [c_law_is_item, slots0, enc, tAt0]
    repeat (refine KB.of ?_; simp [tAt0, tAt1, inW, flT, teq])
    refine cnd_dec (fun h1 => ?_) (fun h1 => ?_)
    · simp [tAt1]
      repeat (refine KB.of ?_; simp)
      simpa [okSt, h1] using q
    · simpa [okSt, h1] using q
  | _ =>
    simp [c_law_is_item, slots0, enc, tAt0]
    repeat (refine KB.of ?_; simp [tAt0, tAt1, inW, flT, teq])
    simpa [okSt] using q
/-! ### bodies -/
theorem lare2 {M : Gm} {D : En} {G0 : Gp} {d : Nat} {P : List Blk} {most : Int} {st : Gp → Prop} {f1 f2 f3} (hs : ∀ G, st G) (ha : M.fn "" "_law_all" = some (spAll d)) (hd : M.fn "" "_law_deep" = some (spDep d)) (hi : M.fn "" "_law_is_item" = some spIsStE)
    (hP : ∀ b ∈ P, okF d b) (hr : ∀ G', Ext G0 G' → areF most 0 P = false → D.rt (.bl false) G') (hD : ∀ G' a b c, Ext G0 G' → areF most 0 P = true → D.nx [some (encP P), some (.int most), a, b, c] G') :
    ∀ (n i : Nat) (a b c : Option T) (G : Gp), i + n = P.length → areF most 0 P = areF most i (P.drop i) → Ext G0 G → forB M st (.nm 2) c_law_are_bodies_b2 D (upto i 1 n) [some (encP P), some (.int most), a, b, c] G f1 f2 f3
  | 0, i, a, b, c, G, hn, he, x => by
    have : P.drop i = [] := List.drop_eq_nil_of_le (by omega)
    rw [this] at he
    simp [upto_zero, hs]
    exact hD _ _ _ _ x he
  | n + 1, i, a, b, c, G, hn, he, x => by
    have ih := fun a' b' c' G' => lare2 (M := M) (f1 := .mk) (f2 := .mk) (f3 := .mk) (st := st) hs ha hd hi hP hr hD n (i + 1) a' b' c' G' (by omega)
    have hlt : i < P.length := by omega
    have hb := hP _ (List.getElem_mem hlt)
    have eg : (P.map encB)[i]? = some (encB P[i]) := by rw [List.getElem?_map, List.getElem?_eq_getElem hlt]; rfl
    rw [List.drop_eq_getElem_cons hlt] at he
    simp only [areF] at he
    have ei : ((i : Int) + 1) = ((i + 1 : Nat) : Int) := by omega
    rw [upto_succ, Fcons]
    refine ⟨hs _, ?_⟩
    simp [c_law_are_bodies_b2, Wcall ha]
    refine ⟨_, tAt_nat eg, KB.of ?_⟩
    simp
    refine PrB.of ⟨P[i], rfl, hb.dp, hb.ct, fun p G1 a1 => ?_⟩
    simp [a1.at_]
    refine KB.of ?_
    simp
    have el : ((encs (alls P[i])).length : Int) = cnt P[i] := by rw [encs_len, alls_len]
    have xx := x.trans a1.ext
    refine cnd_dec (fun h1 => ?_) (fun h1 => ?_)
    · simp
      refine hr _ xx ?_
      rw [he]
      have : okBody ((i : Int) + 1) most P[i] = false := by
        unfold okBody
        rw [decide_eq_false (by omega : ¬ cnt P[i] ≤ 40)]
        rfl
      rw [this]
      rfl
    simp [Wcall hd]
    refine ⟨_, tAt_nat eg, KB.of ?_⟩
    simp
    refine PrB.of ⟨P[i], rfl, hb.dp, ?_⟩
    simp
    refine cnd_dec (fun h3 => ?_) (fun h3 => ?_)
    · simp
      refine hr _ xx ?_
      rw [he]
      have : okBody ((i : Int) + 1) most P[i] = false := by
        unfold okBody
        rw [decide_eq_false (by omega : ¬ dep P[i] ≤ 2)]
        simp
      rw [this]
      rfl
    simp [a1.at_]
    intro A hA
    rw [encs_map]
    have hpA : p ≠ A := fun z => by subst z; rw [a1.at_] at hA; cases hA
    refine lc_map (G0 := G1) enc (fun s => T.bl (okSt ((i : Int) + 1) most s)) (fun G' x' => by have := x' _ _ a1.at_; simpa [encs_map] using this) hA (alls P[i]) [] _ (fun y hy G' x' Q' hq => ?_) (by rw [alls_len]; have := hb.ct; simpa using this) gu_same (Ext.gu hA (Ext.refl _)) fun G' x' e => ?_
    · simp [c_law_are_bodies_e1, Wcall hi]
      exact PrB.of ⟨y, _, _, rfl, hb.wd y hy, hq⟩
    · rw [Wenil, Ball]
      refine ⟨(alls P[i]).map (okSt ((i : Int) + 1) most), by rw [e, List.map_map]; rfl, KB.of ?_⟩
      have e2 : okBody ((i : Int) + 1) most P[i] = ((alls P[i]).map (okSt ((i : Int) + 1) most)).all id := by
        unfold okBody
        rw [decide_eq_true (by omega : cnt P[i] ≤ 40), decide_eq_true (by omega : dep P[i] ≤ 2)]
        simp [List.all_map, Function.comp_def]
      rw [← e2]
      have x3 := xx.trans x'
      cases e3 : okBody ((i : Int) + 1) most P[i] with
      | true =>
        simp
        rw [ei]
        refine ih _ _ _ _ ?_ x3
        rw [he, e3, ← ei]
        rfl
      | false =>
        simp
        refine hr _ x3 ?_
        rw [he, e3]
        rfl
theorem w_law_are_bodies {M : Gm} {d : Nat} (ha : M.fn "" "_law_all" = some (spAll d)) (hd : M.fn "" "_law_deep" = some (spDep d)) (hi : M.fn "" "_law_is_item" = some spIsStE) : Ob c_law_are_bodies 5 M (spAre d) := by
  rintro ts G Q X ⟨P, most, rfl, hP, hn, q⟩
  simp [c_law_are_bodies, slots0]
  refine ⟨by omega, ?_⟩
  refine lare2 (fun _ => trivial) ha hd hi hP (fun G' x e => by rw [e] at q; exact q G' x) (fun G' a b c x e => by rw [e] at q; simp; exact q G' x) P.length 0 _ _ _ _ (by omega) rfl (Ext.refl _)
/-! ### sizes -/
theorem lbsz2 {M : Gm} {D : En} {G0 : Gp} {d : Nat} {P : List Blk} {s : Addr} {st : Gp → Prop} {f1 f2 f3} (hs : ∀ G, st G) (hw : M.fn "" "_law_measure" = some (spSz 0 d)) (hs0 : G0 s = none) (hP : ∀ b ∈ P, okB RB d b)
    (hD : ∀ G kvs v, G s = some (.dct kvs) → gI 0 kvs = szTab 0 P 0 → (∀ i : Nat, i < P.length → ∃ z, dGet kvs (.inl (i : Int)) = some (.int z)) → Ext G0 G → D.nx [some (encP P), some (.ref s), v] G) :
    ∀ (m : Nat) (G : Gp) (kvs : List (DK × T)) (v : Option T), m ≤ P.length → G s = some (.dct kvs) → IntD kvs → kvs.length + m ≤ 100000 → gI 0 kvs = szTab 0 (P.drop m) m → (∀ i : Nat, m ≤ i → i < P.length → ∃ z, dGet kvs (.inl (i : Int)) = some (.int z)) → Ext G0 G →
      forB M st (.nm 2) c_law_sizes_b2 D (W.dn m) [some (encP P), some (.ref s), v] G f1 f2 f3
  | 0, G, kvs, v, _, es, hi, _, hg, hk, x => by
    simp only [W.dn, Fnil]
    exact ⟨hs _, hD G kvs v es (by simpa using hg) (fun i hi => hk i (Nat.zero_le _) hi) x⟩
  | m + 1, G, kvs, v, hm, es, hi, hl, hg, hk, x => by
    have hlt : m < P.length := hm
    have eg : (P.map encB)[m]? = some (encB P[m]) := by rw [List.getElem?_map, List.getElem?_eq_getElem hlt]; rfl
    rw [W.dn, Fcons]
    refine ⟨hs _, ?_⟩
    simp [c_law_sizes_b2, Wcall hw]
    refine ⟨_, tAt_nat eg, KB.of ?_⟩
    simp
    refine PrB.of ⟨P[m], s, kvs, rfl, es, hi, hP _ (List.getElem_mem hlt), ?_⟩
    simp [es]
    refine ⟨by unfold line; omega, KB.of ?_⟩
    simp
    have hl2 := dPut_len (kvs := kvs) (k := .inl (m : Int)) (v := .int (1 + szs (gI 0 kvs) P[m]))
    have hg' : gI 0 (dPut kvs (.inl (m : Int)) (.int (1 + szs (gI 0 kvs) P[m]))) = szTab 0 (P.drop m) m := by
      rw [gI_put, List.drop_eq_getElem_cons hlt]
      funext j
      simp only [szTab]
      rw [hg, show ((m + 1 : Nat) : Int) = (m : Int) + 1 by omega]
    refine lbsz2 hs hw hs0 hP hD m _ _ _ (by omega) gu_same (dPut_int hi) (by omega) hg' (fun i h1 h2 => ?_) (Ext.gu hs0 x)
    rw [dGet_put]
    by_cases h : (i : Int) = (m : Int)
    · rw [if_pos (congrArg Sum.inl h)]
      exact ⟨_, rfl⟩
    · rw [if_neg (fun z => h (Sum.inl.inj z))]
      exact hk i (by omega) h2
def spSizesL (d : Nat) : Pr := fun ts G Q _ => ∃ P : List Blk, ts = [encP P] ∧ (∀ b ∈ P, okB RB d b) ∧ P.length ≤ 100000 ∧ ∀ A G', G A = none → G' A = some (.lst ((SZ P).map T.int)) → Ext G G' → Q (.ref A) G'
theorem w_law_sizes {M : Gm} {d : Nat} (hw : M.fn "" "_law_measure" = some (spSz 0 d)) : Ob c_law_sizes 3 M (spSizesL d) := by
  rintro ts G Q X ⟨P, rfl, hP, hn, q⟩
  simp [c_law_sizes, slots0]
  intro s hs0
  refine ⟨by omega, ?_⟩
  rw [upto_dn (n := P.length), gu_gu]
  refine lbsz2 (fun _ => trivial) hw hs0 hP (fun G1 kvs v es hg hk x => ?_) P.length _ [] _ (Nat.le_refl _) gu_same (fun p hp => by cases hp) (by simpa using hn) ?_ (fun i h1 h2 => absurd h2 (by omega)) (Ext.gu hs0 (Ext.refl _))
  · simp
    refine ⟨by omega, fun A hA => ?_⟩
    rw [upto_range (n := P.length)]
    refine lc_map (G0 := G1) (fun (i : Nat) => T.int (i : Int)) (fun (i : Nat) => T.int (szTab 0 P 0 (i : Int))) (fun _ _ => trivial) hA (List.range P.length) [] _ (fun i hi G' x' Q' hq => ?_) (by simpa using hn) gu_same (Ext.gu hA (Ext.refl _)) fun G' x' e => ?_
    · obtain ⟨z, ez⟩ := hk i (List.mem_range.mp hi)
      have hz : z = szTab 0 P 0 (i : Int) := by
        rw [← hg]
        unfold gI
        rw [ez]
      simp [c_law_sizes_e1, x' _ _ es, ez]
      refine KB.of ?_
      rw [hz]
      exact hq _ (Ext.refl _)
    · exact q A G' (x.none hA) (by rw [e]; simp [SZ]) (x.trans x')
  · rw [List.drop_length]
    rfl
def spIsP (d : Nat) : Pr := fun ts G Q _ => ∃ P : List Blk, ts = [encP P] ∧ (∀ b ∈ P, okF d b) ∧ P.length ≤ 100000 ∧ ∀ G', Ext G G' → Q (.bl (isProg P)) G'
theorem w_law_is_program {M : Gm} {d : Nat} (ha : M.fn "" "_law_are_bodies" = some (spAre d)) (hz : M.fn "" "_law_sizes" = some (spSizesL d)) : Ob c_law_is_program 1 M (spIsP d) := by
  rintro ts G Q X ⟨P, rfl, hP, hn, q⟩
  have no : isProg P = false → ∀ G', Ext G G' → Q (.bl false) G' := fun e G' x => by have := q G' x; rw [e] at this; exact this
  simp [c_law_is_program, slots0]
  refine cnd_dec (fun h1 => ?_) (fun h1 => ?_)
  · simp
    refine no ?_ _ (Ext.refl _)
    unfold isProg
    rw [decide_eq_false (by omega)]
    rfl
  · simp
    refine cnd_dec (fun h3 => ?_) (fun h3 => ?_)
    · simp
      refine no ?_ _ (Ext.refl _)
      unfold isProg
      rw [decide_eq_false (by omega)]
      rfl
    · simp [Wcall ha]
      refine PrB.of ⟨P, _, rfl, hP, hn, fun G1 x1 => ?_⟩
      cases e1 : areF ((P.length : Int) - 1) 0 P with
      | false =>
        simp
        refine no ?_ _ x1
        unfold isProg
        rw [e1]
        simp
      | true =>
        simp [Wcall hz]
        refine PrB.of ⟨P, rfl, fun b hb => (hP b hb).rb, hn, fun A G2 hA e x2 => ?_⟩
        have hl : (SZ P).length = P.length := by simp [SZ]
        simp [e]
        refine ⟨SZ P, rfl, by omega, fun m hm hmx => KB.of ?_⟩
        simp
        have ev : isProg P = decide (m ≤ 600) := by
          unfold isProg
          rw [e1, decide_eq_true (by omega)]
          simp only [Bool.true_and]
          by_cases h4 : m ≤ 600
          · rw [decide_eq_true h4, List.all_eq_true]
            intro y hy
            have := hmx y hy
            exact decide_eq_true (by omega)
          · rw [decide_eq_false h4, List.all_eq_false]
            exact ⟨m, hm, by simp; omega⟩
        rw [← ev]
        exact q _ (x1.trans x2)
end SK.W

set_option Elab.async false
set_option linter.all false
set_option maxRecDepth 100000
namespace SK.K00
open PySem PySem.Spec PyProof.Rows L2 SK SK.D
def top (i : Nat) : Stmt := PySem.Challenge.pw_sameticks_k00_programs_refused.main.body.getD i (.Pass ⟨0, 0, 0, 0⟩)
abbrev s_is_word : Stmt := top 13
abbrev n_is_word : List Str := ["text", "sign"]
abbrev p_is_word : List Str := ["text"]
abbrev b_is_word : List String := ["all", "len"]
abbrev u_is_word : List String := ["WORD_SIGNS"]
theorem f_is_word : FnScope n_is_word p_is_word (defScope s_is_word) := ⟨rfl, rfl, rfl, by decide +kernel, rfl, by decide +kernel, by decide +kernel⟩
theorem k_is_word : chkSs SK.D.c_is_word ⟨n_is_word, defScope s_is_word, true, u_is_word, b_is_word, false, true⟩ (defBody s_is_word) = true := by decide +kernel
abbrev s_blocks_of : Stmt := top 14
abbrev n_blocks_of : List Str := ["statement"]
abbrev p_blocks_of : List Str := ["statement"]
abbrev b_blocks_of : List String := []
abbrev u_blocks_of : List String := []
theorem f_blocks_of : FnScope n_blocks_of p_blocks_of (defScope s_blocks_of) := ⟨rfl, rfl, rfl, by decide +kernel, rfl, by decide +kernel, by decide +kernel⟩
theorem k_blocks_of : chkSs SK.D.c_blocks_of ⟨n_blocks_of, defScope s_blocks_of, true, u_blocks_of, b_blocks_of, false, false⟩ (defBody s_blocks_of) = true := by decide +kernel
abbrev s_all_statements : Stmt := top 15
abbrev n_all_statements : List Str := ["block", "found", "statement", "inner"]
abbrev p_all_statements : List Str := ["block"]
abbrev b_all_statements : List String := []
abbrev u_all_statements : List String := []
theorem f_all_statements : FnScope n_all_statements p_all_statements (defScope s_all_statements) := ⟨rfl, rfl, rfl, by decide +kernel, rfl, by decide +kernel, by decide +kernel⟩
theorem k_all_statements : chkSs SK.D.c_all_statements ⟨n_all_statements, defScope s_all_statements, true, u_all_statements, b_all_statements, false, false⟩ (defBody s_all_statements) = true := by decide +kernel
abbrev s_depth_of : Stmt := top 16
abbrev n_depth_of : List Str := ["block", "found", "statement", "inner"]
abbrev p_depth_of : List Str := ["block"]
abbrev b_depth_of : List String := ["max"]
abbrev u_depth_of : List String := []
theorem f_depth_of : FnScope n_depth_of p_depth_of (defScope s_depth_of) := ⟨rfl, rfl, rfl, by decide +kernel, rfl, by decide +kernel, by decide +kernel⟩
theorem k_depth_of : chkSs SK.D.c_depth_of ⟨n_depth_of, defScope s_depth_of, true, u_depth_of, b_depth_of, false, false⟩ (defBody s_depth_of) = true := by decide +kernel
abbrev s_is_statement : Stmt := top 17
abbrev n_is_statement : List Str := ["statement", "least", "most"]
abbrev p_is_statement : List Str := ["statement", "least", "most"]
abbrev b_is_statement : List String := []
abbrev u_is_statement : List String := ["MOST_COUNT", "VARIABLES"]
theorem f_is_statement : FnScope n_is_statement p_is_statement (defScope s_is_statement) := ⟨rfl, rfl, rfl, by decide +kernel, rfl, by decide +kernel, by decide +kernel⟩
theorem k_is_statement : chkSs SK.D.c_is_statement ⟨n_is_statement, defScope s_is_statement, true, u_is_statement, b_is_statement, false, false⟩ (defBody s_is_statement) = true := by decide +kernel
abbrev s_are_bodies : Stmt := top 18
abbrev n_are_bodies : List Str := ["bodies", "most", "number", "found", "statement"]
abbrev p_are_bodies : List Str := ["bodies", "most"]
abbrev b_are_bodies : List String := ["all", "len", "range"]
abbrev u_are_bodies : List String := ["MOST_DEPTH", "MOST_STATEMENTS"]
theorem f_are_bodies : FnScope n_are_bodies p_are_bodies (defScope s_are_bodies) := ⟨rfl, rfl, rfl, by decide +kernel, rfl, by decide +kernel, by decide +kernel⟩
theorem k_are_bodies : chkSs SK.D.c_are_bodies ⟨n_are_bodies, defScope s_are_bodies, true, u_are_bodies, b_are_bodies, false, true⟩ (defBody s_are_bodies) = true := by decide +kernel
abbrev s_block_size : Stmt := top 19
abbrev n_block_size : List Str := ["block", "sizes", "total", "statement"]
abbrev p_block_size : List Str := ["block", "sizes"]
abbrev b_block_size : List String := []
abbrev u_block_size : List String := []
theorem f_block_size : FnScope n_block_size p_block_size (defScope s_block_size) := ⟨rfl, rfl, rfl, by decide +kernel, rfl, by decide +kernel, by decide +kernel⟩
theorem k_block_size : chkSs SK.D.c_block_size ⟨n_block_size, defScope s_block_size, true, u_block_size, b_block_size, false, false⟩ (defBody s_block_size) = true := by decide +kernel
abbrev s_body_sizes : Stmt := top 20
abbrev n_body_sizes : List Str := ["bodies", "sizes", "number"]
abbrev p_body_sizes : List Str := ["bodies"]
abbrev b_body_sizes : List String := ["len", "range", "tuple"]
abbrev u_body_sizes : List String := []
theorem f_body_sizes : FnScope n_body_sizes p_body_sizes (defScope s_body_sizes) := ⟨rfl, rfl, rfl, by decide +kernel, rfl, by decide +kernel, by decide +kernel⟩
theorem k_body_sizes : chkSs SK.D.c_body_sizes ⟨n_body_sizes, defScope s_body_sizes, true, u_body_sizes, b_body_sizes, false, false⟩ (defBody s_body_sizes) = true := by decide +kernel
abbrev s_check_program : Stmt := top 21
abbrev n_check_program : List Str := ["program"]
abbrev p_check_program : List Str := ["program"]
abbrev b_check_program : List String := ["len", "max"]
abbrev u_check_program : List String := ["MOST_BODIES", "MOST_SIZE"]
theorem f_check_program : FnScope n_check_program p_check_program (defScope s_check_program) := ⟨rfl, rfl, rfl, by decide +kernel, rfl, by decide +kernel, by decide +kernel⟩
theorem k_check_program : chkSs SK.D.c_check_program ⟨n_check_program, defScope s_check_program, true, u_check_program, b_check_program, false, false⟩ (defBody s_check_program) = true := by decide +kernel
abbrev s_law_cell : Stmt := top 23
abbrev n_law_cell : List Str := ["_law_script", "_law_k"]
abbrev p_law_cell : List Str := ["_law_script", "_law_k"]
abbrev b_law_cell : List String := ["int", "len"]
abbrev u_law_cell : List String := []
theorem f_law_cell : FnScope n_law_cell p_law_cell (defScope s_law_cell) := ⟨rfl, rfl, rfl, by decide +kernel, rfl, by decide +kernel, by decide +kernel⟩
theorem k_law_cell : chkSs SK.D.c_law_cell ⟨n_law_cell, defScope s_law_cell, true, u_law_cell, b_law_cell, false, false⟩ (defBody s_law_cell) = true := by decide +kernel
abbrev s_law_digits : Stmt := top 24
abbrev n_law_digits : List Str := ["_law_cell_here", "_law_at", "_law_digits_here", "_law_turn", "_law_seed"]
abbrev p_law_digits : List Str := ["_law_cell_here", "_law_at"]
abbrev b_law_digits : List String := ["int", "range"]
abbrev u_law_digits : List String := []
theorem f_law_digits : FnScope n_law_digits p_law_digits (defScope s_law_digits) := ⟨rfl, rfl, rfl, by decide +kernel, rfl, by decide +kernel, by decide +kernel⟩
theorem k_law_digits : chkSs SK.D.c_law_digits ⟨n_law_digits, defScope s_law_digits, true, u_law_digits, b_law_digits, false, false⟩ (defBody s_law_digits) = true := by decide +kernel
abbrev s_law_box : Stmt := top 25
abbrev n_law_box : List Str := ["_law_script", "_law_at"]
abbrev p_law_box : List Str := ["_law_script", "_law_at"]
abbrev b_law_box : List String := []
abbrev u_law_box : List String := []
theorem f_law_box : FnScope n_law_box p_law_box (defScope s_law_box) := ⟨rfl, rfl, rfl, by decide +kernel, rfl, by decide +kernel, by decide +kernel⟩
theorem k_law_box : chkSs SK.D.c_law_box ⟨n_law_box, defScope s_law_box, true, u_law_box, b_law_box, false, false⟩ (defBody s_law_box) = true := by decide +kernel
abbrev s_law_draw : Stmt := top 26
abbrev n_law_draw : List Str := ["_law_box_here", "_law_many", "_law_at"]
abbrev p_law_draw : List Str := ["_law_box_here", "_law_many"]
abbrev b_law_draw : List String := ["int", "len"]
abbrev u_law_draw : List String := []
theorem f_law_draw : FnScope n_law_draw p_law_draw (defScope s_law_draw) := ⟨rfl, rfl, rfl, by decide +kernel, rfl, by decide +kernel, by decide +kernel⟩
theorem k_law_draw : chkSs SK.D.c_law_draw ⟨n_law_draw, defScope s_law_draw, true, u_law_draw, b_law_draw, false, false⟩ (defBody s_law_draw) = true := by decide +kernel
abbrev s_law_is_integer : Stmt := top 27
abbrev n_law_is_integer : List Str := ["_law_actual"]
abbrev p_law_is_integer : List Str := ["_law_actual"]
abbrev b_law_is_integer : List String := ["bool", "int", "isinstance"]
abbrev u_law_is_integer : List String := []
theorem f_law_is_integer : FnScope n_law_is_integer p_law_is_integer (defScope s_law_is_integer) := ⟨rfl, rfl, rfl, by decide +kernel, rfl, by decide +kernel, by decide +kernel⟩
theorem k_law_is_integer : chkSs SK.D.c_law_is_integer ⟨n_law_is_integer, defScope s_law_is_integer, true, u_law_is_integer, b_law_is_integer, false, false⟩ (defBody s_law_is_integer) = true := by decide +kernel
abbrev s_law_same : Stmt := top 28
abbrev n_law_same : List Str := ["_law_actual", "_law_due", "_law_at"]
abbrev p_law_same : List Str := ["_law_actual", "_law_due"]
abbrev b_law_same : List String := ["all", "bool", "int", "isinstance", "len", "range", "str", "tuple"]
abbrev u_law_same : List String := []
theorem f_law_same : FnScope n_law_same p_law_same (defScope s_law_same) := ⟨rfl, rfl, rfl, by decide +kernel, rfl, by decide +kernel, by decide +kernel⟩
theorem k_law_same : chkSs SK.D.c_law_same ⟨n_law_same, defScope s_law_same, true, u_law_same, b_law_same, false, false⟩ (defBody s_law_same) = true := by decide +kernel
abbrev s_law_word : Stmt := top 29
abbrev n_law_word : List Str := ["_law_box_here"]
abbrev p_law_word : List Str := ["_law_box_here"]
abbrev b_law_word : List String := []
abbrev u_law_word : List String := []
theorem f_law_word : FnScope n_law_word p_law_word (defScope s_law_word) := ⟨rfl, rfl, rfl, by decide +kernel, rfl, by decide +kernel, by decide +kernel⟩
theorem k_law_word : chkSs SK.D.c_law_word ⟨n_law_word, defScope s_law_word, true, u_law_word, b_law_word, false, false⟩ (defBody s_law_word) = true := by decide +kernel
abbrev s_law_block : Stmt := top 30
abbrev n_law_block : List Str := ["_law_box_here", "_law_depth", "_law_most", "_law_body", "_law_bodies", "_law_found", "_law_turn", "_law_kind", "_law_name", "_law_first"]
abbrev p_law_block : List Str := ["_law_box_here", "_law_depth", "_law_most", "_law_body", "_law_bodies"]
abbrev b_law_block : List String := ["range", "tuple"]
abbrev u_law_block : List String := []
theorem f_law_block : FnScope n_law_block p_law_block (defScope s_law_block) := ⟨rfl, rfl, rfl, by decide +kernel, rfl, by decide +kernel, by decide +kernel⟩
theorem k_law_block : chkSs SK.D.c_law_block ⟨n_law_block, defScope s_law_block, true, u_law_block, b_law_block, false, false⟩ (defBody s_law_block) = true := by decide +kernel
abbrev s_law_count : Stmt := top 31
abbrev n_law_count : List Str := ["_law_block_here", "_law_found", "_law_item", "_law_part"]
abbrev p_law_count : List Str := ["_law_block_here"]
abbrev b_law_count : List String := ["isinstance", "tuple"]
abbrev u_law_count : List String := []
theorem f_law_count : FnScope n_law_count p_law_count (defScope s_law_count) := ⟨rfl, rfl, rfl, by decide +kernel, rfl, by decide +kernel, by decide +kernel⟩
theorem k_law_count : chkSs SK.D.c_law_count ⟨n_law_count, defScope s_law_count, true, u_law_count, b_law_count, false, false⟩ (defBody s_law_count) = true := by decide +kernel
abbrev s_law_weight : Stmt := top 32
abbrev n_law_weight : List Str := ["_law_block_here", "_law_sizes_here", "_law_total", "_law_statement"]
abbrev p_law_weight : List Str := ["_law_block_here", "_law_sizes_here"]
abbrev b_law_weight : List String := []
abbrev u_law_weight : List String := []
theorem f_law_weight : FnScope n_law_weight p_law_weight (defScope s_law_weight) := ⟨rfl, rfl, rfl, by decide +kernel, rfl, by decide +kernel, by decide +kernel⟩
theorem k_law_weight : chkSs SK.D.c_law_weight ⟨n_law_weight, defScope s_law_weight, true, u_law_weight, b_law_weight, false, false⟩ (defBody s_law_weight) = true := by decide +kernel
abbrev s_law_program : Stmt := top 33
abbrev n_law_program : List Str := ["_law_script", "_law_first", "_law_most", "_law_length", "_law_room", "_law_bodies", "_law_found", "_law_body", "_law_sizes_here"]
abbrev p_law_program : List Str := ["_law_script", "_law_first", "_law_most", "_law_length", "_law_room"]
abbrev b_law_program : List String := ["range", "reversed", "tuple"]
abbrev u_law_program : List String := []
theorem f_law_program : FnScope n_law_program p_law_program (defScope s_law_program) := ⟨rfl, rfl, rfl, by decide +kernel, rfl, by decide +kernel, by decide +kernel⟩
theorem k_law_program : chkSs SK.D.c_law_program ⟨n_law_program, defScope s_law_program, true, u_law_program, b_law_program, false, false⟩ (defBody s_law_program) = true := by decide +kernel
abbrev s_law_all : Stmt := top 34
abbrev n_law_all : List Str := ["_law_block_here", "_law_found", "_law_item"]
abbrev p_law_all : List Str := ["_law_block_here"]
abbrev b_law_all : List String := []
abbrev u_law_all : List String := []
theorem f_law_all : FnScope n_law_all p_law_all (defScope s_law_all) := ⟨rfl, rfl, rfl, by decide +kernel, rfl, by decide +kernel, by decide +kernel⟩
theorem k_law_all : chkSs SK.D.c_law_all ⟨n_law_all, defScope s_law_all, true, u_law_all, b_law_all, false, false⟩ (defBody s_law_all) = true := by decide +kernel
abbrev s_law_deep : Stmt := top 35
abbrev n_law_deep : List Str := ["_law_block_here", "_law_found", "_law_item", "_law_part"]
abbrev p_law_deep : List Str := ["_law_block_here"]
abbrev b_law_deep : List String := ["isinstance", "max", "tuple"]
abbrev u_law_deep : List String := []
theorem f_law_deep : FnScope n_law_deep p_law_deep (defScope s_law_deep) := ⟨rfl, rfl, rfl, by decide +kernel, rfl, by decide +kernel, by decide +kernel⟩
theorem k_law_deep : chkSs SK.D.c_law_deep ⟨n_law_deep, defScope s_law_deep, true, u_law_deep, b_law_deep, false, false⟩ (defBody s_law_deep) = true := by decide +kernel
abbrev s_law_is_word : Stmt := top 36
abbrev n_law_is_word : List Str := ["_law_text", "_law_sign"]
abbrev p_law_is_word : List Str := ["_law_text"]
abbrev b_law_is_word : List String := ["all", "len"]
abbrev u_law_is_word : List String := []
theorem f_law_is_word : FnScope n_law_is_word p_law_is_word (defScope s_law_is_word) := ⟨rfl, rfl, rfl, by decide +kernel, rfl, by decide +kernel, by decide +kernel⟩
theorem k_law_is_word : chkSs SK.D.c_law_is_word ⟨n_law_is_word, defScope s_law_is_word, true, u_law_is_word, b_law_is_word, false, false⟩ (defBody s_law_is_word) = true := by decide +kernel
abbrev s_law_is_item : Stmt := top 37
abbrev n_law_is_item : List Str := ["_law_item", "_law_least", "_law_most"]
abbrev p_law_is_item : List Str := ["_law_item", "_law_least", "_law_most"]
abbrev b_law_is_item : List String := []
abbrev u_law_is_item : List String := []
theorem f_law_is_item : FnScope n_law_is_item p_law_is_item (defScope s_law_is_item) := ⟨rfl, rfl, rfl, by decide +kernel, rfl, by decide +kernel, by decide +kernel⟩
theorem k_law_is_item : chkSs SK.D.c_law_is_item ⟨n_law_is_item, defScope s_law_is_item, true, u_law_is_item, b_law_is_item, false, false⟩ (defBody s_law_is_item) = true := by decide +kernel
abbrev s_law_are_bodies : Stmt := top 38
abbrev n_law_are_bodies : List Str := ["_law_bodies", "_law_most", "_law_body", "_law_items", "_law_item"]
abbrev p_law_are_bodies : List Str := ["_law_bodies", "_law_most"]
abbrev b_law_are_bodies : List String := ["all", "len", "range"]
abbrev u_law_are_bodies : List String := []
theorem f_law_are_bodies : FnScope n_law_are_bodies p_law_are_bodies (defScope s_law_are_bodies) := ⟨rfl, rfl, rfl, by decide +kernel, rfl, by decide +kernel, by decide +kernel⟩
theorem k_law_are_bodies : chkSs SK.D.c_law_are_bodies ⟨n_law_are_bodies, defScope s_law_are_bodies, true, u_law_are_bodies, b_law_are_bodies, false, false⟩ (defBody s_law_are_bodies) = true := by decide +kernel
abbrev s_law_measure : Stmt := top 39
abbrev n_law_measure : List Str := ["_law_block_here", "_law_sizes_here", "_law_total", "_law_item"]
abbrev p_law_measure : List Str := ["_law_block_here", "_law_sizes_here"]
abbrev b_law_measure : List String := []
abbrev u_law_measure : List String := []
theorem f_law_measure : FnScope n_law_measure p_law_measure (defScope s_law_measure) := ⟨rfl, rfl, rfl, by decide +kernel, rfl, by decide +kernel, by decide +kernel⟩
theorem k_law_measure : chkSs SK.D.c_law_measure ⟨n_law_measure, defScope s_law_measure, true, u_law_measure, b_law_measure, false, false⟩ (defBody s_law_measure) = true := by decide +kernel
abbrev s_law_sizes : Stmt := top 40
abbrev n_law_sizes : List Str := ["_law_bodies", "_law_sizes_here", "_law_body"]
abbrev p_law_sizes : List Str := ["_law_bodies"]
abbrev b_law_sizes : List String := ["len", "range", "reversed"]
abbrev u_law_sizes : List String := []
theorem f_law_sizes : FnScope n_law_sizes p_law_sizes (defScope s_law_sizes) := ⟨rfl, rfl, rfl, by decide +kernel, rfl, by decide +kernel, by decide +kernel⟩
theorem k_law_sizes : chkSs SK.D.c_law_sizes ⟨n_law_sizes, defScope s_law_sizes, true, u_law_sizes, b_law_sizes, false, false⟩ (defBody s_law_sizes) = true := by decide +kernel
abbrev s_law_is_program : Stmt := top 41
abbrev n_law_is_program : List Str := ["_law_bodies"]
abbrev p_law_is_program : List Str := ["_law_bodies"]
abbrev b_law_is_program : List String := ["len", "max"]
abbrev u_law_is_program : List String := []
theorem f_law_is_program : FnScope n_law_is_program p_law_is_program (defScope s_law_is_program) := ⟨rfl, rfl, rfl, by decide +kernel, rfl, by decide +kernel, by decide +kernel⟩
theorem k_law_is_program : chkSs SK.D.c_law_is_program ⟨n_law_is_program, defScope s_law_is_program, true, u_law_is_program, b_law_is_program, false, false⟩ (defBody s_law_is_program) = true := by decide +kernel
abbrev s_law_with : Stmt := top 42
abbrev n_law_with : List Str := ["_law_bodies", "_law_body", "_law_block_here"]
abbrev p_law_with : List Str := ["_law_bodies", "_law_body", "_law_block_here"]
abbrev b_law_with : List String := []
abbrev u_law_with : List String := []
theorem f_law_with : FnScope n_law_with p_law_with (defScope s_law_with) := ⟨rfl, rfl, rfl, by decide +kernel, rfl, by decide +kernel, by decide +kernel⟩
theorem k_law_with : chkSs SK.D.c_law_with ⟨n_law_with, defScope s_law_with, true, u_law_with, b_law_with, false, false⟩ (defBody s_law_with) = true := by decide +kernel
abbrev s_law_bent : Stmt := top 43
abbrev n_law_bent : List Str := ["_law_box_here", "_law_bodies", "_law_body", "_law_block_here", "_law_kind", "_law_at", "_law_items", "_law_item"]
abbrev p_law_bent : List Str := ["_law_box_here", "_law_bodies"]
abbrev b_law_bent : List String := ["len"]
abbrev u_law_bent : List String := []
theorem f_law_bent : FnScope n_law_bent p_law_bent (defScope s_law_bent) := ⟨rfl, rfl, rfl, by decide +kernel, rfl, by decide +kernel, by decide +kernel⟩
theorem k_law_bent : chkSs SK.D.c_law_bent ⟨n_law_bent, defScope s_law_bent, true, u_law_bent, b_law_bent, false, false⟩ (defBody s_law_bent) = true := by decide +kernel
abbrev s_law_asked : Stmt := top 44
abbrev n_law_asked : List Str := ["_law_ask", "_law_bodies", "e", "_law_found"]
abbrev p_law_asked : List Str := ["_law_ask", "_law_bodies"]
abbrev b_law_asked : List String := ["isinstance"]
abbrev u_law_asked : List String := []
theorem f_law_asked : FnScope n_law_asked p_law_asked (defScope s_law_asked) := ⟨rfl, rfl, rfl, by decide +kernel, rfl, by decide +kernel, by decide +kernel⟩
theorem k_law_asked : chkSs SK.D.c_law_asked ⟨n_law_asked, defScope s_law_asked, true, u_law_asked, b_law_asked, false, false⟩ (defBody s_law_asked) = true := by decide +kernel
abbrev s_law : Stmt := top 45
abbrev n_law : List Str := ["_law_script", "_law_program_here", "_law_box_here", "_law_turn", "_law_bodies", "_law_due"]
abbrev p_law : List Str := ["_law_script"]
abbrev b_law : List String := ["range"]
abbrev u_law : List String := ["check_program"]
theorem f_law : FnScope n_law p_law (defScope s_law) := ⟨rfl, rfl, rfl, by decide +kernel, rfl, by decide +kernel, by decide +kernel⟩
theorem k_law : chkSs SK.D.c_law_k00 ⟨n_law, defScope s_law, true, u_law, b_law, false, false⟩ (defBody s_law) = true := by decide +kernel
end SK.K00

set_option Elab.async false
set_option linter.all false
set_option maxRecDepth 100000
namespace SK.K00
open PySem PySem.Spec PyProof.Rows L2 SK SK.D SK.C SK.W
/-! ### typed facts -/
def JB (s : Stm) : Prop := wl s ∧ RB s
theorem LJ_JB {lo hi : Int} : ∀ s, LJ lo hi s → JB s := fun s h => ⟨LJ_wl s h, LJ_RB s h⟩
structure okT (b : Blk) : Prop where
  o : okB JB 6 b
  c : W.cnt b ≤ 10000
theorem okT.okF {b : Blk} (h : okT b) : okF 6 b := ⟨okB_imp (fun _ _ => trivial) h.o, by have := h.c; omega, alls_of b (okB_imp (fun _ z => z.1) h.o), okB_imp (fun _ z => z.2) h.o⟩
theorem cnt_app : ∀ (a b : List Stm), W.cnt (a ++ b) = W.cnt a + W.cnt b
  | [], b => by simp [W.cnt]
  | s :: r, b => by
    have := cnt_app r b
    simp only [List.cons_append, W.cnt, this]
    omega
theorem cutT_map {α β : Type} (f : α → β) (xs : List α) (lo hi : Option Int) : cutT (xs.map f) lo hi = (cutT xs lo hi).map f := by
  unfold cutT
  rw [List.length_map, List.map_take, List.map_drop]
theorem cut_mem {α : Type} {xs : List α} {lo hi : Option Int} {x : α} (h : x ∈ cutT xs lo hi) : x ∈ xs := List.mem_of_mem_drop (List.mem_of_mem_take h)
theorem cut_len {α : Type} {xs : List α} {lo hi : Option Int} : (cutT xs lo hi).length ≤ xs.length := by
  unfold cutT
  rw [List.length_take, List.length_drop]
  omega
theorem cnt_sub : ∀ {a b : List Stm}, a.Sublist b → W.cnt a ≤ W.cnt b
  | _, _, .slnil => Nat.le_refl _
  | _, _, .cons s h => by have := cnt_sub h; simp only [W.cnt]; omega
  | _, _, .cons₂ s h => by have := cnt_sub h; simp only [W.cnt]; omega
theorem cut_sub {α : Type} {xs : List α} {lo hi : Option Int} : (cutT xs lo hi).Sublist xs := (List.take_sublist _ _).trans (List.drop_sublist _ _)
/-- _law_with -/
def spLWith : Pr := fun ts G Q X => ∃ (P : List Blk) (i : Int) (b : Blk), ts = [encP P, .int i, encB b] ∧ 0 ≤ i ∧ i < P.length ∧ P.length ≤ 1000 ∧ Q (encP (P.set i.toNat b)) G
theorem cut_set {α : Type} {xs : List α} {i : Int} {v : α} (h0 : 0 ≤ i) (h1 : i < xs.length) : cutT xs none (some i) ++ v :: cutT xs (some (i + 1)) none = xs.set i.toNat v := by
  obtain ⟨n, rfl⟩ : ∃ n : Nat, i = (n : Int) := ⟨i.toNat, by omega⟩
  have hn : n < xs.length := by omega
  have e : ((n : Int) + 1) = ((n + 1 : Nat) : Int) := by omega
  unfold cutT
  rw [e, HT.sIx_nat, HT.sIx_nat, HT.sIx_none, HT.sIx_none, Int.toNat_natCast, Nat.min_eq_left (by omega), Nat.min_eq_left (by omega), List.drop_zero, Nat.sub_zero]
  have e2 : (xs.drop (n + 1)).take (xs.length - (n + 1)) = xs.drop (n + 1) := List.take_of_length_le (by rw [List.length_drop]; omega)
  rw [e2]
  exact (List.set_eq_take_append_cons_drop ..).trans (if_pos hn) |>.symm
theorem w_with {M : Gm} : Ob c_law_with 3 M spLWith := by
  rintro ts G Q X ⟨P, i, b, rfl, h0, h1, hn, q⟩
  have l1 := cut_len (xs := P.map encB) (lo := none) (hi := some i)
  have l2 := cut_len (xs := P.map encB) (lo := some (i + 1)) (hi := none)
  rw [List.length_map] at l1 l2
  have e : cutT (P.map encB) none (some i) ++ encB b :: cutT (P.map encB) (some (i + 1)) none = (P.set i.toNat b).map encB := by
    rw [cut_set h0 (by simpa using h1), List.map_set]
  simp [c_law_with, slots0]
  refine ⟨by unfold line; omega, by unfold line; omega, ?_⟩
  rw [e]
  exact q
/-! ### _law_asked -/
theorem joinS_one {s a : String} : joinS s [a] = a := rfl
def askV (b : Bool) : T := .tup [.str (if b then "taken" else "program"), .non]
def spAsked (ca : Addr) (d : Nat) : Pr := fun ts G Q X => ∃ P : List Blk, ts = [.ref ca, encP P] ∧ (∀ b ∈ P, okF d b) ∧ P.length ≤ 100000 ∧ ∀ G', Ext G G' → Q (askV (isProg P)) G'
theorem w_asked {M : Gm} {ca : Addr} {d : Nat} (hv : M.fv ca = some (spCheckP d)) (h1 : M.xnm "TickError" = true) (h2 : M.xnm "BadProgram" = true) (h3 : M.xnm "BadContext" = true) (h4 : M.xnm "BadFrame" = true)
    (s1 : M.sub "BadProgram" "TickError" = true) (s2 : M.sub "BadProgram" "BadProgram" = true) (s3 : M.sub "BadProgram" "BadContext" = false) (s4 : M.sub "BadProgram" "BadFrame" = false) : Ob c_law_asked 4 M (spAsked ca d) := by
  rintro ts G Q X ⟨P, rfl, hP, hn, q⟩
  simp [c_law_asked, slots0, h1]
  rw [Wcallv (p := ca) rfl hv]
  simp
  refine PrB.of ⟨P, rfl, hP, hn, fun e G' x => ?_, fun e G' x => ?_⟩
  · have := q G' x
    rw [e] at this
    simpa [askV] using this
  · refine tryX_of s1 fun p hp => ?_
    simp [Wisx2 h2, Wisx2 h3, Wisx2 h4]
    intro l hl
    repeat (refine KB.of ?_; simp [Wisx2 h2, Wisx2 h3, Wisx2 h4, s2, s3, s4, gu_same, line])
    refine ⟨["program"], rfl, by decide, KB.of ?_⟩
    simp [joinS]
    rw [gu_gu]
    have := q _ (Ext.gu (o := .lst [.str "program"]) (x.none hl) x)
    rw [e] at this
    simpa [askV] using this
/-! ### _law_bent -/
def spBent : Pr := fun ts G Q _ => ∃ (a d : Addr) (P : List Blk), ts = [.ref a, encP P] ∧ BoxAt G a d ∧ DP 5 300 P ∧ ∀ P' G', (∀ b ∈ P', okT b) → P'.length ≤ 1000 → BoxAt G' a d → Q (encP P') G'
theorem ixs {s : String} {i : Int} {G : Gp} {Q : QT} (h0 : 0 ≤ i) (h1 : i < s.length) (hl : s.length ≤ 1000) (q : ∀ c, Q (.str (String.singleton c)) G) : ixW (.str s) (.int i) G Q := by
  have hi : i < s.toList.length := by rw [String.length_toList]; exact h1
  obtain ⟨c, e, _⟩ := tAt_get (xs := s.toList) h0 hi
  exact ⟨c, by unfold line; omega, e, q c⟩
/-- an item put in -/
structure okI (d : Nat) (s : Stm) : Prop where
  j : JB s
  sb : subs (okB JB d) s
  c : cntS s ≤ 10
theorem okI.up {d e : Nat} {s : Stm} (h : okI d s) (he : d ≤ e) : okI e s := ⟨h.j, subs_imp (fun _ z => okB_up he z) h.sb, h.c⟩
theorem Wocall' {M : Gm} {sp : Pr} {f : String} {es : Es} {ss : Sl} {G : Gp} {X : XT} {QO : Option Int → Gp → Prop} (h : M.fn "" f = some sp) : wpO M (.call f es) ss G X QO = wpEs M es ss G X fun ts G1 => PrB sp ts G1 (fun z G3 => asI z fun j => QO (some j) G3) X := by
  show (∃ sp, M.fn "" f = some sp ∧ _) = _
  rw [h]
  simp [PrB, asI]
theorem okb {s : Stm} {b : Blk} {d : Nat} {e : Nat} (h : okB JB (d + 1) b) (hi : okI d s) : okB JB (d + 1) [s] := fun x hx => by
  simp only [List.mem_singleton] at hx
  subst hx
  exact ⟨hi.j, hi.sb⟩
theorem one_ok {s : Stm} {d : Nat} (hi : okI d s) : okB JB (d + 1) [s] := fun x hx => by
  simp only [List.mem_singleton] at hx
  subst hx
  exact ⟨hi.j, hi.sb⟩
theorem nil_ok {d : Nat} : okB JB (d + 1) [] := fun x hx => by cases hx
theorem cut_one {α : Type} {x : α} {r : Int} (h0 : 0 ≤ r) (h1 : r < 2) : cutT [x] none (some r) = if r = 0 then [] else [x] := by
  have : r = 0 ∨ r = 1 := by omega
  rcases this with e | e <;> subst e <;> rfl
theorem enc_in {B : Blk} {it : Stm} {x y z w : Option Int} : cutT (encs B) x y ++ enc it :: cutT (encs B) z w = encs (cutT B x y ++ it :: cutT B z w) := by
  rw [encs_map, cutT_map, cutT_map, encs_map, List.map_append, List.map_cons]
theorem okT_in {B : Blk} {it : Stm} {x y z w : Option Int} (hB : okB JB 6 B) (hc : W.cnt B ≤ 24) (hi : okI 5 it) : okT (cutT B x y ++ it :: cutT B z w) := by
  refine ⟨fun s hs => ?_, ?_⟩
  · rcases List.mem_append.mp hs with h | h
    · exact hB s (cut_mem h)
    · rcases List.mem_cons.mp h with h | h
      · subst h; exact ⟨hi.j, hi.sb⟩
      · exact hB s (cut_mem h)
  · rw [cnt_app]
    have h1 := cnt_sub (cut_sub (xs := B) (lo := x) (hi := y))
    have h2 := cnt_sub (cut_sub (xs := B) (lo := z) (hi := w))
    have := hi.c
    simp only [W.cnt]
    omega
theorem pz : ∀ (n : Nat), (List.replicate n [T.tup [.str "pause"]]).flatten = encs (List.replicate n .pause)
  | 0 => rfl
  | n + 1 => by rw [List.replicate_succ, List.flatten_cons, pz n, List.replicate_succ]; rfl
theorem pr1 : ∀ (n : Nat), List.replicate n (T.tup [.str "pause"]) = encs (List.replicate n .pause)
  | 0 => rfl
  | n + 1 => by rw [List.replicate_succ, pr1 n, List.replicate_succ]; rfl
theorem cnt_rep : ∀ (n : Nat), W.cnt (List.replicate n .pause) = n
  | 0 => rfl
  | n + 1 => by rw [List.replicate_succ, W.cnt, cnt_rep n]; simp [cntS]; omega
theorem rep_ok {d n : Nat} : okB JB (d + 1) (List.replicate n .pause) := fun s hs => by
  have := (List.mem_replicate.mp hs).2
  subst this
  exact ⟨⟨trivial, trivial⟩, trivial⟩
theorem w_bent {M : Gm} (hd : M.fn "" "_law_draw" = some spDraw) (hw : M.fn "" "_law_with" = some spLWith) (ha : M.fn "" "_law_all" = some (spAll 6)) : Ob c_law_bent 8 M spBent := by
  rintro ts G Q X ⟨a, d, P, rfl, b0, dp, q⟩
  have n1 := dp.n1
  have n2 := dp.n2
  simp [c_law_bent, slots0, Wcall hd]
  refine PrB.of ⟨a, d, _, rfl, b0, by omega, fun rb G1 p1 q1 b1 _ => ?_⟩
  have hib : rb.toNat < P.length := by omega
  have eb := List.getElem?_eq_getElem hib
  obtain ⟨B, eB⟩ : ∃ B, P[rb.toNat]? = some B := ⟨_, eb⟩
  have e1 : tAt (P.map encB) rb = some (encB B) := by
    unfold tAt
    rw [if_pos p1, List.getElem?_map, eB]
    rfl
  obtain ⟨hB1, hB2⟩ := dp.blk _ _ eB
  simp [e1, Wcall hd]
  refine KB.of ?_
  refine PrB.of ⟨a, d, 10, rfl, b1, by decide, fun rk G2 p2 q2 b2 _ => ?_⟩
  simp
  refine PrB.of ⟨a, d, _, rfl, b2, by omega, fun ra G3 p3 q3 b3 _ => ?_⟩
  simp
  refine PrB.of ⟨a, d, 5, rfl, b3, by decide, fun r4 G4 p4 q4 b4 _ => ?_⟩
  simp
  obtain ⟨v, e, w, rfl, hww⟩ := tAt_all (P := fun t => ∃ w : String, t = T.str w ∧ w.length ≤ 10) (xs := [.str "", .str "A", .str "nine99999", .str "ok", .str "a b"]) (by simp; decide) p4 (by simpa using q4)
  refine eqx e (KB.of ?_)
  simp
  refine PrB.of ⟨a, d, 7, rfl, b4, by decide, fun r5 G5 p5 q5 b5 _ => ?_⟩
  simp
  obtain ⟨v, e, z, rfl⟩ := tAt_all (P := fun t => ∃ z : Int, t = T.int z) (xs := [.int 0, .int rb, .int (rb + 1), .int (P.length - 1), .int P.length, .int (P.length + 1), .int (-1)]) (by simp) p5 (by simpa using q5)
  refine eqx e (KB.of ?_)
  refine PrB.of ⟨a, d, 4, rfl, b5, by decide, fun r6 G6 p6 q6 b6 _ => ?_⟩
  refine ixs p6 (Int.lt_of_lt_of_le q6 (by decide)) (by decide) fun cc => ?_
  refine PrB.of ⟨a, d, 2, rfl, b6, by decide, fun r7 G7 p7 q7 b7 _ => ?_⟩
  simp
  obtain ⟨v, e, wa, rfl⟩ := tAt_all (P := fun t => ∃ w : Bool, t = T.str (if w then "wait" else "adopt")) (xs := [.str "wait", .str "adopt"]) (by simp) p7 (by simpa using q7)
  refine eqx e (KB.of ?_)
  refine PrB.of ⟨a, d, 4, rfl, b7, by decide, fun r8 G8 p8 q8 b8 _ => ?_⟩
  simp
  obtain ⟨v, e, nm, rfl⟩ := tAt_all (P := fun t => ∃ w : String, t = T.str w) (xs := [.str "e", .str "a", .str "aa", .str ""]) (by simp) p8 (by simpa using q8)
  refine eqx e (KB.of ?_)
  refine PrB.of ⟨a, d, 4, rfl, b8, by decide, fun r9 G9 p9 q9 b9 _ => ?_⟩
  simp
  obtain ⟨v, e, ct, rfl, c0, c1⟩ := tAt_all (P := fun t => ∃ w : Int, t = T.int w ∧ -1 ≤ w ∧ w ≤ 101) (xs := [.int 100, .int 101, .int (-1), .int 0]) (by simp) p9 (by simpa using q9)
  refine eqx e (KB.of ?_)
  simp [Wocall' hd]
  refine PrB.of ⟨a, d, 2, rfl, b9, by decide, fun rt G10 pt qt b10 _ => ?_⟩
  simp
  have hLJ : ∀ (j : Nat) b, P[j]? = some b → okB JB 6 b ∧ W.cnt b ≤ 24 := fun j b e => by
    obtain ⟨h1, h2⟩ := dp.blk j b e
    exact ⟨okB_up (by decide) (okB_imp (fun s z => LJ_JB s (LI_LJ s z)) h1), h2⟩
  have okP : ∀ b ∈ P, okT b := fun b hb => by
    obtain ⟨j, hj, ej⟩ := List.mem_iff_getElem.mp hb
    obtain ⟨h1, h2⟩ := hLJ j b (by rw [List.getElem?_eq_getElem hj, ej])
    exact ⟨h1, by omega⟩
  obtain ⟨kB1, kB2⟩ := hLJ _ _ eB
  have setOk : ∀ B' G', okT B' → BoxAt G' a d → Q (encP (P.set rb.toNat B')) G' := fun B' G' h b' => q _ _ (fun b hb => by
    rcases List.mem_or_eq_of_mem_set hb with h2 | h2
    · exact okP b h2
    · subst h2; exact h) (by rw [List.length_set]; omega) b'
  have lB : B.length ≤ 24 := by have := len_cnt B; omega
  refine cnd_dec (fun hk => ?_) (fun hk => ?_)
  · have items : ∀ t ∈ [T.tup [.str "say", .str w], .tup [.str "start", .int z, .str (String.singleton cc)], .tup [.str (if wa then "wait" else "adopt"), .str nm], .tup [.str "repeat", .int ct, .tup []], .tup [.str "try", .tup [.tup [.str "repeat", .int 1, .tup (cutT [.tup [.str "try", .tup [], .tup []]] none (some rt))]], .tup []]], ∃ it, t = enc it ∧ okI 4 it ∧ cntS it ≤ 3 := by
      intro t ht
      simp only [List.mem_cons, List.not_mem_nil, or_false] at ht
      rcases ht with h | h | h | h | h <;> subst h
      · exact ⟨.say w, rfl, ⟨⟨by show w.length ≤ 100000; omega, trivial⟩, trivial, by simp [cntS]⟩, by simp [cntS]⟩
      · exact ⟨.start z _, rfl, ⟨⟨trivial, trivial⟩, trivial, by simp [cntS]⟩, by simp [cntS]⟩
      · cases wa
        · exact ⟨.adopt nm, rfl, ⟨⟨trivial, trivial⟩, trivial, by simp [cntS]⟩, by simp [cntS]⟩
        · exact ⟨.wait nm, rfl, ⟨⟨trivial, trivial⟩, trivial, by simp [cntS]⟩, by simp [cntS]⟩
      · exact ⟨.rep ct [], rfl, ⟨⟨trivial, by omega, by omega⟩, nil_ok, by simp [cntS, W.cnt]⟩, by simp [cntS, W.cnt]⟩
      · rw [cut_one pt qt]
        have tt : okI 2 (.tr [] []) := ⟨⟨trivial, trivial⟩, ⟨nil_ok, nil_ok⟩, by decide⟩
        by_cases hr : rt = 0
        · rw [if_pos hr]
          exact ⟨.tr [.rep 1 []] [], rfl, ⟨⟨trivial, trivial⟩, ⟨one_ok (d := 3) ⟨⟨trivial, ⟨by decide, by decide⟩⟩, nil_ok, by decide⟩, nil_ok⟩, by decide⟩, by decide⟩
        · rw [if_neg hr]
          exact ⟨.tr [.rep 1 [.tr [] []]] [], rfl, ⟨⟨trivial, trivial⟩, ⟨one_ok (d := 3) ⟨⟨trivial, ⟨by decide, by decide⟩⟩, one_ok tt, by decide⟩, nil_ok⟩, by decide⟩, by decide⟩
    obtain ⟨v, e, it, rfl, hit, hcit⟩ := tAt_all items p2 (by simpa using hk)
    simp
    refine eqx e (KB.of ?_)
    simp [Wcall hd]
    refine PrB.of ⟨a, d, 4, rfl, b10, by decide, fun rw' G11 pw qw b11 _ => ?_⟩
    have wraps : ∀ t ∈ [enc it, .tup [.str "try", .tup [enc it], .tup []], .tup [.str "try", .tup [], .tup [enc it]], .tup [.str "repeat", .int 1, .tup [enc it]]], ∃ it', t = enc it' ∧ okI 5 it' := by
      intro t ht
      simp only [List.mem_cons, List.not_mem_nil, or_false] at ht
      have o1 : okB JB 5 [it] := one_ok hit
      rcases ht with h | h | h | h <;> subst h
      · exact ⟨it, rfl, hit.up (by decide)⟩
      · exact ⟨.tr [it] [], rfl, ⟨⟨trivial, trivial⟩, ⟨o1, nil_ok⟩, by simp only [cntS, W.cnt]; omega⟩⟩
      · exact ⟨.tr [] [it], rfl, ⟨⟨trivial, trivial⟩, ⟨nil_ok, o1⟩, by simp only [cntS, W.cnt]; omega⟩⟩
      · exact ⟨.rep 1 [it], rfl, ⟨⟨trivial, ⟨by decide, by decide⟩⟩, o1, by simp only [cntS, W.cnt]; omega⟩⟩
    obtain ⟨v, e', it', rfl, hit'⟩ := tAt_all wraps pw (by simpa using qw)
    simp
    refine eqx e' (KB.of ?_)
    simp [Wcall hw]
    have l1 := cut_len (xs := encs B) (lo := none) (hi := some ra)
    have l2 := cut_len (xs := encs B) (lo := some ra) (hi := none)
    rw [encs_len] at l1 l2
    refine ⟨by unfold line; omega, by unfold line; omega, ?_⟩
    rw [enc_in]
    exact PrB.of ⟨P, rb, _, rfl, p1, q1, by omega, setOk _ _ (okT_in kB1 kB2 hit') b11⟩
  simp
  refine cnd_dec (fun hk => ?_) (fun hk => ?_)
  · simp [Wcall hd]
    simp only [Wcall hw, Wcall hd, Wcall ha]
    simp [Wcall hd, Wcall ha]
    refine PrB.of ⟨a, d, 3, rfl, b10, by decide, fun r G11 pr qr b11 _ => ?_⟩
    simp [Wcall ha]
    refine PrB.of ⟨B, rfl, okB_imp (fun _ _ => trivial) kB1, by omega, fun p G12 ac => ?_⟩
    have b12 : BoxAt G12 a d := by
      obtain ⟨ne, ⟨i, hi, ea⟩, ns, ed⟩ := b11
      exact ⟨ne, ⟨i, hi, ac.ext _ _ ea⟩, ns, ac.ext _ _ ed⟩
    simp [ac.at_]
    refine KB.of ?_
    simp
    have hl : (encs (alls B)).length = W.cnt B := by rw [encs_len, alls_len]
    have hl2 : (encs B).length = B.length := encs_len
    refine ⟨by omega, by omega, by unfold line; omega, ?_⟩
    rw [pr1, ← encs_app]
    exact PrB.of ⟨P, rb, _, rfl, p1, q1, by omega, setOk _ _ ⟨okB_app kB1 rep_ok, by rw [cnt_app, cnt_rep]; omega⟩ b12⟩
  simp
  refine cnd_dec (fun hk => ?_) (fun hk => ?_)
  · simp [Wcall hd]
    have hne : P ≠ [] := fun z => by rw [z] at n1; simp at n1
    refine ⟨hne, by omega, ?_⟩
    refine PrB.of ⟨a, d, 4, rfl, b10, by decide, fun r G11 pr qr b11 _ => ?_⟩
    simp
    have e : (P.map encB ++ (P.map encB ++ (P.map encB ++ (P.map encB ++ (P.map encB ++ (P.map encB ++ (P.map encB ++ (P.map encB ++ P.map encB)))))))) = (P ++ (P ++ (P ++ (P ++ (P ++ (P ++ (P ++ (P ++ P)))))))).map encB := by simp
    rw [e, cutT_map]
    refine q _ _ (fun b hb => ?_) (by have := cut_len (xs := P ++ (P ++ (P ++ (P ++ (P ++ (P ++ (P ++ (P ++ P)))))))) (lo := none) (hi := some (6 + r)); simp at this; omega) b11
    have := cut_mem hb
    simp at this
    exact okP b this
  simp
  refine cnd_dec (fun hk => ?_) (fun hk => ?_)
  · simp [Wcall hd]
    simp [Wocall' hd]
    refine PrB.of ⟨a, d, _, rfl, b10, by omega, fun r G11 pr qr b11 _ => ?_⟩
    simp
    rw [cutT_map]
    exact q _ _ (fun b hb => okP b (cut_mem hb)) (by have := cut_len (xs := P) (lo := none) (hi := some r); omega) b11
  simp
  refine cnd_dec (fun hk => ?_) (fun hk => ?_)
  · simp [Wcall hd]
    simp only [Wcall hw, Wcall hd]
    simp [Wcall hd]
    refine PrB.of ⟨a, d, 11, rfl, b10, by decide, fun r G11 pr qr b11 _ => ?_⟩
    simp
    refine PrB.of ⟨a, d, 4, rfl, b11, by decide, fun r2 G12 pr2 qr2 b12 _ => ?_⟩
    simp
    have lc := cut_len (xs := encs B) (lo := none) (hi := some ra)
    rw [encs_len] at lc
    refine ⟨by omega, by omega, by unfold line; omega, ?_⟩
    have e : cutT (encs B) none (some ra) ++ [T.tup [.str "repeat", .int (90 + r), .tup (List.replicate (3 + r2).toNat (T.tup [.str "pause"]))]] = encs (cutT B none (some ra) ++ [.rep (90 + r) (List.replicate (3 + r2).toNat .pause)]) := by
      have e0 : cutT (encs B) none (some ra) = encs (cutT B none (some ra)) := by rw [encs_map, cutT_map, encs_map]
      rw [pr1, e0, encs_app]
      rfl
    rw [e]
    refine PrB.of ⟨P, rb, _, rfl, p1, q1, by omega, setOk _ _ ⟨fun s hs => ?_, ?_⟩ b12⟩
    · rcases List.mem_append.mp hs with h | h
      · exact kB1 s (cut_mem h)
      · simp only [List.mem_singleton] at h
        subst h
        exact ⟨⟨trivial, by omega, by omega⟩, rep_ok⟩
    · rw [cnt_app]
      have h1 := cnt_sub (cut_sub (xs := B) (lo := none) (hi := some ra))
      simp only [W.cnt, cntS, cnt_rep]
      omega
  simp
  exact q P _ okP (by omega) b10
/-! ### the law -/
theorem vd_ask {b : Bool} : VD 2 (askV b) := ⟨by simp, by simp [VD]⟩
theorem turns {M : Gm} {D : En} {P : List Blk} {ca : Addr} {v0 : Option T} {a d : Addr} {st : Gp → Prop} {f1 f2 f3} (hst : ∀ G, st G) (dp : DP 5 300 P) (hb : M.fn "" "_law_bent" = some spBent) (hi : M.fn "" "_law_is_program" = some (spIsP 6)) (hs : M.fn "" "_law_same" = some (spSame (VD 2))) (hk : M.fn "" "_law_asked" = some (spAsked ca 6)) (hc : M.cst "check_program" = some (.ref ca))
    (hD : ∀ G v3 v4 v5, D.nx [v0, some (encP P), some (.ref a), v3, v4, v5] G) :
    ∀ (ys : List T) (G : Gp) (v3 v4 v5 : Option T), BoxAt G a d → forB M st (.nm 3) c_law_k00_b1 D ys [v0, some (encP P), some (.ref a), v3, v4, v5] G f1 f2 f3
  | [], G, v3, v4, v5, b => by simp only [Fnil]; exact ⟨hst _, hD _ _ _ _⟩
  | y :: ys, G, v3, v4, v5, b => by
    have ih := fun G' v3 v4 v5 (b' : BoxAt G' a d) => turns (M := M) (f1 := .mk) (f2 := .mk) (f3 := .mk) (st := st) hst dp hb hi hs hk hc hD ys G' v3 v4 v5 b'
    have ext : ∀ {G1 G2 : Gp}, BoxAt G1 a d → Ext G1 G2 → BoxAt G2 a d := fun b x => by
      obtain ⟨ne, ⟨i, hi, ea⟩, ns, ed⟩ := b
      exact ⟨ne, ⟨i, hi, x _ _ ea⟩, ns, x _ _ ed⟩
    rw [Fcons]
    refine ⟨hst _, ?_⟩
    simp [c_law_k00_b1, Wcall hb]
    refine PrB.of ⟨a, d, P, rfl, b, dp, fun P' G1 okP' n' b1 => ?_⟩
    simp [Wcall hi]
    refine PrB.of ⟨P', rfl, fun b hb => (okP' b hb).okF, by omega, fun G2 x2 => ?_⟩
    cases e : isProg P' with
    | true =>
      simp [Wcall hs, Wcall hk, hc]
      repeat (refine KB.of ?_; simp [Wcall hs, Wcall hk, hc])
      refine PrB.of ⟨P', rfl, fun b hb => (okP' b hb).okF, by omega, fun G3 x3 => ?_⟩
      rw [e]
      try simp
      refine PrB.of ⟨_, rfl, vd_ask (b := true), fun G4 x4 => ?_⟩
      simp
      exact ih _ _ _ _ (ext b1 (x2.trans (x3.trans x4)))
    | false =>
      simp [Wcall hs, Wcall hk, hc]
      repeat (refine KB.of ?_; simp [Wcall hs, Wcall hk, hc])
      refine PrB.of ⟨P', rfl, fun b hb => (okP' b hb).okF, by omega, fun G3 x3 => ?_⟩
      rw [e]
      try simp
      refine PrB.of ⟨_, rfl, vd_ask (b := false), fun G4 x4 => ?_⟩
      simp
      exact ih _ _ _ _ (ext b1 (x2.trans (x3.trans x4)))
theorem dp_prog {P : List Blk} (dp : DP 5 300 P) : isProg P = true ∧ ∀ b ∈ P, okF 6 b := by
  have n1 := dp.n1
  have n2 := dp.n2
  have p : GP 3 P := ⟨n1, by omega, fun j b e => by
    obtain ⟨h1, h2⟩ := dp.blk j b e
    exact ⟨okB_imp LI_LJ h1, by omega, dep_le _ h1⟩⟩
  refine ⟨p.isProg.mpr ⟨by omega, fun ⟨b, hb, z⟩ => ?_⟩, fun b hb => ?_⟩
  · obtain ⟨j, e⟩ := p.mem hb
    have hj : j < P.length := by
      rcases Nat.lt_or_ge j P.length with h | h
      · exact h
      · rw [List.getElem?_eq_none h] at e; cases e
    have e1 := p.SZ_lsz j b e
    have e2 := szTab_01 (d := 3) (n := P.length) P 0 (by omega) (fun j b e => by have := (p.blk j b e).1; simpa using this) (j : Int) (by omega) (by omega)
    have := dp.siz j hj
    omega
  · obtain ⟨j, e⟩ := p.mem hb
    obtain ⟨h1, h2, _⟩ := p.blk j b e
    exact (okT.mk (okB_up (by decide) (okB_imp LJ_JB h1)) (by omega)).okF
theorem w_law {M : Gm} {ca : Addr} (hp : M.fn "" "_law_program" = some spProg) (hbx : M.fn "" "_law_box" = some spBox) (hb : M.fn "" "_law_bent" = some spBent) (hi : M.fn "" "_law_is_program" = some (spIsP 6)) (hs : M.fn "" "_law_same" = some (spSame (VD 2))) (hk : M.fn "" "_law_asked" = some (spAsked ca 6)) (hcp : M.fn "" "check_program" = some (spCheckP 6)) (hc : M.cst "check_program" = some (.ref ca)) : Ob c_law_k00 6 M (LawPr 63) := by
  rintro ts G Q X ⟨ns, rfl, _, _, q⟩
  simp [c_law_k00, slots0, Wcall hp]
  refine PrB.of ⟨ns, 0, 5, 6, 300, rfl, by decide, by decide, by decide, by decide, by decide, by decide, by decide, fun P G1 dp x1 => ?_⟩
  simp [Wcall hbx]
  refine PrB.of ⟨ns, 6, rfl, by decide, by decide, fun a d G2 ha hd' hx b => ?_⟩
  simp
  have n2 := dp.n2
  obtain ⟨g1, g2⟩ := dp_prog dp
  refine turns (fun _ => trivial) dp hb hi hs hk hc (fun G v3 v4 v5 => ?_) _ _ _ _ _ b
  simp [Wcall hs, Wcall hcp]
  refine PrB.of ⟨P, rfl, g2, by omega, fun _ G3 x3 => ?_, fun e => ?_⟩
  · simp
    exact PrB.of ⟨.non, rfl, trivial, fun G4 _ => q _⟩
  · rw [g1] at e
    cases e
end SK.K00

set_option Elab.async false
set_option linter.all false
set_option maxRecDepth 100000
namespace SK.K00
open PySem PySem.Spec PyProof.Rows L2 SK SK.D SK.C SK.W
theorem allNil {α : Type} {φ : α → Prop} : ∀ p ∈ ([] : List α), φ p := fun p h => absurd h (by simp)
theorem allCons {α : Type} {φ : α → Prop} {a : α} {l : List α} (h : φ a) (t : ∀ p ∈ l, φ p) : ∀ p ∈ a :: l, φ p := fun p hp => by
  rcases List.mem_cons.mp hp with z | z
  · subst z; exact h
  · exact t p z
theorem a_law_cell : ∀ (kV doc pm : Value) (an : Option Addr) (cdv ct : Value) (us : List Value), us.length = p_law_cell.length → bindArgs (PySem.W.fnOf (Str.ofString "_law_cell") (Str.ofString "_law_cell") (defArgs s_law_cell) (defBody s_law_cell) (defScope s_law_cell) .none kV doc pm an cdv ct) ⟨us, []⟩ = pure (p_law_cell.zip us) := fun _ _ _ _ _ _ us hl => match us, hl with | [_, _], _ => rfl
theorem a_law_digits : ∀ (kV doc pm : Value) (an : Option Addr) (cdv ct : Value) (us : List Value), us.length = p_law_digits.length → bindArgs (PySem.W.fnOf (Str.ofString "_law_digits") (Str.ofString "_law_digits") (defArgs s_law_digits) (defBody s_law_digits) (defScope s_law_digits) .none kV doc pm an cdv ct) ⟨us, []⟩ = pure (p_law_digits.zip us) := fun _ _ _ _ _ _ us hl => match us, hl with | [_, _], _ => rfl
theorem a_law_draw : ∀ (kV doc pm : Value) (an : Option Addr) (cdv ct : Value) (us : List Value), us.length = p_law_draw.length → bindArgs (PySem.W.fnOf (Str.ofString "_law_draw") (Str.ofString "_law_draw") (defArgs s_law_draw) (defBody s_law_draw) (defScope s_law_draw) .none kV doc pm an cdv ct) ⟨us, []⟩ = pure (p_law_draw.zip us) := fun _ _ _ _ _ _ us hl => match us, hl with | [_, _], _ => rfl
theorem a_law_is_integer : ∀ (kV doc pm : Value) (an : Option Addr) (cdv ct : Value) (us : List Value), us.length = p_law_is_integer.length → bindArgs (PySem.W.fnOf (Str.ofString "_law_is_integer") (Str.ofString "_law_is_integer") (defArgs s_law_is_integer) (defBody s_law_is_integer) (defScope s_law_is_integer) .none kV doc pm an cdv ct) ⟨us, []⟩ = pure (p_law_is_integer.zip us) := fun _ _ _ _ _ _ us hl => match us, hl with | [_], _ => rfl
theorem a_law_box : ∀ (kV doc pm : Value) (an : Option Addr) (cdv ct : Value) (us : List Value), us.length = p_law_box.length → bindArgs (PySem.W.fnOf (Str.ofString "_law_box") (Str.ofString "_law_box") (defArgs s_law_box) (defBody s_law_box) (defScope s_law_box) .none kV doc pm an cdv ct) ⟨us, []⟩ = pure (p_law_box.zip us) := fun _ _ _ _ _ _ us hl => match us, hl with | [_, _], _ => rfl
theorem a_law_word : ∀ (kV doc pm : Value) (an : Option Addr) (cdv ct : Value) (us : List Value), us.length = p_law_word.length → bindArgs (PySem.W.fnOf (Str.ofString "_law_word") (Str.ofString "_law_word") (defArgs s_law_word) (defBody s_law_word) (defScope s_law_word) .none kV doc pm an cdv ct) ⟨us, []⟩ = pure (p_law_word.zip us) := fun _ _ _ _ _ _ us hl => match us, hl with | [_], _ => rfl
theorem a_law_block : ∀ (kV doc pm : Value) (an : Option Addr) (cdv ct : Value) (us : List Value), us.length = p_law_block.length → bindArgs (PySem.W.fnOf (Str.ofString "_law_block") (Str.ofString "_law_block") (defArgs s_law_block) (defBody s_law_block) (defScope s_law_block) .none kV doc pm an cdv ct) ⟨us, []⟩ = pure (p_law_block.zip us) := fun _ _ _ _ _ _ us hl => match us, hl with | [_, _, _, _, _], _ => rfl
theorem a_law_weight : ∀ (kV doc pm : Value) (an : Option Addr) (cdv ct : Value) (us : List Value), us.length = p_law_weight.length → bindArgs (PySem.W.fnOf (Str.ofString "_law_weight") (Str.ofString "_law_weight") (defArgs s_law_weight) (defBody s_law_weight) (defScope s_law_weight) .none kV doc pm an cdv ct) ⟨us, []⟩ = pure (p_law_weight.zip us) := fun _ _ _ _ _ _ us hl => match us, hl with | [_, _], _ => rfl
theorem a_law_count : ∀ (kV doc pm : Value) (an : Option Addr) (cdv ct : Value) (us : List Value), us.length = p_law_count.length → bindArgs (PySem.W.fnOf (Str.ofString "_law_count") (Str.ofString "_law_count") (defArgs s_law_count) (defBody s_law_count) (defScope s_law_count) .none kV doc pm an cdv ct) ⟨us, []⟩ = pure (p_law_count.zip us) := fun _ _ _ _ _ _ us hl => match us, hl with | [_], _ => rfl
theorem a_law_same : ∀ (kV doc pm : Value) (an : Option Addr) (cdv ct : Value) (us : List Value), us.length = p_law_same.length → bindArgs (PySem.W.fnOf (Str.ofString "_law_same") (Str.ofString "_law_same") (defArgs s_law_same) (defBody s_law_same) (defScope s_law_same) .none kV doc pm an cdv ct) ⟨us, []⟩ = pure (p_law_same.zip us) := fun _ _ _ _ _ _ us hl => match us, hl with | [_, _], _ => rfl
theorem a_law_program : ∀ (kV doc pm : Value) (an : Option Addr) (cdv ct : Value) (us : List Value), us.length = p_law_program.length → bindArgs (PySem.W.fnOf (Str.ofString "_law_program") (Str.ofString "_law_program") (defArgs s_law_program) (defBody s_law_program) (defScope s_law_program) .none kV doc pm an cdv ct) ⟨us, []⟩ = pure (p_law_program.zip us) := fun _ _ _ _ _ _ us hl => match us, hl with | [_, _, _, _, _], _ => rfl
theorem a_is_word : ∀ (kV doc pm : Value) (an : Option Addr) (cdv ct : Value) (us : List Value), us.length = p_is_word.length → bindArgs (PySem.W.fnOf (Str.ofString "is_word") (Str.ofString "is_word") (defArgs s_is_word) (defBody s_is_word) (defScope s_is_word) .none kV doc pm an cdv ct) ⟨us, []⟩ = pure (p_is_word.zip us) := fun _ _ _ _ _ _ us hl => match us, hl with | [_], _ => rfl
theorem a_is_statement : ∀ (kV doc pm : Value) (an : Option Addr) (cdv ct : Value) (us : List Value), us.length = p_is_statement.length → bindArgs (PySem.W.fnOf (Str.ofString "is_statement") (Str.ofString "is_statement") (defArgs s_is_statement) (defBody s_is_statement) (defScope s_is_statement) .none kV doc pm an cdv ct) ⟨us, []⟩ = pure (p_is_statement.zip us) := fun _ _ _ _ _ _ us hl => match us, hl with | [_, _, _], _ => rfl
theorem a_blocks_of : ∀ (kV doc pm : Value) (an : Option Addr) (cdv ct : Value) (us : List Value), us.length = p_blocks_of.length → bindArgs (PySem.W.fnOf (Str.ofString "blocks_of") (Str.ofString "blocks_of") (defArgs s_blocks_of) (defBody s_blocks_of) (defScope s_blocks_of) .none kV doc pm an cdv ct) ⟨us, []⟩ = pure (p_blocks_of.zip us) := fun _ _ _ _ _ _ us hl => match us, hl with | [_], _ => rfl
theorem a_all_statements : ∀ (kV doc pm : Value) (an : Option Addr) (cdv ct : Value) (us : List Value), us.length = p_all_statements.length → bindArgs (PySem.W.fnOf (Str.ofString "all_statements") (Str.ofString "all_statements") (defArgs s_all_statements) (defBody s_all_statements) (defScope s_all_statements) .none kV doc pm an cdv ct) ⟨us, []⟩ = pure (p_all_statements.zip us) := fun _ _ _ _ _ _ us hl => match us, hl with | [_], _ => rfl
theorem a_depth_of : ∀ (kV doc pm : Value) (an : Option Addr) (cdv ct : Value) (us : List Value), us.length = p_depth_of.length → bindArgs (PySem.W.fnOf (Str.ofString "depth_of") (Str.ofString "depth_of") (defArgs s_depth_of) (defBody s_depth_of) (defScope s_depth_of) .none kV doc pm an cdv ct) ⟨us, []⟩ = pure (p_depth_of.zip us) := fun _ _ _ _ _ _ us hl => match us, hl with | [_], _ => rfl
theorem a_block_size : ∀ (kV doc pm : Value) (an : Option Addr) (cdv ct : Value) (us : List Value), us.length = p_block_size.length → bindArgs (PySem.W.fnOf (Str.ofString "block_size") (Str.ofString "block_size") (defArgs s_block_size) (defBody s_block_size) (defScope s_block_size) .none kV doc pm an cdv ct) ⟨us, []⟩ = pure (p_block_size.zip us) := fun _ _ _ _ _ _ us hl => match us, hl with | [_, _], _ => rfl
theorem a_are_bodies : ∀ (kV doc pm : Value) (an : Option Addr) (cdv ct : Value) (us : List Value), us.length = p_are_bodies.length → bindArgs (PySem.W.fnOf (Str.ofString "are_bodies") (Str.ofString "are_bodies") (defArgs s_are_bodies) (defBody s_are_bodies) (defScope s_are_bodies) .none kV doc pm an cdv ct) ⟨us, []⟩ = pure (p_are_bodies.zip us) := fun _ _ _ _ _ _ us hl => match us, hl with | [_, _], _ => rfl
theorem a_body_sizes : ∀ (kV doc pm : Value) (an : Option Addr) (cdv ct : Value) (us : List Value), us.length = p_body_sizes.length → bindArgs (PySem.W.fnOf (Str.ofString "body_sizes") (Str.ofString "body_sizes") (defArgs s_body_sizes) (defBody s_body_sizes) (defScope s_body_sizes) .none kV doc pm an cdv ct) ⟨us, []⟩ = pure (p_body_sizes.zip us) := fun _ _ _ _ _ _ us hl => match us, hl with | [_], _ => rfl
theorem a_check_program : ∀ (kV doc pm : Value) (an : Option Addr) (cdv ct : Value) (us : List Value), us.length = p_check_program.length → bindArgs (PySem.W.fnOf (Str.ofString "check_program") (Str.ofString "check_program") (defArgs s_check_program) (defBody s_check_program) (defScope s_check_program) .none kV doc pm an cdv ct) ⟨us, []⟩ = pure (p_check_program.zip us) := fun _ _ _ _ _ _ us hl => match us, hl with | [_], _ => rfl
theorem a_law_all : ∀ (kV doc pm : Value) (an : Option Addr) (cdv ct : Value) (us : List Value), us.length = p_law_all.length → bindArgs (PySem.W.fnOf (Str.ofString "_law_all") (Str.ofString "_law_all") (defArgs s_law_all) (defBody s_law_all) (defScope s_law_all) .none kV doc pm an cdv ct) ⟨us, []⟩ = pure (p_law_all.zip us) := fun _ _ _ _ _ _ us hl => match us, hl with | [_], _ => rfl
theorem a_law_deep : ∀ (kV doc pm : Value) (an : Option Addr) (cdv ct : Value) (us : List Value), us.length = p_law_deep.length → bindArgs (PySem.W.fnOf (Str.ofString "_law_deep") (Str.ofString "_law_deep") (defArgs s_law_deep) (defBody s_law_deep) (defScope s_law_deep) .none kV doc pm an cdv ct) ⟨us, []⟩ = pure (p_law_deep.zip us) := fun _ _ _ _ _ _ us hl => match us, hl with | [_], _ => rfl
theorem a_law_is_word : ∀ (kV doc pm : Value) (an : Option Addr) (cdv ct : Value) (us : List Value), us.length = p_law_is_word.length → bindArgs (PySem.W.fnOf (Str.ofString "_law_is_word") (Str.ofString "_law_is_word") (defArgs s_law_is_word) (defBody s_law_is_word) (defScope s_law_is_word) .none kV doc pm an cdv ct) ⟨us, []⟩ = pure (p_law_is_word.zip us) := fun _ _ _ _ _ _ us hl => match us, hl with | [_], _ => rfl
theorem a_law_is_item : ∀ (kV doc pm : Value) (an : Option Addr) (cdv ct : Value) (us : List Value), us.length = p_law_is_item.length → bindArgs (PySem.W.fnOf (Str.ofString "_law_is_item") (Str.ofString "_law_is_item") (defArgs s_law_is_item) (defBody s_law_is_item) (defScope s_law_is_item) .none kV doc pm an cdv ct) ⟨us, []⟩ = pure (p_law_is_item.zip us) := fun _ _ _ _ _ _ us hl => match us, hl with | [_, _, _], _ => rfl
theorem a_law_are_bodies : ∀ (kV doc pm : Value) (an : Option Addr) (cdv ct : Value) (us : List Value), us.length = p_law_are_bodies.length → bindArgs (PySem.W.fnOf (Str.ofString "_law_are_bodies") (Str.ofString "_law_are_bodies") (defArgs s_law_are_bodies) (defBody s_law_are_bodies) (defScope s_law_are_bodies) .none kV doc pm an cdv ct) ⟨us, []⟩ = pure (p_law_are_bodies.zip us) := fun _ _ _ _ _ _ us hl => match us, hl with | [_, _], _ => rfl
theorem a_law_measure : ∀ (kV doc pm : Value) (an : Option Addr) (cdv ct : Value) (us : List Value), us.length = p_law_measure.length → bindArgs (PySem.W.fnOf (Str.ofString "_law_measure") (Str.ofString "_law_measure") (defArgs s_law_measure) (defBody s_law_measure) (defScope s_law_measure) .none kV doc pm an cdv ct) ⟨us, []⟩ = pure (p_law_measure.zip us) := fun _ _ _ _ _ _ us hl => match us, hl with | [_, _], _ => rfl
theorem a_law_sizes : ∀ (kV doc pm : Value) (an : Option Addr) (cdv ct : Value) (us : List Value), us.length = p_law_sizes.length → bindArgs (PySem.W.fnOf (Str.ofString "_law_sizes") (Str.ofString "_law_sizes") (defArgs s_law_sizes) (defBody s_law_sizes) (defScope s_law_sizes) .none kV doc pm an cdv ct) ⟨us, []⟩ = pure (p_law_sizes.zip us) := fun _ _ _ _ _ _ us hl => match us, hl with | [_], _ => rfl
theorem a_law_is_program : ∀ (kV doc pm : Value) (an : Option Addr) (cdv ct : Value) (us : List Value), us.length = p_law_is_program.length → bindArgs (PySem.W.fnOf (Str.ofString "_law_is_program") (Str.ofString "_law_is_program") (defArgs s_law_is_program) (defBody s_law_is_program) (defScope s_law_is_program) .none kV doc pm an cdv ct) ⟨us, []⟩ = pure (p_law_is_program.zip us) := fun _ _ _ _ _ _ us hl => match us, hl with | [_], _ => rfl
theorem a_law_with : ∀ (kV doc pm : Value) (an : Option Addr) (cdv ct : Value) (us : List Value), us.length = p_law_with.length → bindArgs (PySem.W.fnOf (Str.ofString "_law_with") (Str.ofString "_law_with") (defArgs s_law_with) (defBody s_law_with) (defScope s_law_with) .none kV doc pm an cdv ct) ⟨us, []⟩ = pure (p_law_with.zip us) := fun _ _ _ _ _ _ us hl => match us, hl with | [_, _, _], _ => rfl
theorem a_law_bent : ∀ (kV doc pm : Value) (an : Option Addr) (cdv ct : Value) (us : List Value), us.length = p_law_bent.length → bindArgs (PySem.W.fnOf (Str.ofString "_law_bent") (Str.ofString "_law_bent") (defArgs s_law_bent) (defBody s_law_bent) (defScope s_law_bent) .none kV doc pm an cdv ct) ⟨us, []⟩ = pure (p_law_bent.zip us) := fun _ _ _ _ _ _ us hl => match us, hl with | [_, _], _ => rfl
theorem a_law_asked : ∀ (kV doc pm : Value) (an : Option Addr) (cdv ct : Value) (us : List Value), us.length = p_law_asked.length → bindArgs (PySem.W.fnOf (Str.ofString "_law_asked") (Str.ofString "_law_asked") (defArgs s_law_asked) (defBody s_law_asked) (defScope s_law_asked) .none kV doc pm an cdv ct) ⟨us, []⟩ = pure (p_law_asked.zip us) := fun _ _ _ _ _ _ us hl => match us, hl with | [_, _], _ => rfl
theorem a_law : ∀ (kV doc pm : Value) (an : Option Addr) (cdv ct : Value) (us : List Value), us.length = p_law.length → bindArgs (PySem.W.fnOf (Str.ofString "law") (Str.ofString "law") (defArgs s_law) (defBody s_law) (defScope s_law) .none kV doc pm an cdv ct) ⟨us, []⟩ = pure (p_law.zip us) := fun _ _ _ _ _ _ us hl => match us, hl with | [_], _ => rfl
def blts : List String := ["all", "bool", "int", "isinstance", "len", "max", "range", "reversed", "str", "tuple"]
structure Defs (K : PySem.W.Frag) (mg : Str → Option Value) (xTickError xBadProgram xBadContext xBadFrame kk_is_word kk_are_bodies tt_is_word tt_are_bodies y_check_program : Addr) : Prop where
  d_law_cell : Df K mg (Str.ofString "_law_cell") s_law_cell p_law_cell
  d_law_digits : Df K mg (Str.ofString "_law_digits") s_law_digits p_law_digits
  d_law_draw : Df K mg (Str.ofString "_law_draw") s_law_draw p_law_draw
  d_law_is_integer : Df K mg (Str.ofString "_law_is_integer") s_law_is_integer p_law_is_integer
  d_law_box : Df K mg (Str.ofString "_law_box") s_law_box p_law_box
  d_law_word : Df K mg (Str.ofString "_law_word") s_law_word p_law_word
  d_law_block : Df K mg (Str.ofString "_law_block") s_law_block p_law_block
  d_law_weight : Df K mg (Str.ofString "_law_weight") s_law_weight p_law_weight
  d_law_count : Df K mg (Str.ofString "_law_count") s_law_count p_law_count
  d_law_same : Df K mg (Str.ofString "_law_same") s_law_same p_law_same
  d_law_program : Df K mg (Str.ofString "_law_program") s_law_program p_law_program
  d_is_word : DfT K mg (Str.ofString "is_word") s_is_word p_is_word kk_is_word
  d_is_statement : Df K mg (Str.ofString "is_statement") s_is_statement p_is_statement
  d_blocks_of : Df K mg (Str.ofString "blocks_of") s_blocks_of p_blocks_of
  d_all_statements : Df K mg (Str.ofString "all_statements") s_all_statements p_all_statements
  d_depth_of : Df K mg (Str.ofString "depth_of") s_depth_of p_depth_of
  d_block_size : Df K mg (Str.ofString "block_size") s_block_size p_block_size
  d_are_bodies : DfT K mg (Str.ofString "are_bodies") s_are_bodies p_are_bodies kk_are_bodies
  d_body_sizes : Df K mg (Str.ofString "body_sizes") s_body_sizes p_body_sizes
  d_check_program : Df K mg (Str.ofString "check_program") s_check_program p_check_program
  d_law_all : Df K mg (Str.ofString "_law_all") s_law_all p_law_all
  d_law_deep : Df K mg (Str.ofString "_law_deep") s_law_deep p_law_deep
  d_law_is_word : Df K mg (Str.ofString "_law_is_word") s_law_is_word p_law_is_word
  d_law_is_item : Df K mg (Str.ofString "_law_is_item") s_law_is_item p_law_is_item
  d_law_are_bodies : Df K mg (Str.ofString "_law_are_bodies") s_law_are_bodies p_law_are_bodies
  d_law_measure : Df K mg (Str.ofString "_law_measure") s_law_measure p_law_measure
  d_law_sizes : Df K mg (Str.ofString "_law_sizes") s_law_sizes p_law_sizes
  d_law_is_program : Df K mg (Str.ofString "_law_is_program") s_law_is_program p_law_is_program
  d_law_with : Df K mg (Str.ofString "_law_with") s_law_with p_law_with
  d_law_bent : Df K mg (Str.ofString "_law_bent") s_law_bent p_law_bent
  d_law_asked : Df K mg (Str.ofString "_law_asked") s_law_asked p_law_asked
  d_law : Df K mg (Str.ofString "law") s_law p_law
  x_TickError : XF K mg "TickError" xTickError
  x_BadProgram : XF K mg "BadProgram" xBadProgram
  x_BadContext : XF K mg "BadContext" xBadContext
  x_BadFrame : XF K mg "BadFrame" xBadFrame
  e_TickError_TickError : PySem.W.exmOne K (.ref xTickError) (.ref xTickError) = some true
  t_TickError_TickError : PySem.W.kitOne K (.ref xTickError) (.ref xTickError) = some true
  e_TickError_BadProgram : PySem.W.exmOne K (.ref xTickError) (.ref xBadProgram) = some false
  t_TickError_BadProgram : PySem.W.kitOne K (.ref xTickError) (.ref xBadProgram) = some false
  e_TickError_BadContext : PySem.W.exmOne K (.ref xTickError) (.ref xBadContext) = some false
  t_TickError_BadContext : PySem.W.kitOne K (.ref xTickError) (.ref xBadContext) = some false
  e_TickError_BadFrame : PySem.W.exmOne K (.ref xTickError) (.ref xBadFrame) = some false
  t_TickError_BadFrame : PySem.W.kitOne K (.ref xTickError) (.ref xBadFrame) = some false
  e_BadProgram_TickError : PySem.W.exmOne K (.ref xBadProgram) (.ref xTickError) = some true
  t_BadProgram_TickError : PySem.W.kitOne K (.ref xBadProgram) (.ref xTickError) = some true
  e_BadProgram_BadProgram : PySem.W.exmOne K (.ref xBadProgram) (.ref xBadProgram) = some true
  t_BadProgram_BadProgram : PySem.W.kitOne K (.ref xBadProgram) (.ref xBadProgram) = some true
  e_BadProgram_BadContext : PySem.W.exmOne K (.ref xBadProgram) (.ref xBadContext) = some false
  t_BadProgram_BadContext : PySem.W.kitOne K (.ref xBadProgram) (.ref xBadContext) = some false
  e_BadProgram_BadFrame : PySem.W.exmOne K (.ref xBadProgram) (.ref xBadFrame) = some false
  t_BadProgram_BadFrame : PySem.W.kitOne K (.ref xBadProgram) (.ref xBadFrame) = some false
  e_BadContext_TickError : PySem.W.exmOne K (.ref xBadContext) (.ref xTickError) = some true
  t_BadContext_TickError : PySem.W.kitOne K (.ref xBadContext) (.ref xTickError) = some true
  e_BadContext_BadProgram : PySem.W.exmOne K (.ref xBadContext) (.ref xBadProgram) = some false
  t_BadContext_BadProgram : PySem.W.kitOne K (.ref xBadContext) (.ref xBadProgram) = some false
  e_BadContext_BadContext : PySem.W.exmOne K (.ref xBadContext) (.ref xBadContext) = some true
  t_BadContext_BadContext : PySem.W.kitOne K (.ref xBadContext) (.ref xBadContext) = some true
  e_BadContext_BadFrame : PySem.W.exmOne K (.ref xBadContext) (.ref xBadFrame) = some false
  t_BadContext_BadFrame : PySem.W.kitOne K (.ref xBadContext) (.ref xBadFrame) = some false
  e_BadFrame_TickError : PySem.W.exmOne K (.ref xBadFrame) (.ref xTickError) = some true
  t_BadFrame_TickError : PySem.W.kitOne K (.ref xBadFrame) (.ref xTickError) = some true
  e_BadFrame_BadProgram : PySem.W.exmOne K (.ref xBadFrame) (.ref xBadProgram) = some false
  t_BadFrame_BadProgram : PySem.W.kitOne K (.ref xBadFrame) (.ref xBadProgram) = some false
  e_BadFrame_BadContext : PySem.W.exmOne K (.ref xBadFrame) (.ref xBadContext) = some false
  t_BadFrame_BadContext : PySem.W.kitOne K (.ref xBadFrame) (.ref xBadContext) = some false
  e_BadFrame_BadFrame : PySem.W.exmOne K (.ref xBadFrame) (.ref xBadFrame) = some true
  t_BadFrame_BadFrame : PySem.W.kitOne K (.ref xBadFrame) (.ref xBadFrame) = some true
  g_check_program : mg (Str.ofString "check_program") = some (.ref y_check_program)
  q_check_program : ∃ u v, mg (Str.ofString "check_program") = some u ∧ RelV v u ∧ ∀ H, RT K H (.ref y_check_program) v
  q_WORD_SIGNS : ∃ u v, mg (Str.ofString "WORD_SIGNS") = some u ∧ RelV v u ∧ ∀ H, RT K H (.str "abcdefghijklmnopqrstuvwxyz0123456789") v
  q_VARIABLES : ∃ u v, mg (Str.ofString "VARIABLES") = some u ∧ RelV v u ∧ ∀ H, RT K H (.tup (["a", "b", "c", "d"].map T.str)) v
  q_MOST_BODIES : ∃ u v, mg (Str.ofString "MOST_BODIES") = some u ∧ RelV v u ∧ ∀ H, RT K H (.int 8) v
  q_MOST_STATEMENTS : ∃ u v, mg (Str.ofString "MOST_STATEMENTS") = some u ∧ RelV v u ∧ ∀ H, RT K H (.int 40) v
  q_MOST_DEPTH : ∃ u v, mg (Str.ofString "MOST_DEPTH") = some u ∧ RelV v u ∧ ∀ H, RT K H (.int 2) v
  q_MOST_COUNT : ∃ u v, mg (Str.ofString "MOST_COUNT") = some u ∧ RelV v u ∧ ∀ H, RT K H (.int 100) v
  q_MOST_SIZE : ∃ u v, mg (Str.ofString "MOST_SIZE") = some u ∧ RelV v u ∧ ∀ H, RT K H (.int 600) v
  blt : ∀ x ∈ blts, mg (Str.ofString x) = none
structure Tabs (mg : Str → Option Value) (base : Heap) (xTickError xBadProgram xBadContext xBadFrame kk_is_word kk_are_bodies tt_is_word tt_are_bodies y_check_program : Addr) : Prop where
  ok : True
  b_is_word : GxR.TabB base mg kk_is_word tt_is_word
  b_are_bodies : GxR.TabB base mg kk_are_bodies tt_are_bodies
def flds : List (String × String) := []
def sub0 (c C : String) : Bool := ([("TickError", "TickError"), ("BadProgram", "TickError"), ("BadProgram", "BadProgram"), ("BadContext", "TickError"), ("BadContext", "BadContext"), ("BadFrame", "TickError"), ("BadFrame", "BadFrame")] : List (String × String)).contains (c, C)
def cst0 (y_check_program : Addr) : List (String × T) := [("check_program", .ref y_check_program), ("WORD_SIGNS", .str "abcdefghijklmnopqrstuvwxyz0123456789"), ("VARIABLES", .tup (["a", "b", "c", "d"].map T.str)), ("MOST_BODIES", .int 8), ("MOST_STATEMENTS", .int 40), ("MOST_DEPTH", .int 2), ("MOST_COUNT", .int 100), ("MOST_SIZE", .int 600)]
abbrev S0 (xTickError xBadProgram xBadContext xBadFrame kk_is_word kk_are_bodies tt_is_word tt_are_bodies y_check_program : Addr) : Stc := gS [] [("TickError", xTickError), ("BadProgram", xBadProgram), ("BadContext", xBadContext), ("BadFrame", xBadFrame)] flds [tt_is_word, tt_are_bodies]
abbrev M0 (y_check_program : Addr) (l : List ((String × String) × Pr)) : Gm := gM l ["TickError", "BadProgram", "BadContext", "BadFrame"] sub0 (cst0 y_check_program) flds
section
variable {P : Program} {w : World} {K : PySem.W.Frag} {mg : Str → Option Value} {base : Heap} {xTickError xBadProgram xBadContext xBadFrame kk_is_word kk_are_bodies tt_is_word tt_are_bodies y_check_program : Addr}
theorem md (D : Defs K mg xTickError xBadProgram xBadContext xBadFrame kk_is_word kk_are_bodies tt_is_word tt_are_bodies y_check_program) (B : Tabs mg base xTickError xBadProgram xBadContext xBadFrame kk_is_word kk_are_bodies tt_is_word tt_are_bodies y_check_program) {l : List ((String × String) × Pr)} {k : Nat} {use blt : List String} (h : ∀ p ∈ l, Ent P w K mg base (S0 xTickError xBadProgram xBadContext xBadFrame kk_is_word kk_are_bodies tt_is_word tt_are_bodies y_check_program) k p) (hb : ∀ x ∈ blt, x ∈ blts) : MdOk P w K mg base (S0 xTickError xBadProgram xBadContext xBadFrame kk_is_word kk_are_bodies tt_is_word tt_are_bodies y_check_program) (M0 y_check_program l) k use blt := by
  exact g_md rfl h (allCons D.x_TickError (allCons D.x_BadProgram (allCons D.x_BadContext (allCons D.x_BadFrame allNil)))) (allCons (allCons ⟨D.e_TickError_TickError, D.t_TickError_TickError⟩ (allCons ⟨D.e_TickError_BadProgram, D.t_TickError_BadProgram⟩ (allCons ⟨D.e_TickError_BadContext, D.t_TickError_BadContext⟩ (allCons ⟨D.e_TickError_BadFrame, D.t_TickError_BadFrame⟩ allNil)))) (allCons (allCons ⟨D.e_BadProgram_TickError, D.t_BadProgram_TickError⟩ (allCons ⟨D.e_BadProgram_BadProgram, D.t_BadProgram_BadProgram⟩ (allCons ⟨D.e_BadProgram_BadContext, D.t_BadProgram_BadContext⟩ (allCons ⟨D.e_BadProgram_BadFrame, D.t_BadProgram_BadFrame⟩ allNil)))) (allCons (allCons ⟨D.e_BadContext_TickError, D.t_BadContext_TickError⟩ (allCons ⟨D.e_BadContext_BadProgram, D.t_BadContext_BadProgram⟩ (allCons ⟨D.e_BadContext_BadContext, D.t_BadContext_BadContext⟩ (allCons ⟨D.e_BadContext_BadFrame, D.t_BadContext_BadFrame⟩ allNil)))) (allCons (allCons ⟨D.e_BadFrame_TickError, D.t_BadFrame_TickError⟩ (allCons ⟨D.e_BadFrame_BadProgram, D.t_BadFrame_BadProgram⟩ (allCons ⟨D.e_BadFrame_BadContext, D.t_BadFrame_BadContext⟩ (allCons ⟨D.e_BadFrame_BadFrame, D.t_BadFrame_BadFrame⟩ allNil)))) allNil)))) (fun C hC => by simp at hC; rcases hC with rfl | rfl | rfl | rfl <;> exact ⟨_, rfl⟩) (allCons D.q_check_program (allCons D.q_WORD_SIGNS (allCons D.q_VARIABLES (allCons D.q_MOST_BODIES (allCons D.q_MOST_STATEMENTS (allCons D.q_MOST_DEPTH (allCons D.q_MOST_COUNT (allCons D.q_MOST_SIZE allNil)))))))) (fun x hx => D.blt x (hb x hx)) allNil
theorem law_md (D : Defs K mg xTickError xBadProgram xBadContext xBadFrame kk_is_word kk_are_bodies tt_is_word tt_are_bodies y_check_program) (B : Tabs mg base xTickError xBadProgram xBadContext xBadFrame kk_is_word kk_are_bodies tt_is_word tt_are_bodies y_check_program) : MdOk P w K mg base (S0 xTickError xBadProgram xBadContext xBadFrame kk_is_word kk_are_bodies tt_is_word tt_are_bodies y_check_program) (M0 y_check_program [(("", "_law_program"), spProg), (("", "_law_box"), spBox), (("", "_law_bent"), spBent), (("", "_law_is_program"), spIsP 6), (("", "_law_same"), spSame (VD 2)), (("", "_law_asked"), spAsked y_check_program 6), (("", "check_program"), spCheckP 6)]) 11 u_law b_law := by
  have hcell : Dn P w K mg base (S0 xTickError xBadProgram xBadContext xBadFrame kk_is_word kk_are_bodies tt_is_word tt_are_bodies y_check_program) 1 "_law_cell" (spCell) := by
    refine dn D.d_law_cell f_law_cell k_law_cell (md D B (l := []) (k := 0) allNil (by decide)) (fun _ _ _ _ ⟨_, _, e, _⟩ => by subst e; rfl) ?w
    case w => exact w_cell
  have hdig : Dn P w K mg base (S0 xTickError xBadProgram xBadContext xBadFrame kk_is_word kk_are_bodies tt_is_word tt_are_bodies y_check_program) 1 "_law_digits" (spDigits) := by
    refine dn D.d_law_digits f_law_digits k_law_digits (md D B (l := []) (k := 0) allNil (by decide)) (fun _ _ _ _ ⟨_, _, e, _⟩ => by subst e; rfl) ?w
    case w => exact w_digits
  have hdraw : Dn P w K mg base (S0 xTickError xBadProgram xBadContext xBadFrame kk_is_word kk_are_bodies tt_is_word tt_are_bodies y_check_program) 1 "_law_draw" (spDraw) := by
    refine dn D.d_law_draw f_law_draw k_law_draw (md D B (l := []) (k := 0) allNil (by decide)) (fun _ _ _ _ ⟨_, _, _, e, _⟩ => by subst e; rfl) ?w
    case w => exact w_draw
  have hint : Dn P w K mg base (S0 xTickError xBadProgram xBadContext xBadFrame kk_is_word kk_are_bodies tt_is_word tt_are_bodies y_check_program) 1 "_law_is_integer" (spIsInt) := by
    refine dn D.d_law_is_integer f_law_is_integer k_law_is_integer (md D B (l := []) (k := 0) allNil (by decide)) (fun _ _ _ _ ⟨_, e, _⟩ => by subst e; rfl) ?w
    case w => exact w_is_integer
  have hbox : Dn P w K mg base (S0 xTickError xBadProgram xBadContext xBadFrame kk_is_word kk_are_bodies tt_is_word tt_are_bodies y_check_program) 2 "_law_box" (spBox) := by
    refine dn D.d_law_box f_law_box k_law_box (md D B (l := [(("", "_law_cell"), spCell), (("", "_law_digits"), spDigits)]) (k := 1) (allCons (Ent.fn (by decide) hcell (by omega)) (allCons (Ent.fn (by decide) hdig (by omega)) allNil)) (by decide)) (fun _ _ _ _ ⟨_, _, e, _⟩ => by subst e; rfl) ?w
    case w => exact w_box (by rfl) (by rfl)
  have hword : Dn P w K mg base (S0 xTickError xBadProgram xBadContext xBadFrame kk_is_word kk_are_bodies tt_is_word tt_are_bodies y_check_program) 2 "_law_word" (spWord) := by
    refine dn D.d_law_word f_law_word k_law_word (md D B (l := [(("", "_law_draw"), spDraw)]) (k := 1) (allCons (Ent.fn (by decide) hdraw (by omega)) allNil) (by decide)) (fun _ _ _ _ ⟨_, _, e, _⟩ => by subst e; rfl) ?w
    case w => exact w_word (by rfl)
  have hblk : ∀ d, Dn P w K mg base (S0 xTickError xBadProgram xBadContext xBadFrame kk_is_word kk_are_bodies tt_is_word tt_are_bodies y_check_program) (2 + d) "_law_block" (spBlk d) := by
    intro d
    induction d with
    | zero => exact dn0 D.d_law_block (fun _ _ _ _ h => h)
    | succ d ih =>
      refine dn D.d_law_block f_law_block k_law_block (md D B (l := [(("", "_law_block"), spBlk d), (("", "_law_draw"), spDraw), (("", "_law_word"), spWord)]) (k := 2 + d) (allCons (Ent.fn (by decide) ih (by omega)) (allCons (Ent.fn (by decide) hdraw (by omega)) (allCons (Ent.fn (by decide) hword (by omega)) allNil))) (by decide)) (fun _ _ _ _ ⟨_, _, _, _, _, e, _⟩ => by subst e; rfl) ?w
      case w => exact w_block (n := d) (by rfl) (by rfl) (by rfl)
  have hwt : ∀ d, Dn P w K mg base (S0 xTickError xBadProgram xBadContext xBadFrame kk_is_word kk_are_bodies tt_is_word tt_are_bodies y_check_program) (0 + d) "_law_weight" (spSz 1 d) := by
    intro d
    induction d with
    | zero => exact dn0 D.d_law_weight (fun _ _ _ _ ⟨_, _, _, _, _, _, h, _⟩ => h)
    | succ d ih =>
      refine dn D.d_law_weight f_law_weight k_law_weight (md D B (l := [(("", "_law_weight"), spSz 1 d)]) (k := 0 + d) (allCons (Ent.fn (by decide) ih (by omega)) allNil) (by decide)) (fun _ _ _ _ ⟨_, _, _, e, _⟩ => by subst e; rfl) ?w
      case w => exact w_law_weight (by rfl)
  have hcnt : ∀ d, Dn P w K mg base (S0 xTickError xBadProgram xBadContext xBadFrame kk_is_word kk_are_bodies tt_is_word tt_are_bodies y_check_program) (0 + d) "_law_count" (spCnt d) := by
    intro d
    induction d with
    | zero => exact dn0 D.d_law_count (fun _ _ _ _ ⟨_, _, h, _⟩ => h)
    | succ d ih =>
      refine dn D.d_law_count f_law_count k_law_count (md D B (l := [(("", "_law_count"), spCnt d)]) (k := 0 + d) (allCons (Ent.fn (by decide) ih (by omega)) allNil) (by decide)) (fun _ _ _ _ ⟨_, e, _⟩ => by subst e; rfl) ?w
      case w => exact w_count (by rfl)
  have hsame : ∀ d, Dn P w K mg base (S0 xTickError xBadProgram xBadContext xBadFrame kk_is_word kk_are_bodies tt_is_word tt_are_bodies y_check_program) (1 + d) "_law_same" (spSame (VD d)) := by
    intro d
    induction d with
    | zero => exact dn0 D.d_law_same (fun _ _ _ _ ⟨_, _, h, _⟩ => h)
    | succ d ih =>
      refine dn D.d_law_same f_law_same k_law_same (md D B (l := [(("", "_law_same"), spSame (VD d)), (("", "_law_is_integer"), spIsInt)]) (k := 1 + d) (allCons (Ent.fn (by decide) ih (by omega)) (allCons (Ent.fn (by decide) hint (by omega)) allNil)) (by decide)) (fun _ _ _ _ ⟨_, e, _⟩ => by subst e; rfl) ?w
      case w => exact w_same (by rfl) (by rfl)
  have hpr : Dn P w K mg base (S0 xTickError xBadProgram xBadContext xBadFrame kk_is_word kk_are_bodies tt_is_word tt_are_bodies y_check_program) 6 "_law_program" (spProg) := by
    refine dn D.d_law_program f_law_program k_law_program (md D B (l := [(("", "_law_box"), spBox), (("", "_law_draw"), spDraw), (("", "_law_block"), spBlk 3), (("", "_law_weight"), spSz 1 3), (("", "_law_count"), spCnt 3)]) (k := 5) (allCons (Ent.fn (by decide) hbox (by omega)) (allCons (Ent.fn (by decide) hdraw (by omega)) (allCons (Ent.fn (by decide) (hblk 3) (by omega)) (allCons (Ent.fn (by decide) (hwt 3) (by omega)) (allCons (Ent.fn (by decide) (hcnt 3) (by omega)) allNil))))) (by decide)) (fun _ _ _ _ ⟨_, _, _, _, _, e, _⟩ => by subst e; rfl) ?w
    case w => exact w_program (by rfl) (by rfl) (by rfl) (by rfl) (by rfl)
  have hisw : Dn P w K mg base (S0 xTickError xBadProgram xBadContext xBadFrame kk_is_word kk_are_bodies tt_is_word tt_are_bodies y_check_program) 2 "is_word" (spIsW) := by
    refine dnT D.d_is_word B.b_is_word (by simp [gS]) f_is_word k_is_word (md D B (l := []) (k := 0) allNil (by decide)) (fun _ _ _ _ ⟨_, e, _⟩ => by subst e; rfl) ?w
    case w => exact w_is_word (by rfl)
  have hist : Dn P w K mg base (S0 xTickError xBadProgram xBadContext xBadFrame kk_is_word kk_are_bodies tt_is_word tt_are_bodies y_check_program) 3 "is_statement" (spIsSt) := by
    refine dn D.d_is_statement f_is_statement k_is_statement (md D B (l := [(("", "is_word"), spIsW)]) (k := 2) (allCons (Ent.fn (by decide) hisw (by omega)) allNil) (by decide)) (fun _ _ _ _ ⟨_, _, _, e, _⟩ => by subst e; rfl) ?w
    case w => exact w_is_statement (by rfl) (by rfl) (by rfl)
  have hbo : Dn P w K mg base (S0 xTickError xBadProgram xBadContext xBadFrame kk_is_word kk_are_bodies tt_is_word tt_are_bodies y_check_program) 1 "blocks_of" (spBlocks) := by
    refine dn D.d_blocks_of f_blocks_of k_blocks_of (md D B (l := []) (k := 0) allNil (by decide)) (fun _ _ _ _ ⟨_, e, _⟩ => by subst e; rfl) ?w
    case w => exact w_blocks_of
  have has : ∀ d, Dn P w K mg base (S0 xTickError xBadProgram xBadContext xBadFrame kk_is_word kk_are_bodies tt_is_word tt_are_bodies y_check_program) (1 + d) "all_statements" (spAll d) := by
    intro d
    induction d with
    | zero => exact dn0 D.d_all_statements (fun _ _ _ _ ⟨_, _, h, _⟩ => h)
    | succ d ih =>
      refine dn D.d_all_statements f_all_statements k_all_statements (md D B (l := [(("", "all_statements"), spAll d), (("", "blocks_of"), spBlocks)]) (k := 1 + d) (allCons (Ent.fn (by decide) ih (by omega)) (allCons (Ent.fn (by decide) hbo (by omega)) allNil)) (by decide)) (fun _ _ _ _ ⟨_, e, _⟩ => by subst e; rfl) ?w
      case w => exact w_all_statements (by rfl) (by rfl)
  have hdo : ∀ d, Dn P w K mg base (S0 xTickError xBadProgram xBadContext xBadFrame kk_is_word kk_are_bodies tt_is_word tt_are_bodies y_check_program) (1 + d) "depth_of" (spDep d) := by
    intro d
    induction d with
    | zero => exact dn0 D.d_depth_of (fun _ _ _ _ ⟨_, _, h, _⟩ => h)
    | succ d ih =>
      refine dn D.d_depth_of f_depth_of k_depth_of (md D B (l := [(("", "depth_of"), spDep d), (("", "blocks_of"), spBlocks)]) (k := 1 + d) (allCons (Ent.fn (by decide) ih (by omega)) (allCons (Ent.fn (by decide) hbo (by omega)) allNil)) (by decide)) (fun _ _ _ _ ⟨_, e, _⟩ => by subst e; rfl) ?w
      case w => exact w_depth_of (by rfl) (by rfl)
  have hbs : ∀ d, Dn P w K mg base (S0 xTickError xBadProgram xBadContext xBadFrame kk_is_word kk_are_bodies tt_is_word tt_are_bodies y_check_program) (0 + d) "block_size" (spSz 0 d) := by
    intro d
    induction d with
    | zero => exact dn0 D.d_block_size (fun _ _ _ _ ⟨_, _, _, _, _, _, h, _⟩ => h)
    | succ d ih =>
      refine dn D.d_block_size f_block_size k_block_size (md D B (l := [(("", "block_size"), spSz 0 d)]) (k := 0 + d) (allCons (Ent.fn (by decide) ih (by omega)) allNil) (by decide)) (fun _ _ _ _ ⟨_, _, _, e, _⟩ => by subst e; rfl) ?w
      case w => exact w_block_size (by rfl)
  have hare : Dn P w K mg base (S0 xTickError xBadProgram xBadContext xBadFrame kk_is_word kk_are_bodies tt_is_word tt_are_bodies y_check_program) 9 "are_bodies" (spAre 6) := by
    refine dnT D.d_are_bodies B.b_are_bodies (by simp [gS]) f_are_bodies k_are_bodies (md D B (l := [(("", "all_statements"), spAll 6), (("", "depth_of"), spDep 6), (("", "is_statement"), spIsSt)]) (k := 7) (allCons (Ent.fn (by decide) (has 6) (by omega)) (allCons (Ent.fn (by decide) (hdo 6) (by omega)) (allCons (Ent.fn (by decide) hist (by omega)) allNil))) (by decide)) (fun _ _ _ _ ⟨_, _, e, _⟩ => by subst e; rfl) ?w
    case w => exact w_are_bodies (by rfl) (by rfl) (by rfl) (by rfl) (by rfl)
  have hbz : Dn P w K mg base (S0 xTickError xBadProgram xBadContext xBadFrame kk_is_word kk_are_bodies tt_is_word tt_are_bodies y_check_program) 7 "body_sizes" (spSizes 6) := by
    refine dn D.d_body_sizes f_body_sizes k_body_sizes (md D B (l := [(("", "block_size"), spSz 0 6)]) (k := 6) (allCons (Ent.fn (by decide) (hbs 6) (by omega)) allNil) (by decide)) (fun _ _ _ _ ⟨_, e, _⟩ => by subst e; rfl) ?w
    case w => exact w_body_sizes (by rfl)
  have hcp : Dn P w K mg base (S0 xTickError xBadProgram xBadContext xBadFrame kk_is_word kk_are_bodies tt_is_word tt_are_bodies y_check_program) 10 "check_program" (spCheckP 6) := by
    refine dn D.d_check_program f_check_program k_check_program (md D B (l := [(("", "are_bodies"), spAre 6), (("", "body_sizes"), spSizes 6)]) (k := 9) (allCons (Ent.fn (by decide) hare (by omega)) (allCons (Ent.fn (by decide) hbz (by omega)) allNil)) (by decide)) (fun _ _ _ _ ⟨_, e, _⟩ => by subst e; rfl) ?w
    case w => exact w_check_program (by rfl) (by rfl) (by rfl) (by rfl) (by rfl)
  have hal : ∀ d, Dn P w K mg base (S0 xTickError xBadProgram xBadContext xBadFrame kk_is_word kk_are_bodies tt_is_word tt_are_bodies y_check_program) (0 + d) "_law_all" (spAll d) := by
    intro d
    induction d with
    | zero => exact dn0 D.d_law_all (fun _ _ _ _ ⟨_, _, h, _⟩ => h)
    | succ d ih =>
      refine dn D.d_law_all f_law_all k_law_all (md D B (l := [(("", "_law_all"), spAll d)]) (k := 0 + d) (allCons (Ent.fn (by decide) ih (by omega)) allNil) (by decide)) (fun _ _ _ _ ⟨_, e, _⟩ => by subst e; rfl) ?w
      case w => exact w_law_all (by rfl)
  have hde : ∀ d, Dn P w K mg base (S0 xTickError xBadProgram xBadContext xBadFrame kk_is_word kk_are_bodies tt_is_word tt_are_bodies y_check_program) (0 + d) "_law_deep" (spDep d) := by
    intro d
    induction d with
    | zero => exact dn0 D.d_law_deep (fun _ _ _ _ ⟨_, _, h, _⟩ => h)
    | succ d ih =>
      refine dn D.d_law_deep f_law_deep k_law_deep (md D B (l := [(("", "_law_deep"), spDep d)]) (k := 0 + d) (allCons (Ent.fn (by decide) ih (by omega)) allNil) (by decide)) (fun _ _ _ _ ⟨_, e, _⟩ => by subst e; rfl) ?w
      case w => exact w_law_deep (by rfl)
  have hiw : Dn P w K mg base (S0 xTickError xBadProgram xBadContext xBadFrame kk_is_word kk_are_bodies tt_is_word tt_are_bodies y_check_program) 1 "_law_is_word" (spIsWE) := by
    refine dn D.d_law_is_word f_law_is_word k_law_is_word (md D B (l := []) (k := 0) allNil (by decide)) (fun _ _ _ _ ⟨_, e, _⟩ => by subst e; rfl) ?w
    case w => exact w_law_is_word
  have hii : Dn P w K mg base (S0 xTickError xBadProgram xBadContext xBadFrame kk_is_word kk_are_bodies tt_is_word tt_are_bodies y_check_program) 2 "_law_is_item" (spIsStE) := by
    refine dn D.d_law_is_item f_law_is_item k_law_is_item (md D B (l := [(("", "_law_is_word"), spIsWE)]) (k := 1) (allCons (Ent.fn (by decide) hiw (by omega)) allNil) (by decide)) (fun _ _ _ _ ⟨_, _, _, e, _⟩ => by subst e; rfl) ?w
    case w => exact w_law_is_item (by rfl)
  have hab : Dn P w K mg base (S0 xTickError xBadProgram xBadContext xBadFrame kk_is_word kk_are_bodies tt_is_word tt_are_bodies y_check_program) 7 "_law_are_bodies" (spAre 6) := by
    refine dn D.d_law_are_bodies f_law_are_bodies k_law_are_bodies (md D B (l := [(("", "_law_all"), spAll 6), (("", "_law_deep"), spDep 6), (("", "_law_is_item"), spIsStE)]) (k := 6) (allCons (Ent.fn (by decide) (hal 6) (by omega)) (allCons (Ent.fn (by decide) (hde 6) (by omega)) (allCons (Ent.fn (by decide) hii (by omega)) allNil))) (by decide)) (fun _ _ _ _ ⟨_, _, e, _⟩ => by subst e; rfl) ?w
    case w => exact w_law_are_bodies (by rfl) (by rfl) (by rfl)
  have hme : ∀ d, Dn P w K mg base (S0 xTickError xBadProgram xBadContext xBadFrame kk_is_word kk_are_bodies tt_is_word tt_are_bodies y_check_program) (0 + d) "_law_measure" (spSz 0 d) := by
    intro d
    induction d with
    | zero => exact dn0 D.d_law_measure (fun _ _ _ _ ⟨_, _, _, _, _, _, h, _⟩ => h)
    | succ d ih =>
      refine dn D.d_law_measure f_law_measure k_law_measure (md D B (l := [(("", "_law_measure"), spSz 0 d)]) (k := 0 + d) (allCons (Ent.fn (by decide) ih (by omega)) allNil) (by decide)) (fun _ _ _ _ ⟨_, _, _, e, _⟩ => by subst e; rfl) ?w
      case w => exact w_law_measure (by rfl)
  have hsz : Dn P w K mg base (S0 xTickError xBadProgram xBadContext xBadFrame kk_is_word kk_are_bodies tt_is_word tt_are_bodies y_check_program) 7 "_law_sizes" (spSizesL 6) := by
    refine dn D.d_law_sizes f_law_sizes k_law_sizes (md D B (l := [(("", "_law_measure"), spSz 0 6)]) (k := 6) (allCons (Ent.fn (by decide) (hme 6) (by omega)) allNil) (by decide)) (fun _ _ _ _ ⟨_, e, _⟩ => by subst e; rfl) ?w
    case w => exact w_law_sizes (by rfl)
  have hip : Dn P w K mg base (S0 xTickError xBadProgram xBadContext xBadFrame kk_is_word kk_are_bodies tt_is_word tt_are_bodies y_check_program) 8 "_law_is_program" (spIsP 6) := by
    refine dn D.d_law_is_program f_law_is_program k_law_is_program (md D B (l := [(("", "_law_are_bodies"), spAre 6), (("", "_law_sizes"), spSizesL 6)]) (k := 7) (allCons (Ent.fn (by decide) hab (by omega)) (allCons (Ent.fn (by decide) hsz (by omega)) allNil)) (by decide)) (fun _ _ _ _ ⟨_, e, _⟩ => by subst e; rfl) ?w
    case w => exact w_law_is_program (by rfl) (by rfl)
  have hwi : Dn P w K mg base (S0 xTickError xBadProgram xBadContext xBadFrame kk_is_word kk_are_bodies tt_is_word tt_are_bodies y_check_program) 1 "_law_with" (spLWith) := by
    refine dn D.d_law_with f_law_with k_law_with (md D B (l := []) (k := 0) allNil (by decide)) (fun _ _ _ _ ⟨_, _, _, e, _⟩ => by subst e; rfl) ?w
    case w => exact w_with
  have hbe : Dn P w K mg base (S0 xTickError xBadProgram xBadContext xBadFrame kk_is_word kk_are_bodies tt_is_word tt_are_bodies y_check_program) 7 "_law_bent" (spBent) := by
    refine dn D.d_law_bent f_law_bent k_law_bent (md D B (l := [(("", "_law_draw"), spDraw), (("", "_law_with"), spLWith), (("", "_law_all"), spAll 6)]) (k := 6) (allCons (Ent.fn (by decide) hdraw (by omega)) (allCons (Ent.fn (by decide) hwi (by omega)) (allCons (Ent.fn (by decide) (hal 6) (by omega)) allNil))) (by decide)) (fun _ _ _ _ ⟨_, _, _, e, _⟩ => by subst e; rfl) ?w
    case w => exact w_bent (by rfl) (by rfl) (by rfl)
  have hask : Dn P w K mg base (S0 xTickError xBadProgram xBadContext xBadFrame kk_is_word kk_are_bodies tt_is_word tt_are_bodies y_check_program) 11 "_law_asked" (spAsked y_check_program 6) := by
    refine dn D.d_law_asked f_law_asked k_law_asked ((md D B (l := []) (k := 10) allNil (by decide)).fvx (fl := [(y_check_program, spCheckP 6)]) (allCons ⟨"check_program", D.g_check_program, hcp.mono (by omega)⟩ allNil)) (fun _ _ _ _ ⟨_, e, _⟩ => by subst e; rfl) ?w
    case w => exact w_asked (by simp [withFv]) (by rfl) (by rfl) (by rfl) (by rfl) (by rfl) (by rfl) (by rfl) (by rfl)
  exact md D B (allCons (Ent.fn (by decide) hpr (by omega)) (allCons (Ent.fn (by decide) hbox (by omega)) (allCons (Ent.fn (by decide) hbe (by omega)) (allCons (Ent.fn (by decide) hip (by omega)) (allCons (Ent.fn (by decide) (hsame 2) (by omega)) (allCons (Ent.fn (by decide) hask (by omega)) (allCons (Ent.fn (by decide) hcp (by omega)) allNil))))))) (by decide)
theorem all_mk {h : Heap} {l : PySem.W.OpenLaw} {fa : Addr} (D : Defs K mg xTickError xBadProgram xBadContext xBadFrame kk_is_word kk_are_bodies tt_is_word tt_are_bodies y_check_program) (hfa : mg (Str.ofString "law") = some (.ref fa)) :
    ∃ fd : FuncData, (∀ (s : Shared) (v : Value), BindsTo s fd ⟨[v], []⟩ [("_law_script", v)]) ∧ ∀ base : Heap, Tabs mg base xTickError xBadProgram xBadContext xBadFrame kk_is_word kk_are_bodies tt_is_word tt_are_bodies y_check_program → FnOk l.prog w K mg base (L2.CX l.prog w) 12 fa fd ["_law_script"] (upSp (S0 xTickError xBadProgram xBadContext xBadFrame kk_is_word kk_are_bodies tt_is_word tt_are_bodies y_check_program) K (LawPr 63)) := by
  obtain ⟨fa', fd, F, hm, hb⟩ := D.d_law
  have e := hfa.symm.trans hm
  cases e
  refine ⟨fd, fun s v => ?_, fun base B => fn_rule F f_law k_law (law_md D B) (fun _ _ _ _ ⟨_, e, _⟩ => by subst e; rfl) (w_law (by rfl) (by rfl) (by rfl) (by rfl) (by rfl) (by rfl) (by rfl) (by rfl))⟩
  obtain ⟨oc, od, kV, doc, pm, an, cdv, ct, osl, rfl, _⟩ := F.ex
  exact .of_eq rfl
end
end SK.K00

set_option Elab.async false
set_option linter.all false
set_option maxRecDepth 100000
set_option maxHeartbeats 0
namespace SK.K00
open PySem PySem.Spec PyProof.Rows L2 SK
def fnL_0 : List He.DefD := [ddF (Str.ofString "_law_cell") s_law_cell,
  ddF (Str.ofString "_law_digits") s_law_digits,
  ddF (Str.ofString "_law_draw") s_law_draw,
  ddF (Str.ofString "_law_is_integer") s_law_is_integer,
  ddF (Str.ofString "_law_box") s_law_box,
  ddF (Str.ofString "_law_word") s_law_word,
  ddF (Str.ofString "_law_block") s_law_block,
  ddF (Str.ofString "_law_weight") s_law_weight,
  ddF (Str.ofString "_law_count") s_law_count,
  ddF (Str.ofString "_law_same") s_law_same,
  ddF (Str.ofString "_law_program") s_law_program,
  ddF (Str.ofString "is_word") s_is_word,
  ddF (Str.ofString "is_statement") s_is_statement,
  ddF (Str.ofString "blocks_of") s_blocks_of,
  ddF (Str.ofString "all_statements") s_all_statements,
  ddF (Str.ofString "depth_of") s_depth_of,
  ddF (Str.ofString "block_size") s_block_size,
  ddF (Str.ofString "are_bodies") s_are_bodies,
  ddF (Str.ofString "body_sizes") s_body_sizes,
  ddF (Str.ofString "check_program") s_check_program,
  ddF (Str.ofString "_law_all") s_law_all,
  ddF (Str.ofString "_law_deep") s_law_deep,
  ddF (Str.ofString "_law_is_word") s_law_is_word,
  ddF (Str.ofString "_law_is_item") s_law_is_item,
  ddF (Str.ofString "_law_are_bodies") s_law_are_bodies,
  ddF (Str.ofString "_law_measure") s_law_measure,
  ddF (Str.ofString "_law_sizes") s_law_sizes,
  ddF (Str.ofString "_law_is_program") s_law_is_program,
  ddF (Str.ofString "_law_with") s_law_with,
  ddF (Str.ofString "_law_bent") s_law_bent]
def fnL_1 : List He.DefD := [ddF (Str.ofString "_law_asked") s_law_asked,
  ddF (Str.ofString "law") s_law]
def fnL : List He.DefD := (fnL_0 ++ (fnL_1))
def faL_0 : List He.Fa := [.glo (Str.ofString "_law_cell"),
  .glo (Str.ofString "_law_digits"),
  .glo (Str.ofString "_law_draw"),
  .glo (Str.ofString "_law_is_integer"),
  .glo (Str.ofString "_law_box"),
  .glo (Str.ofString "_law_word"),
  .glo (Str.ofString "_law_block"),
  .glo (Str.ofString "_law_weight"),
  .glo (Str.ofString "_law_count"),
  .glo (Str.ofString "_law_same"),
  .glo (Str.ofString "_law_program"),
  .glo (Str.ofString "is_word"),
  .glo (Str.ofString "is_statement"),
  .glo (Str.ofString "blocks_of"),
  .glo (Str.ofString "all_statements"),
  .glo (Str.ofString "depth_of"),
  .glo (Str.ofString "block_size"),
  .glo (Str.ofString "are_bodies"),
  .glo (Str.ofString "body_sizes"),
  .glo (Str.ofString "check_program"),
  .glo (Str.ofString "_law_all"),
  .glo (Str.ofString "_law_deep"),
  .glo (Str.ofString "_law_is_word"),
  .glo (Str.ofString "_law_is_item"),
  .glo (Str.ofString "_law_are_bodies"),
  .glo (Str.ofString "_law_measure"),
  .glo (Str.ofString "_law_sizes"),
  .glo (Str.ofString "_law_is_program"),
  .glo (Str.ofString "_law_with"),
  .glo (Str.ofString "_law_bent")]
def faL_1 : List He.Fa := [.glo (Str.ofString "_law_asked"),
  .glo (Str.ofString "law"),
  .glo (Str.ofString "TickError"),
  .exc (Str.ofString "TickError"),
  .glo (Str.ofString "BadProgram"),
  .exc (Str.ofString "BadProgram"),
  .glo (Str.ofString "BadContext"),
  .exc (Str.ofString "BadContext"),
  .glo (Str.ofString "BadFrame"),
  .exc (Str.ofString "BadFrame"),
  .exm (Str.ofString "TickError") (Str.ofString "TickError") true,
  .exm (Str.ofString "TickError") (Str.ofString "BadProgram") false,
  .exm (Str.ofString "TickError") (Str.ofString "BadContext") false,
  .exm (Str.ofString "TickError") (Str.ofString "BadFrame") false,
  .exm (Str.ofString "BadProgram") (Str.ofString "TickError") true,
  .exm (Str.ofString "BadProgram") (Str.ofString "BadProgram") true,
  .exm (Str.ofString "BadProgram") (Str.ofString "BadContext") false,
  .exm (Str.ofString "BadProgram") (Str.ofString "BadFrame") false,
  .exm (Str.ofString "BadContext") (Str.ofString "TickError") true,
  .exm (Str.ofString "BadContext") (Str.ofString "BadProgram") false,
  .exm (Str.ofString "BadContext") (Str.ofString "BadContext") true,
  .exm (Str.ofString "BadContext") (Str.ofString "BadFrame") false,
  .exm (Str.ofString "BadFrame") (Str.ofString "TickError") true,
  .exm (Str.ofString "BadFrame") (Str.ofString "BadProgram") false,
  .exm (Str.ofString "BadFrame") (Str.ofString "BadContext") false,
  .exm (Str.ofString "BadFrame") (Str.ofString "BadFrame") true,
  .str (Str.ofString "WORD_SIGNS") (Str.ofString "abcdefghijklmnopqrstuvwxyz0123456789"),
  .glo (Str.ofString "VARIABLES"),
  .int (Str.ofString "MOST_BODIES") 8,
  .int (Str.ofString "MOST_STATEMENTS") 40]
def faL_2 : List He.Fa := [.int (Str.ofString "MOST_DEPTH") 2,
  .int (Str.ofString "MOST_COUNT") 100,
  .int (Str.ofString "MOST_SIZE") 600,
  .free (Str.ofString "all"),
  .free (Str.ofString "bool"),
  .free (Str.ofString "int"),
  .free (Str.ofString "isinstance"),
  .free (Str.ofString "len"),
  .free (Str.ofString "max"),
  .free (Str.ofString "range"),
  .free (Str.ofString "reversed"),
  .free (Str.ofString "str"),
  .free (Str.ofString "tuple")]
def faL : List He.Fa := (faL_0 ++ (faL_1 ++ (faL_2)))
def exL_0 : List (PySem.W.Frag → Bool) := [exB (Str.ofString "TickError"),
  exB (Str.ofString "BadProgram"),
  exB (Str.ofString "BadContext"),
  exB (Str.ofString "BadFrame"),
  kitB (Str.ofString "TickError") (Str.ofString "TickError") true,
  kitB (Str.ofString "TickError") (Str.ofString "BadProgram") false,
  kitB (Str.ofString "TickError") (Str.ofString "BadContext") false,
  kitB (Str.ofString "TickError") (Str.ofString "BadFrame") false,
  kitB (Str.ofString "BadProgram") (Str.ofString "TickError") true,
  kitB (Str.ofString "BadProgram") (Str.ofString "BadProgram") true,
  kitB (Str.ofString "BadProgram") (Str.ofString "BadContext") false,
  kitB (Str.ofString "BadProgram") (Str.ofString "BadFrame") false,
  kitB (Str.ofString "BadContext") (Str.ofString "TickError") true,
  kitB (Str.ofString "BadContext") (Str.ofString "BadProgram") false,
  kitB (Str.ofString "BadContext") (Str.ofString "BadContext") true,
  kitB (Str.ofString "BadContext") (Str.ofString "BadFrame") false,
  kitB (Str.ofString "BadFrame") (Str.ofString "TickError") true,
  kitB (Str.ofString "BadFrame") (Str.ofString "BadProgram") false,
  kitB (Str.ofString "BadFrame") (Str.ofString "BadContext") false,
  kitB (Str.ofString "BadFrame") (Str.ofString "BadFrame") true,
  (fun K => He.tupB K (Str.ofString "VARIABLES") [.str (Str.ofString "a"), .str (Str.ofString "b"), .str (Str.ofString "c"), .str (Str.ofString "d")])]
def exL : List (PySem.W.Frag → Bool) := exL_0
def names_0 : List Str := ["TickError",
  "BadProgram",
  "BadContext",
  "BadFrame",
  "WORD_SIGNS",
  "VARIABLES",
  "MOST_BODIES",
  "MOST_STATEMENTS",
  "MOST_DEPTH",
  "MOST_COUNT",
  "MOST_SIZE",
  "is_word",
  "blocks_of",
  "all_statements",
  "depth_of",
  "is_statement",
  "are_bodies",
  "block_size",
  "body_sizes",
  "check_program",
  "_law_cell",
  "_law_digits",
  "_law_box",
  "_law_draw",
  "_law_is_integer",
  "_law_same",
  "_law_word",
  "_law_block",
  "_law_count",
  "_law_weight"]
def names_1 : List Str := ["_law_program",
  "_law_all",
  "_law_deep",
  "_law_is_word",
  "_law_is_item",
  "_law_are_bodies",
  "_law_measure",
  "_law_sizes",
  "_law_is_program",
  "_law_with",
  "_law_bent",
  "_law_asked"]
def names : List Str := (names_0 ++ (names_1))
def tfL : List He.Defn := [((Str.ofString "is_word"), none), ((Str.ofString "are_bodies"), none)]
def exF (K : PySem.W.Frag) : Bool := exL.all fun f => f K
abbrev R : PySem.W.OpenRow := PySem.W.OpenLaw.row PySem.Challenge.rw_sameticks_k00_programs_refused
abbrev hk : PySem.W.Hook := He.hookX 5 faL fnL [] tfL exF
def ob (s : PySem.W.SharedT) : He.AlX := He.obsX 5 faL fnL [] tfL exF (HandSHeadRun.getT s)
theorem ob_eq (s : PySem.W.SharedT) : ob s = hk.obs s.abs := He.obsX_eq (HandSHeadRun.getT_eq s)
theorem run (w : World) : HandSHeadRun.RunEq R (PySem.W.view R.prog [45]) hk ob 4000 names w := by
  intro os
  kernel_rfl
theorem facts {w : World} {K : PySem.W.Frag} {h : Heap} {mg : Str → Option Value} {f : Addr} (X : K.In h) (G : h.Ns mainGlobals mg) (hfa : mg (Str.ofString "law") = some (.ref f)) (c : He.SaysX faL fnL [] tfL exF w h K) : LamX.LawAtS PySem.Challenge.rw_sameticks_k00_programs_refused w K (L2.CX (PySem.Challenge.rw_sameticks_k00_programs_refused).prog w) 12 63 "_law_script" mg f h := by
  have hex : ∀ (i : Nat) {g : PySem.W.Frag → Bool}, exL[i]? = some g → g K = true := fun i g e => List.all_eq_true.mp c.more g (List.mem_of_getElem? e)
  have D : Defs K mg (He.ga K (Str.ofString "TickError")) (He.ga K (Str.ofString "BadProgram")) (He.ga K (Str.ofString "BadContext")) (He.ga K (Str.ofString "BadFrame")) ((He.cT K ((Str.ofString "is_word"), none)).1) ((He.cT K ((Str.ofString "are_bodies"), none)).1) ((He.cT K ((Str.ofString "is_word"), none)).2) ((He.cT K ((Str.ofString "are_bodies"), none)).2) (He.ga K (Str.ofString "check_program")) := ⟨df_d X G c.t.d 0 0 rfl rfl a_law_cell,
    df_d X G c.t.d 1 1 rfl rfl a_law_digits,
    df_d X G c.t.d 2 2 rfl rfl a_law_draw,
    df_d X G c.t.d 3 3 rfl rfl a_law_is_integer,
    df_d X G c.t.d 4 4 rfl rfl a_law_box,
    df_d X G c.t.d 5 5 rfl rfl a_law_word,
    df_d X G c.t.d 6 6 rfl rfl a_law_block,
    df_d X G c.t.d 7 7 rfl rfl a_law_weight,
    df_d X G c.t.d 8 8 rfl rfl a_law_count,
    df_d X G c.t.d 9 9 rfl rfl a_law_same,
    df_d X G c.t.d 10 10 rfl rfl a_law_program,
    dft_d X G c.t.d 11 11 rfl rfl a_is_word,
    df_d X G c.t.d 12 12 rfl rfl a_is_statement,
    df_d X G c.t.d 13 13 rfl rfl a_blocks_of,
    df_d X G c.t.d 14 14 rfl rfl a_all_statements,
    df_d X G c.t.d 15 15 rfl rfl a_depth_of,
    df_d X G c.t.d 16 16 rfl rfl a_block_size,
    dft_d X G c.t.d 17 17 rfl rfl a_are_bodies,
    df_d X G c.t.d 18 18 rfl rfl a_body_sizes,
    df_d X G c.t.d 19 19 rfl rfl a_check_program,
    df_d X G c.t.d 20 20 rfl rfl a_law_all,
    df_d X G c.t.d 21 21 rfl rfl a_law_deep,
    df_d X G c.t.d 22 22 rfl rfl a_law_is_word,
    df_d X G c.t.d 23 23 rfl rfl a_law_is_item,
    df_d X G c.t.d 24 24 rfl rfl a_law_are_bodies,
    df_d X G c.t.d 25 25 rfl rfl a_law_measure,
    df_d X G c.t.d 26 26 rfl rfl a_law_sizes,
    df_d X G c.t.d 27 27 rfl rfl a_law_is_program,
    df_d X G c.t.d 28 28 rfl rfl a_law_with,
    df_d X G c.t.d 29 29 rfl rfl a_law_bent,
    df_d X G c.t.d 30 30 rfl rfl a_law_asked,
    df_d X G c.t.d 31 31 rfl rfl a_law,
    xf_d X G c.t.d 32 33 rfl rfl (hex 0 rfl),
    xf_d X G c.t.d 34 35 rfl rfl (hex 1 rfl),
    xf_d X G c.t.d 36 37 rfl rfl (hex 2 rfl),
    xf_d X G c.t.d 38 39 rfl rfl (hex 3 rfl),
    He.exm_ok (c.t.d.fact 40 rfl),
    kit_d (hex 4 rfl),
    He.exm_ok (c.t.d.fact 41 rfl),
    kit_d (hex 5 rfl),
    He.exm_ok (c.t.d.fact 42 rfl),
    kit_d (hex 6 rfl),
    He.exm_ok (c.t.d.fact 43 rfl),
    kit_d (hex 7 rfl),
    He.exm_ok (c.t.d.fact 44 rfl),
    kit_d (hex 8 rfl),
    He.exm_ok (c.t.d.fact 45 rfl),
    kit_d (hex 9 rfl),
    He.exm_ok (c.t.d.fact 46 rfl),
    kit_d (hex 10 rfl),
    He.exm_ok (c.t.d.fact 47 rfl),
    kit_d (hex 11 rfl),
    He.exm_ok (c.t.d.fact 48 rfl),
    kit_d (hex 12 rfl),
    He.exm_ok (c.t.d.fact 49 rfl),
    kit_d (hex 13 rfl),
    He.exm_ok (c.t.d.fact 50 rfl),
    kit_d (hex 14 rfl),
    He.exm_ok (c.t.d.fact 51 rfl),
    kit_d (hex 15 rfl),
    He.exm_ok (c.t.d.fact 52 rfl),
    kit_d (hex 16 rfl),
    He.exm_ok (c.t.d.fact 53 rfl),
    kit_d (hex 17 rfl),
    He.exm_ok (c.t.d.fact 54 rfl),
    kit_d (hex 18 rfl),
    He.exm_ok (c.t.d.fact 55 rfl),
    kit_d (hex 19 rfl),
    He.glo_ok X G (c.t.d.fact 19 rfl),
    ref_d X G c.t.d 19 rfl,
    str_d X G c.t.d 56 rfl,
    tup_d (ss := ["a", "b", "c", "d"]) X G c.t.d 57 rfl (hex 20 rfl),
    int_d X G c.t.d 58 rfl,
    int_d X G c.t.d 59 rfl,
    int_d X G c.t.d 60 rfl,
    int_d X G c.t.d 61 rfl,
    int_d X G c.t.d 62 rfl, fun x hx => by
    simp only [blts, List.mem_cons, List.mem_nil_iff, or_false] at hx
    rcases hx with rfl | rfl | rfl | rfl | rfl | rfl | rfl | rfl | rfl | rfl
    · exact blt_d X G c.t.d 63 rfl
    · exact blt_d X G c.t.d 64 rfl
    · exact blt_d X G c.t.d 65 rfl
    · exact blt_d X G c.t.d 66 rfl
    · exact blt_d X G c.t.d 67 rfl
    · exact blt_d X G c.t.d 68 rfl
    · exact blt_d X G c.t.d 69 rfl
    · exact blt_d X G c.t.d 70 rfl
    · exact blt_d X G c.t.d 71 rfl
    · exact blt_d X G c.t.d 72 rfl⟩
  obtain ⟨fd, hb, hF⟩ := all_mk (h := h) (w := w) (l := PySem.Challenge.rw_sameticks_k00_programs_refused) D hfa
  refine lawAt_d X c rfl hb fun base _ _ tb => hF base ⟨trivial, tb _ (List.mem_of_getElem? (i := 0) rfl), tb _ (List.mem_of_getElem? (i := 1) rfl)⟩
end SK.K00
open PySem PySem.W PySem.Calls PyProof.Rows
set_option maxRecDepth 100000 in
set_option maxHeartbeats 0 in
theorem PySem.Challenge.cw_sameticks_k00_programs_refused_holds : PySem.Challenge.rw_sameticks_k00_programs_refused.Holds := by
  w_on; o_law
  refine HandSHeadRun.head_any (r := OpenLaw.row PySem.Challenge.rw_sameticks_k00_programs_refused) (q := view (OpenLaw.row PySem.Challenge.rw_sameticks_k00_programs_refused).prog [45]) (H := SK.K00.hk) (ob := SK.K00.ob) (M := 4000) (loose := SK.K00.names) (d := HandSHeadRun.topDef (OpenLaw.row PySem.Challenge.rw_sameticks_k00_programs_refused).prog 45) (kwd := []) SK.K00.ob_eq
    (by kernel_rfl) (fun s => by kernel_rfl) SK.K00.run (by kernel_rfl) (by kernel_rfl) (by kernel_rfl) (by rfl) (by first | assumption | decide +kernel) (by decide +kernel) ⟨rfl, rfl, rfl, rfl, rfl, by decide +kernel⟩ ?hw ?hc
  case hw => w_witness2
  case hc =>
    refine LamX.walk_ofTsE (l := PySem.Challenge.rw_sameticks_k00_programs_refused) (n := 63) (k := 12) (x := "_law_script") (CX := fun w => L2.CX (PySem.Challenge.rw_sameticks_k00_programs_refused).prog w) rfl (by decide) (by kernel_rfl) ⟨rfl, by decide, by decide⟩ ?F (fun _ _ _ _ _ z => SK.cx_no z)
    intro w mg fa h Y G hmg0
    obtain ⟨K, KX, c⟩ := Y
    have hmg : mg (Str.ofString "law") = some (.ref fa) := by
      have e : (HandSHeadRun.topDef (OpenLaw.row PySem.Challenge.rw_sameticks_k00_programs_refused).prog 45).name = (Str.ofString "law" : PySem.Str) := by kernel_rfl
      rw [← e]
      exact hmg0
    exact ⟨K, KX, SK.K00.facts KX G hmg c⟩

