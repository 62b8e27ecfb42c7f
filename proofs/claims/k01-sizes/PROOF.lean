import PyProof.Rows.All
import Wide.All
import OpenK.AllK
import Wide.FinOn
import HandS.ForMost
import HandS.ForExc
import HandS.AnyAll
import HandS.TupAny
import HandS.TupMul
import HandS.RevRange
import HandS.Rev
import HandS.IsInst
import HandS.ExcSuper
import HandS.ExcField
import HandS.ExcIs
import HandS.Conv
import HandS.More
import HandS.Deep
import PySem.Challenge.RW_sameticks_k01_sizes
set_option Elab.async false
set_option linter.all false
set_option maxRecDepth 100000
/-! SK1: trees of values, the heap of lists, dicts and instances, and how they stand to the layer's V and Hp. -/
namespace SK
open PySem PySem.Spec PyProof.Rows L2

/-- a value; tuples and the locked script are trees -/
inductive T where
  | non | bl (b : Bool) | int (i : Int) | str (s : String) | tup (xs : List T) | frl (xs : List T) | ref (a : Addr)
  deriving Inhabited

abbrev DK := Sum Int String
def kOf : DK → Key
  | .inl i => .inl i
  | .inr s => .inr (Str.ofString s)
def kT : DK → T
  | .inl i => .int i
  | .inr s => .str s
/-- what stands at an address -/
inductive GO where
  | lst (xs : List T) | dct (kvs : List (DK × T)) | ins (C : String) (fs : List (String × T))
abbrev Gp := Addr → Option GO
def gu (G : Gp) (a : Addr) (o : GO) : Gp := fun b => if b = a then some o else G b
@[simp] theorem gu_same {G : Gp} {a : Addr} {o : GO} : gu G a o a = some o := by unfold gu; rw [if_pos rfl]
theorem gu_ne {G : Gp} {a b : Addr} {o : GO} (h : b ≠ a) : gu G a o b = G b := by unfold gu; rw [if_neg h]

/-- a locked list, or one of the module -/
def FL (K : PySem.W.Frag) (H : Hp) (a : Addr) (xs : List V) : Prop :=
  (∃ o, H a = some (.frz o (.lst xs))) ∨
    ∃ (o : Obj) (its : Array Value) (n : Nat), K.lookup a = some o ∧ o.cls = .type "list" ∧ o.dict = none ∧ o.data = .seq its n ∧ its.size ≤ sizeLine ∧ Vals xs its.toList
theorem FL.sql {K : PySem.W.Frag} {H : Hp} {a : Addr} {xs : List V} (h : FL K H a xs) : SqL K H a xs := by
  rcases h with h | h
  · exact .inl (.inr h)
  · exact .inr h

section
variable (K : PySem.W.Frag) (H : Hp)
mutual
def RT : T → V → Prop
  | .non, v => v = .non
  | .bl b, v => v = .bl b
  | .int i, v => v = .int i
  | .str s, v => v = .str (Str.ofString s)
  | .tup ts, v => ∃ a vs, v = .ref a ∧ SqT K H a vs ∧ RTs ts vs
  | .frl ts, v => ∃ a vs, v = .ref a ∧ FL K H a vs ∧ RTs ts vs
  | .ref a, v => v = .ref a
def RTs : List T → List V → Prop
  | [], vs => vs = []
  | t :: ts, vs => ∃ v r, vs = v :: r ∧ RT t v ∧ RTs ts r
end
def RK : List (DK × T) → List (Key × V) → Prop
  | [], l => l = []
  | p :: r, l => ∃ v l', l = (kOf p.1, v) :: l' ∧ RT K H p.2 v ∧ RK r l'
def RF : List (String × T) → List (Str × V) → Prop
  | [], l => l = []
  | p :: r, l => ∃ v l', l = (Str.ofString p.1, v) :: l' ∧ RT K H p.2 v ∧ RF r l'
end

/-- what may be written here -/
def Wr : HO → Prop
  | .lst _ => True
  | .dK _ => True
  | .ins _ _ _ => True
  | _ => False
/-- what is kept of the layer's heap: tuples, locked things, what an exception holds -/
structure HX (H H' : Hp) : Prop where
  tup : ∀ a xs, H a = some (.tup xs) → H' a = some (.tup xs)
  frz : ∀ a o u, H a = some (.frz o u) → H' a = some (.frz o u)
  xd : ∀ a fs, H a = some (.xd fs) → H' a = some (.xd fs)
theorem HX.refl (H : Hp) : HX H H := ⟨fun _ _ h => h, fun _ _ _ h => h, fun _ _ h => h⟩
theorem HX.trans {H H1 H2 : Hp} (a : HX H H1) (b : HX H1 H2) : HX H H2 := ⟨fun c xs h => b.tup _ _ (a.tup c xs h), fun c o u h => b.frz _ _ _ (a.frz c o u h), fun c xs h => b.xd _ _ (a.xd c xs h)⟩
theorem HX.new {H : Hp} {p : Addr} {o : HO} (h : H p = none) : HX H (upd H p o) :=
  ⟨fun a xs e => by rw [upd_ne (ne_of_none e h)]; exact e, fun a q u e => by rw [upd_ne (ne_of_none e h)]; exact e, fun a q e => by rw [upd_ne (ne_of_none e h)]; exact e⟩
theorem HX.put {H : Hp} {p : Addr} {o u : HO} (h : H p = some u) (w : Wr u) : HX H (upd H p o) :=
  ⟨fun a xs e => by rw [upd_ne (ne_of e h (fun z => by subst z; exact w))]; exact e, fun a q z e => by rw [upd_ne (ne_of e h (fun y => by subst y; exact w))]; exact e,
    fun a q e => by rw [upd_ne (ne_of e h (fun y => by subst y; exact w))]; exact e⟩

theorem SqT.mono {K : PySem.W.Frag} {H H' : Hp} {a : Addr} {xs : List V} (x : HX H H') (h : SqT K H a xs) : SqT K H' a xs := by
  rcases h with (h | ⟨o, h⟩) | h
  · exact .inl (.inl (x.tup _ _ h))
  · exact .inl (.inr ⟨o, x.frz _ _ _ h⟩)
  · exact .inr h
theorem FL.mono {K : PySem.W.Frag} {H H' : Hp} {a : Addr} {xs : List V} (x : HX H H') (h : FL K H a xs) : FL K H' a xs := by
  rcases h with ⟨o, h⟩ | h
  · exact .inl ⟨o, x.frz _ _ _ h⟩
  · exact .inr h
mutual
theorem RT.mono {K : PySem.W.Frag} {H H' : Hp} (x : HX H H') : ∀ (t : T) (v : V), RT K H t v → RT K H' t v
  | .non, _, h => h
  | .bl _, _, h => h
  | .int _, _, h => h
  | .str _, _, h => h
  | .tup ts, v, h => by
    unfold RT at h ⊢
    obtain ⟨a, vs, e, q, r⟩ := h
    exact ⟨a, vs, e, SqT.mono x q, RTs.mono x ts vs r⟩
  | .frl ts, v, h => by
    unfold RT at h ⊢
    obtain ⟨a, vs, e, q, r⟩ := h
    exact ⟨a, vs, e, FL.mono x q, RTs.mono x ts vs r⟩
  | .ref _, _, h => h
theorem RTs.mono {K : PySem.W.Frag} {H H' : Hp} (x : HX H H') : ∀ (ts : List T) (vs : List V), RTs K H ts vs → RTs K H' ts vs
  | [], _, h => h
  | t :: ts, vs, h => by
    unfold RTs at h ⊢
    obtain ⟨v, r, e, h1, h2⟩ := h
    exact ⟨v, r, e, RT.mono x t v h1, RTs.mono x ts r h2⟩
end
theorem RK.mono {K : PySem.W.Frag} {H H' : Hp} (x : HX H H') : ∀ (l : List (DK × T)) (m : List (Key × V)), RK K H l m → RK K H' l m
  | [], _, h => h
  | p :: r, m, h => by
    unfold RK at h ⊢
    obtain ⟨v, l', e, h1, h2⟩ := h
    exact ⟨v, l', e, RT.mono x _ v h1, RK.mono x r l' h2⟩
theorem RF.mono {K : PySem.W.Frag} {H H' : Hp} (x : HX H H') : ∀ (l : List (String × T)) (m : List (Str × V)), RF K H l m → RF K H' l m
  | [], _, h => h
  | p :: r, m, h => by
    unfold RF at h ⊢
    obtain ⟨v, l', e, h1, h2⟩ := h
    exact ⟨v, l', e, RT.mono x _ v h1, RF.mono x r l' h2⟩

section
variable {K : PySem.W.Frag} {H : Hp}
theorem RTs.length : ∀ {ts : List T} {vs : List V}, RTs K H ts vs → ts.length = vs.length
  | [], vs, h => by unfold RTs at h; subst h; rfl
  | t :: ts, vs, h => by
    unfold RTs at h
    obtain ⟨v, r, rfl, _, h2⟩ := h
    simp [RTs.length h2]
theorem RTs.get : ∀ {ts : List T} {vs : List V} {i : Nat} {t : T}, RTs K H ts vs → ts[i]? = some t → ∃ v, vs[i]? = some v ∧ RT K H t v
  | [], _, _, _, _, e => by simp at e
  | t :: ts, vs, 0, u, h, e => by
    unfold RTs at h
    obtain ⟨v, r, rfl, h1, _⟩ := h
    simp at e
    subst e
    exact ⟨v, rfl, h1⟩
  | t :: ts, vs, i + 1, u, h, e => by
    unfold RTs at h
    obtain ⟨v, r, rfl, _, h2⟩ := h
    obtain ⟨w, e1, e2⟩ := RTs.get (i := i) h2 (by simpa using e)
    exact ⟨w, by simpa using e1, e2⟩
theorem RTs.append : ∀ {ts us : List T} {vs ws : List V}, RTs K H ts vs → RTs K H us ws → RTs K H (ts ++ us) (vs ++ ws)
  | [], us, vs, ws, h, q => by unfold RTs at h; subst h; exact q
  | t :: ts, us, vs, ws, h, q => by
    unfold RTs at h
    obtain ⟨v, r, rfl, h1, h2⟩ := h
    show RTs K H (t :: (ts ++ us)) (v :: (r ++ ws))
    unfold RTs
    exact ⟨v, r ++ ws, rfl, h1, RTs.append h2 q⟩
theorem RTs.one {t : T} {v : V} (h : RT K H t v) : RTs K H [t] [v] := by
  unfold RTs
  exact ⟨v, [], rfl, h, by unfold RTs; rfl⟩
theorem RTs.nil : RTs K H [] [] := by unfold RTs; rfl
theorem RTs.cons {t : T} {v : V} {ts : List T} {vs : List V} (h : RT K H t v) (r : RTs K H ts vs) : RTs K H (t :: ts) (v :: vs) := by
  unfold RTs
  exact ⟨v, vs, rfl, h, r⟩
theorem RTs.take : ∀ {ts : List T} {vs : List V} (n : Nat), RTs K H ts vs → RTs K H (ts.take n) (vs.take n)
  | _, _, 0, _ => by simp [RTs.nil]
  | [], vs, n + 1, h => by unfold RTs at h; subst h; exact RTs.nil
  | t :: ts, vs, n + 1, h => by
    unfold RTs at h
    obtain ⟨v, r, rfl, h1, h2⟩ := h
    exact RTs.cons h1 (RTs.take n h2)
theorem RTs.drop : ∀ {ts : List T} {vs : List V} (n : Nat), RTs K H ts vs → RTs K H (ts.drop n) (vs.drop n)
  | _, _, 0, h => by simpa using h
  | [], vs, n + 1, h => by unfold RTs at h; subst h; exact RTs.nil
  | t :: ts, vs, n + 1, h => by
    unfold RTs at h
    obtain ⟨v, r, rfl, h1, h2⟩ := h
    exact RTs.drop n h2
theorem RTs.set : ∀ {ts : List T} {vs : List V} (n : Nat) {t : T} {v : V}, RTs K H ts vs → RT K H t v → RTs K H (ts.set n t) (vs.set n v)
  | [], vs, _, _, _, h, _ => by unfold RTs at h; subst h; exact RTs.nil
  | t :: ts, vs, 0, _, _, h, q => by
    unfold RTs at h
    obtain ⟨v, r, rfl, h1, h2⟩ := h
    exact RTs.cons q h2
  | t :: ts, vs, n + 1, _, _, h, q => by
    unfold RTs at h
    obtain ⟨v, r, rfl, h1, h2⟩ := h
    exact RTs.cons h1 (RTs.set n h2 q)
theorem RTs.dropLast {ts : List T} {vs : List V} (h : RTs K H ts vs) : RTs K H ts.dropLast vs.dropLast := by
  rw [List.dropLast_eq_take, List.dropLast_eq_take, ← h.length]
  exact h.take _
theorem RTs.reverse : ∀ {ts : List T} {vs : List V}, RTs K H ts vs → RTs K H ts.reverse vs.reverse
  | [], vs, h => by unfold RTs at h; subst h; exact RTs.nil
  | t :: ts, vs, h => by
    unfold RTs at h
    obtain ⟨v, r, rfl, h1, h2⟩ := h
    rw [List.reverse_cons, List.reverse_cons]
    exact (RTs.reverse h2).append (RTs.one h1)
theorem RTs.rep {ts : List T} {vs : List V} (h : RTs K H ts vs) : ∀ n : Nat, RTs K H (List.replicate n ts).flatten (List.replicate n vs).flatten
  | 0 => RTs.nil
  | n + 1 => by
    rw [List.replicate_succ, List.replicate_succ, List.flatten_cons, List.flatten_cons]
    exact h.append (RTs.rep h n)
theorem RTs.ints : ∀ ns : List Int, RTs K H (ns.map T.int) (ns.map V.int)
  | [] => RTs.nil
  | n :: ns => RTs.cons (by unfold RT; rfl) (RTs.ints ns)
theorem RTs.map {α : Type} {f : α → T} {g : α → V} (h : ∀ a, RT K H (f a) (g a)) : ∀ l : List α, RTs K H (l.map f) (l.map g)
  | [] => RTs.nil
  | a :: l => RTs.cons (h a) (RTs.map h l)
theorem RTs.to_ints : ∀ {ns : List Int} {vs : List V}, RTs K H (ns.map T.int) vs → vs = ns.map V.int
  | [], vs, h => by unfold RTs at h; exact h
  | n :: ns, vs, h => by
    rw [List.map_cons] at h
    unfold RTs at h
    obtain ⟨v, r, rfl, h1, h2⟩ := h
    unfold RT at h1
    rw [h1, RTs.to_ints h2]
    rfl
end

/-- the static part: own classes, the attributes they may hold, tables of code objects -/
structure Stc where
  cls : String → Option Addr
  xcl : String → Option Addr
  fld : String → String → Bool
  tabs : List Addr
/-- an object and its reading -/
def RO (S : Stc) (K : PySem.W.Frag) (H : Hp) : GO → HO → Prop
  | .lst ts, ho => ∃ vs, ho = .lst vs ∧ RTs K H ts vs
  | .dct kvs, ho => ∃ l, ho = .dK l ∧ RK K H kvs l
  | .ins C fs, ho => ∃ ca dx l, ho = .ins ca dx l ∧ S.cls C = some ca ∧ RF K H fs l ∧ ∀ p ∈ fs, S.fld C p.1 = true
theorem RO.mono {S : Stc} {K : PySem.W.Frag} {H H' : Hp} (x : HX H H') : ∀ {o : GO} {ho : HO}, RO S K H o ho → RO S K H' o ho
  | .lst ts, ho, h => let ⟨vs, e, r⟩ := h; ⟨vs, e, RTs.mono x _ _ r⟩
  | .dct kvs, ho, h => let ⟨l, e, r⟩ := h; ⟨l, e, RK.mono x _ _ r⟩
  | .ins C fs, ho, h => let ⟨ca, dx, l, e, c, r, k⟩ := h; ⟨ca, dx, l, e, c, RF.mono x _ _ r, k⟩
structure Sim (S : Stc) (K : PySem.W.Frag) (H : Hp) (G : Gp) : Prop where
  obj : ∀ a o, G a = some o → ∃ ho, H a = some ho ∧ RO S K H o ho
  tabs : ∀ p ∈ S.tabs, GxR.TabG H p
section
variable {S : Stc} {K : PySem.W.Frag} {H : Hp} {G : Gp}
theorem Sim.free (m : Sim S K H G) {p : Addr} (h : H p = none) : G p = none := by
  cases e : G p with
  | none => rfl
  | some o =>
    obtain ⟨ho, q, _⟩ := m.obj p o e
    rw [h] at q
    cases q
theorem Sim.new (m : Sim S K H G) {p : Addr} {o : GO} {ho : HO} (h : H p = none) (r : RO S K (upd H p ho) o ho) : Sim S K (upd H p ho) (gu G p o) := by
  refine ⟨fun a u e => ?_, fun q hq => ?_⟩
  · by_cases ha : a = p
    · subst ha
      rw [gu_same] at e
      cases e
      exact ⟨ho, upd_same, r⟩
    · rw [gu_ne ha] at e
      obtain ⟨v, h1, h2⟩ := m.obj a u e
      exact ⟨v, by rw [upd_ne ha]; exact h1, h2.mono (HX.new h)⟩
  · obtain ⟨ps, h1, h2⟩ := m.tabs q hq
    exact ⟨ps, by rw [upd_ne (ne_of_none h1 h)]; exact h1, h2⟩
/-- a thing that G doesn't track is laid -/
theorem Sim.aside (m : Sim S K H G) {p : Addr} {ho : HO} (h : H p = none) : Sim S K (upd H p ho) G := by
  refine ⟨fun a u e => ?_, fun q hq => ?_⟩
  · obtain ⟨v, h1, h2⟩ := m.obj a u e
    exact ⟨v, by rw [upd_ne (ne_of_none h1 h)]; exact h1, h2.mono (HX.new h)⟩
  · obtain ⟨ps, h1, h2⟩ := m.tabs q hq
    exact ⟨ps, by rw [upd_ne (ne_of_none h1 h)]; exact h1, h2⟩
theorem Sim.put (m : Sim S K H G) {p : Addr} {o : GO} {ho u : HO} (h : H p = some u) (w : Wr u) (r : RO S K (upd H p ho) o ho) : Sim S K (upd H p ho) (gu G p o) := by
  refine ⟨fun a v e => ?_, fun q hq => ?_⟩
  · by_cases ha : a = p
    · subst ha
      rw [gu_same] at e
      cases e
      exact ⟨ho, upd_same, r⟩
    · rw [gu_ne ha] at e
      obtain ⟨v, k1, k2⟩ := m.obj a v e
      exact ⟨v, by rw [upd_ne ha]; exact k1, k2.mono (HX.put h w)⟩
  · obtain ⟨ps, k1, k2⟩ := m.tabs q hq
    exact ⟨ps, by rw [upd_ne (ne_of k1 h (fun z => by subst z; exact w))]; exact k1, k2⟩
end

/-- slots -/
abbrev Sl := List (Option T)
def RS (K : PySem.W.Frag) (H : Hp) (ss : Sl) (σ : L2.St) : Prop := ss.length = σ.length ∧ ∀ (i : Nat) t, ss[i]? = some (some t) → ∃ v, σ[i]? = some (some v) ∧ RT K H t v
theorem RS.mono {K : PySem.W.Frag} {H H' : Hp} {ss : Sl} {σ : L2.St} (x : HX H H') (r : RS K H ss σ) : RS K H' ss σ :=
  ⟨r.1, fun i t e => let ⟨v, h1, h2⟩ := r.2 i t e; ⟨v, h1, RT.mono x _ _ h2⟩⟩
theorem RS.set {K : PySem.W.Frag} {H : Hp} {ss : Sl} {σ : L2.St} {t : T} {v : V} (r : RS K H ss σ) (h : RT K H t v) (i : Nat) : RS K H (ss.set i (some t)) (σ.set i (some v)) := by
  refine ⟨by simpa using r.1, fun j u e => ?_⟩
  by_cases hj : i = j
  · subst hj
    by_cases hl : i < ss.length
    · rw [List.getElem?_set_self hl] at e
      cases e
      exact ⟨v, List.getElem?_set_self (by rw [← r.1]; exact hl), h⟩
    · rw [List.getElem?_eq_none (by simpa using hl)] at e
      cases e
  · rw [List.getElem?_set_ne hj] at e
    rw [List.getElem?_set_ne hj]
    exact r.2 j u e
theorem RS.forget {K : PySem.W.Frag} {H : Hp} {ss : Sl} {σ : L2.St} (r : RS K H ss σ) (i : Nat) : RS K H (ss.set i none) (σ.set i none) := by
  refine ⟨by simpa using r.1, fun j u e => ?_⟩
  by_cases hj : i = j
  · subst hj
    by_cases hl : i < ss.length
    · rw [List.getElem?_set_self hl] at e
      cases e
    · rw [List.getElem?_eq_none (by simpa using hl)] at e
      cases e
  · rw [List.getElem?_set_ne hj] at e
    rw [List.getElem?_set_ne hj]
    exact r.2 j u e

/-- all of it -/
structure At (S : Stc) (K : PySem.W.Frag) (H0 : Hp) (ss : Sl) (G : Gp) (σ : L2.St) (H : Hp) : Prop where
  rs : RS K H ss σ
  sim : Sim S K H G
  hx : HX H0 H
theorem At.next {S : Stc} {K : PySem.W.Frag} {H0 : Hp} {ss : Sl} {G G' : Gp} {σ : L2.St} {H H' : Hp} (a : At S K H0 ss G σ H) (x : HX H H') (m : Sim S K H' G') : At S K H0 ss G' σ H' :=
  ⟨a.rs.mono x, m, a.hx.trans x⟩

/-! ### texts -/
theorem ofS_inj {a b : String} (h : Str.ofString a = Str.ofString b) : a = b := by
  rw [Str.ofString_eq_toList, Str.ofString_eq_toList] at h
  have h1 : (a.toList.map Char.toNat).toArray = (b.toList.map Char.toNat).toArray := by injection h
  have h2 : a.toList.map Char.toNat = b.toList.map Char.toNat := by simpa using congrArg Array.toList h1
  have h3 : a.toList = b.toList := List.map_inj_right (fun x y e => Char.toNat_inj.mp e) |>.mp h2
  exact String.toList_inj.mp h3
theorem ofS_iff {a b : String} : Str.ofString a = Str.ofString b ↔ a = b := ⟨ofS_inj, fun h => by rw [h]⟩
theorem ofS_len (a : String) : (Str.ofString a).length = a.length := by
  rw [Str.ofString_eq_toList]
  unfold Str.length
  simp only [List.size_toArray, List.length_map]
  first | rfl | exact String.length_toList | exact (String.length_toList).symm ▸ rfl
theorem ofS_append (a b : String) : Str.ofString (a ++ b) = Str.ofString a ++ Str.ofString b := by
  rw [Str.ofString_eq_toList, Str.ofString_eq_toList, Str.ofString_eq_toList]
  show _ = Str.append _ _
  unfold Str.append
  simp
theorem kOf_inj {a b : DK} (h : kOf a = kOf b) : a = b := by
  cases a with
  | inl i =>
    cases b with
    | inl j => cases h; rfl
    | inr t => cases h
  | inr s =>
    cases b with
    | inl j => cases h
    | inr t => exact congrArg Sum.inr (ofS_inj (Sum.inr.inj h))

/-! ### dicts -/
def dGet (kvs : List (DK × T)) (k : DK) : Option T := (kvs.find? fun kv => decide (kv.1 = k)).map (·.2)
def dPut (kvs : List (DK × T)) (k : DK) (v : T) : List (DK × T) :=
  if (kvs.any fun kv => decide (kv.1 = k)) = true then kvs.map (fun kv => if kv.1 = k then (kv.1, v) else kv) else kvs ++ [(k, v)]
section
variable {K : PySem.W.Frag} {H : Hp}
theorem RK.length : ∀ {l : List (DK × T)} {m : List (Key × V)}, RK K H l m → l.length = m.length
  | [], m, h => by unfold RK at h; subst h; rfl
  | p :: r, m, h => by
    unfold RK at h
    obtain ⟨v, l', rfl, _, h2⟩ := h
    simp [RK.length h2]
theorem RK.get : ∀ {l : List (DK × T)} {m : List (Key × V)}, RK K H l m → ∀ k : DK, (dGet l k = none ∧ valV m (kOf k) = none) ∨ ∃ t v, dGet l k = some t ∧ valV m (kOf k) = some v ∧ RT K H t v
  | [], m, h, k => by unfold RK at h; subst h; exact .inl ⟨rfl, rfl⟩
  | p :: r, m, h, k => by
    unfold RK at h
    obtain ⟨v, l', rfl, h1, h2⟩ := h
    by_cases e : p.1 = k
    · refine .inr ⟨p.2, v, ?_, ?_, h1⟩
      · unfold dGet
        rw [List.find?_cons_of_pos (by simp [e])]
        rfl
      · exact valV_pos (p := (kOf p.1, v)) (by rw [e])
    · have e2 : ¬ (kOf p.1, v).1 = kOf k := fun z => e (kOf_inj z)
      rw [valV_neg e2]
      have e3 : dGet (p :: r) k = dGet r k := by
        unfold dGet
        rw [List.find?_cons_of_neg (by simp [e])]
      rw [e3]
      exact RK.get h2 k
theorem RK.any : ∀ {l : List (DK × T)} {m : List (Key × V)}, RK K H l m → ∀ k : DK, (l.any fun kv => decide (kv.1 = k)) = (m.any fun kv => decide (kv.1 = kOf k))
  | [], m, h, k => by unfold RK at h; subst h; rfl
  | p :: r, m, h, k => by
    unfold RK at h
    obtain ⟨v, l', rfl, h1, h2⟩ := h
    rw [List.any_cons, List.any_cons, RK.any h2 k]
    congr 1
    by_cases e : p.1 = k
    · subst e; simp
    · have e2 : ¬ kOf p.1 = kOf k := fun z => e (kOf_inj z)
      simp [e, e2]
theorem RK.map : ∀ {l : List (DK × T)} {m : List (Key × V)} {k : DK} {t : T} {v : V}, RK K H l m → RT K H t v →
    RK K H (l.map fun kv => if kv.1 = k then (kv.1, t) else kv) (m.map fun kv => if kv.1 = kOf k then (kv.1, v) else kv)
  | [], m, k, t, v, h, _ => by unfold RK at h; subst h; unfold RK; rfl
  | p :: r, m, k, t, v, h, q => by
    unfold RK at h
    obtain ⟨w, l', rfl, h1, h2⟩ := h
    rw [List.map_cons, List.map_cons]
    by_cases e : p.1 = k
    · have e2 : kOf p.1 = kOf k := by rw [e]
      rw [if_pos e, if_pos e2]
      unfold RK
      exact ⟨v, _, rfl, q, RK.map h2 q⟩
    · have e2 : ¬ kOf p.1 = kOf k := fun z => e (kOf_inj z)
      rw [if_neg e, if_neg e2]
      unfold RK
      exact ⟨w, _, rfl, h1, RK.map h2 q⟩
theorem RK.snoc : ∀ {l : List (DK × T)} {m : List (Key × V)} {k : DK} {t : T} {v : V}, RK K H l m → RT K H t v → RK K H (l ++ [(k, t)]) (m ++ [(kOf k, v)])
  | [], m, k, t, v, h, q => by unfold RK at h; subst h; unfold RK; exact ⟨v, [], rfl, q, by unfold RK; rfl⟩
  | p :: r, m, k, t, v, h, q => by
    unfold RK at h
    obtain ⟨w, l', rfl, h1, h2⟩ := h
    show RK K H (p :: (r ++ [(k, t)])) ((kOf p.1, w) :: (l' ++ [(kOf k, v)]))
    unfold RK
    exact ⟨w, _, rfl, h1, RK.snoc h2 q⟩
theorem RK.put {l : List (DK × T)} {m : List (Key × V)} {k : DK} {t : T} {v : V} (h : RK K H l m) (q : RT K H t v) : RK K H (dPut l k t) (putK m (kOf k) v) := by
  unfold dPut putK
  rw [h.any k]
  split
  · exact RK.map h q
  · exact RK.snoc h q
theorem kT_rt {k : DK} : RT K H (kT k) (kV (kOf k)) := by
  cases k with
  | inl i => unfold kT RT; rfl
  | inr s => unfold kT RT; rfl
theorem kT_of {k : DK} {v : V} (h : RT K H (kT k) v) : v = kV (kOf k) := by
  cases k with
  | inl i => unfold kT RT at h; exact h
  | inr s => unfold kT RT at h; exact h
end
/-! ### fields -/
def fGet (fs : List (String × T)) (f : String) : Option T := (fs.find? fun kv => decide (kv.1 = f)).map (·.2)
def fPut (f : String) (v : T) : List (String × T) → List (String × T)
  | [] => [(f, v)]
  | (g, x) :: r => if g = f then (g, v) :: r else (g, x) :: fPut f v r
section
variable {K : PySem.W.Frag} {H : Hp}
theorem RF.length : ∀ {l : List (String × T)} {m : List (Str × V)}, RF K H l m → l.length = m.length
  | [], m, h => by unfold RF at h; subst h; rfl
  | p :: r, m, h => by
    unfold RF at h
    obtain ⟨v, l', rfl, _, h2⟩ := h
    simp [RF.length h2]
theorem RF.get : ∀ {l : List (String × T)} {m : List (Str × V)}, RF K H l m → ∀ f : String, (fGet l f = none ∧ m.lookup (Str.ofString f) = none) ∨ ∃ t v, fGet l f = some t ∧ m.lookup (Str.ofString f) = some v ∧ RT K H t v
  | [], m, h, k => by unfold RF at h; subst h; exact .inl ⟨rfl, rfl⟩
  | p :: r, m, h, k => by
    unfold RF at h
    obtain ⟨v, l', rfl, h1, h2⟩ := h
    by_cases e : p.1 = k
    · refine .inr ⟨p.2, v, ?_, ?_, h1⟩
      · unfold fGet
        rw [List.find?_cons_of_pos (by simp [e])]
        rfl
      · rw [e, List.lookup_cons_self]
    · have e2 : ¬ Str.ofString p.1 = Str.ofString k := fun z => e (ofS_inj z)
      have e3 : fGet (p :: r) k = fGet r k := by
        unfold fGet
        rw [List.find?_cons_of_neg (by simp [e])]
      rw [e3, List.lookup_cons, beq_eq_false_iff_ne.mpr (fun z => e2 z.symm)]
      exact RF.get h2 k
theorem RF.put : ∀ {l : List (String × T)} {m : List (Str × V)} {f : String} {t : T} {v : V}, RF K H l m → RT K H t v → RF K H (fPut f t l) (putF (Str.ofString f) v m)
  | [], m, f, t, v, h, q => by
    unfold RF at h
    subst h
    show RF K H [(f, t)] [(Str.ofString f, v)]
    unfold RF
    exact ⟨v, [], rfl, q, by unfold RF; rfl⟩
  | p :: r, m, f, t, v, h, q => by
    unfold RF at h
    obtain ⟨w, l', rfl, h1, h2⟩ := h
    obtain ⟨g, x⟩ := p
    show RF K H (if g = f then (g, t) :: r else (g, x) :: fPut f t r) (if Str.ofString g = Str.ofString f then (Str.ofString g, v) :: l' else (Str.ofString g, w) :: putF (Str.ofString f) v l')
    by_cases e : g = f
    · rw [if_pos e, if_pos (by rw [e])]
      unfold RF
      exact ⟨v, l', rfl, q, h2⟩
    · rw [if_neg e, if_neg (fun z => e (ofS_inj z))]
      unfold RF
      exact ⟨w, _, rfl, h1, RF.put h2 q⟩
theorem fPut_names : ∀ {l : List (String × T)} {f : String} {t : T} {P : String → Prop}, P f → (∀ p ∈ l, P p.1) → ∀ p ∈ fPut f t l, P p.1
  | [], f, t, P, hf, h, p, hp => by
    have e : p = (f, t) := by simpa [fPut] using hp
    rw [e]
    exact hf
  | (g, x) :: r, f, t, P, hf, h, p, hp => by
    unfold fPut at hp
    by_cases e : g = f
    · rw [if_pos e] at hp
      rcases List.mem_cons.mp hp with z | z
      · rw [z]; exact h (g, x) List.mem_cons_self
      · exact h p (List.mem_cons_of_mem _ z)
    · rw [if_neg e] at hp
      rcases List.mem_cons.mp hp with z | z
      · rw [z]; exact h (g, x) List.mem_cons_self
      · exact fPut_names hf (fun q hq => h q (List.mem_cons_of_mem _ hq)) p z
end
end SK

set_option Elab.async false
set_option linter.all false
set_option maxRecDepth 100000
/-! SK2: the codes of the Python subset, and what each wants (wp). -/
namespace SK
open PySem PySem.Spec PyProof.Rows L2

inductive Op | add | sub | mul | fdv | mod | pow
  deriving DecidableEq
inductive Cp | eq | ne | lt | le | gt | ge | inS | niS | inD | niD | isN | ntN
  deriving DecidableEq
inductive Bi | len | int | str | tuple | list | dict | max | min | sum | all | any
  deriving DecidableEq
inductive Bm | append | pop | get | index | join
  deriving DecidableEq
inductive Ty | tup | bl | int | str
  deriving DecidableEq
/-- a target: a name's slot, or a tuple of them -/
inductive Tg | nm (i : Nat) | tp (is : List Nat)
mutual
inductive E where
  | no
  | var (i : Nat)
  | kc (t : T)
  | gl (x : String)
  | tup (es : Es) | lst (es : Es)
  | dct (ks : List String) (es : Es)
  | bin (o : Op) (a b : E)
  | neg (a : E)
  | cmp (o : Cp) (a b : E)
  | land (es : Es) | lor (es : Es)
  | lnot (a : E)
  | ife (c a b : E)
  | ix (a i : E) | dx (a i : E)
  | sl (a lo hi : E)
  | fld (a : E) (f : String)
  | call (f : String) (es : Es)
  | meth (a : E) (m : String) (es : Es)
  | make (C : String) (es : Es)
  | bi (f : Bi) (es : Es)
  | bm (a : E) (m : Bm) (es : Es)
  | isi (a : E) (ty : Ty)
  | isx (C : String)
  | xf (f : String)
  | lc (elt : E) (own : List Nat) (g : Tg) (it : It) (cond : E)
  | gen (all : Bool) (elt : E) (x : String) (it : It)
inductive Es where
  | nil | cons (e : E) (es : Es)
inductive It where
  | tup (e : E) | lst (e : E) | str (e : E) | rng (es : Es) | revl (e : E) | revt (e : E) | revr (e : E)
end
mutual
inductive S where
  | asg (i : Nat) (e : E)
  | ast (is : List Nat) (e : E)
  | asf (o : E) (f : String) (e : E)
  | asi (o i e : E) | asd (o i e : E)
  | ex (e : E)
  | ret (e : E) | retn
  | ite (c : E) (a b : Ss)
  | for_ (g : Tg) (it : It) (body : Ss)
  | whl (c : E) (body : Ss)
  | pass
  | raise (C : String) (es : Es)
  | try_ (body : Ss) (C : String) (i : Nat) (suite : Ss)
inductive Ss where
  | nil | cons (s : S) (r : Ss)
end
def Es.len : Es → Nat
  | .nil => 0
  | .cons _ r => r.len + 1

abbrev QT := T → Gp → Prop
abbrev XT := String → List (String × T) → Gp → Prop
/-- a promise: arguments, heap, what is wanted of the value, of an exception -/
abbrev Pr := List T → Gp → QT → XT → Prop
/-- what a body may lean on: promises by class and name ("" : the module's defs), constants, exceptions' classes and fields -/
structure Gm where
  fn : String → String → Option Pr
  cst : String → Option T
  sub : String → String → Bool
  xfs : String → Option (List String)
  fld : String → String → Bool
  xc : Option (String × List (String × T)) := none
structure En where
  nx : Sl → Gp → Prop
  rt : QT
  bk : Sl → Gp → Prop := fun _ _ => False
  ct : Sl → Gp → Prop := fun _ _ => False
  ex : Sl → XT

/-! ### by values -/
abbrev line : Nat := 16777216
def addW : T → T → Gp → QT → Prop
  | .int i, .int j, G, Q => Q (.int (i + j)) G
  | .str s, .str t, G, Q => s.length + t.length ≤ line ∧ Q (.str (s ++ t)) G
  | .tup xs, .tup ys, G, Q => xs.length + ys.length ≤ line ∧ Q (.tup (xs ++ ys)) G
  | .ref a, .ref b, G, Q => ∃ xs ys, G a = some (.lst xs) ∧ G b = some (.lst ys) ∧ xs.length + ys.length ≤ line ∧ ∀ p, G p = none → Q (.ref p) (gu G p (.lst (xs ++ ys)))
  | _, _, _, _ => False
def subW : T → T → Gp → QT → Prop
  | .int i, .int j, G, Q => Q (.int (i - j)) G
  | _, _, _, _ => False
def mulW : T → T → Gp → QT → Prop
  | .int i, .int j, G, Q => CMul i j ∧ Q (.int (i * j)) G
  | .tup xs, .int k, G, Q => xs ≠ [] ∧ xs.length ≤ 1000 ∧ 2 ≤ k ∧ k ≤ 1000 ∧ Q (.tup (List.replicate k.toNat xs).flatten) G
  | .ref a, .int k, G, Q => ∃ xs, G a = some (.lst xs) ∧ -(2 ^ 63) ≤ k ∧ k < 2 ^ 63 ∧ xs.length * k.toNat ≤ line ∧ ∀ p, G p = none → Q (.ref p) (gu G p (.lst (List.replicate k.toNat xs).flatten))
  | _, _, _, _ => False
def fdvW : T → T → Gp → QT → Prop
  | .int i, .int j, G, Q => (0 < j ∧ j < 1073741824) ∧ Q (.int (i / j)) G
  | _, _, _, _ => False
def modW : T → T → Gp → QT → Prop
  | .int i, .int j, G, Q => 0 < j ∧ Q (.int (i % j)) G
  | _, _, _, _ => False
def powW : T → T → Gp → QT → Prop
  | .int i, .int j, G, Q => (0 ≤ j ∧ j ≤ 1000000 ∧ i.natAbs < 2 ^ 64) ∧ Q (.int (i ^ j.toNat)) G
  | _, _, _, _ => False
def binW : Op → T → T → Gp → QT → Prop
  | .add => addW | .sub => subW | .mul => mulW | .fdv => fdvW | .mod => modW | .pow => powW
mutual
/-- == of data -/
def teq : T → T → Bool
  | .non, .non => true
  | .bl a, .bl b => a == b
  | .bl a, .int j => (if a then 1 else 0) == j
  | .int i, .bl b => i == (if b then 1 else 0)
  | .int i, .int j => i == j
  | .str a, .str b => a == b
  | .tup xs, .tup ys => teqs xs ys
  | _, _ => false
def teqs : List T → List T → Bool
  | [], [] => true
  | x :: xs, y :: ys => teq x y && teqs xs ys
  | _, _ => false
end
mutual
/-- data without addresses, at most so deep -/
def isD : Nat → T → Bool
  | _, .non => true
  | _, .bl _ => true
  | _, .int _ => true
  | _, .str _ => true
  | 0, .tup _ => false
  | n + 1, .tup xs => isDs n xs
  | _, _ => false
def isDs : Nat → List T → Bool
  | _, [] => true
  | n, x :: xs => isD n x && isDs n xs
end
def flT : T → Bool
  | .non => true | .bl _ => true | .int _ => true | .str _ => true | _ => false
def isNT : T → Bool
  | .non => true
  | _ => false
def keyT : T → Option DK
  | .int i => some (.inl i)
  | .str s => some (.inr s)
  | _ => none
def cmpI (f : Int → Int → Bool) : T → T → Gp → QT → Prop
  | .int i, .int j, G, Q => Q (.bl (f i j)) G
  | _, _, _, _ => False
def inW (neg : Bool) : T → T → Gp → QT → Prop
  | x, .tup ys, G, Q => flT x = true ∧ ys.all flT = true ∧ Q (.bl (xor neg (ys.any fun y => teq y x))) G
  | x, .ref a, G, Q => ∃ ys, G a = some (.lst ys) ∧ flT x = true ∧ ys.all flT = true ∧ Q (.bl (xor neg (ys.any fun y => teq y x))) G
  | .str x, .str y, G, Q => ∃ c, x = String.singleton c ∧ Q (.bl (xor neg (decide (c ∈ y.toList)))) G
  | _, _, _, _ => False
def inDW (neg : Bool) : T → T → Gp → QT → Prop
  | x, .ref a, G, Q => ∃ kvs k, G a = some (.dct kvs) ∧ keyT x = some k ∧ Q (.bl (xor neg (dGet kvs k).isSome)) G
  | _, _, _, _ => False
def cmpW : Cp → T → T → Gp → QT → Prop
  | .eq => fun x y G Q => isD 60 x = true ∧ isD 60 y = true ∧ Q (.bl (teq x y)) G
  | .ne => fun x y G Q => isD 60 x = true ∧ isD 60 y = true ∧ Q (.bl (!teq x y)) G
  | .lt => cmpI fun i j => decide (i < j)
  | .le => cmpI fun i j => decide (i ≤ j)
  | .gt => cmpI fun i j => decide (j < i)
  | .ge => cmpI fun i j => decide (j ≤ i)
  | .inS => inW false
  | .niS => inW true
  | .inD => inDW false
  | .niD => inDW true
  | .isN => fun x y G Q => y = .non ∧ Q (.bl (isNT x)) G
  | .ntN => fun x y G Q => y = .non ∧ Q (.bl (!isNT x)) G
/-- the item at i, from the end where i is negative -/
def tAt {α : Type} (xs : List α) (i : Int) : Option α := if 0 ≤ i then xs[i.toNat]? else if -(xs.length : Int) ≤ i then xs[(i + xs.length).toNat]? else none
def ixW : T → T → Gp → QT → Prop
  | .tup xs, .int i, G, Q => ∃ v, tAt xs i = some v ∧ Q v G
  | .frl xs, .int i, G, Q => ∃ v, tAt xs i = some v ∧ Q v G
  | .ref a, .int i, G, Q => ∃ xs v, G a = some (.lst xs) ∧ tAt xs i = some v ∧ Q v G
  | .str s, .int i, G, Q => ∃ c, s.length ≤ line ∧ tAt s.toList i = some c ∧ Q (.str (String.singleton c)) G
  | _, _, _, _ => False
def dxW : T → T → Gp → QT → Prop
  | .ref a, y, G, Q => ∃ kvs k v, G a = some (.dct kvs) ∧ keyT y = some k ∧ dGet kvs k = some v ∧ Q v G
  | _, _, _, _ => False
def cutT {α : Type} (xs : List α) (lo hi : Option Int) : List α := (xs.drop (HT.sIx xs.length 0 lo)).take (HT.sIx xs.length xs.length hi - HT.sIx xs.length 0 lo)
def slW : T → Option Int → Option Int → Gp → QT → Prop
  | .tup xs, lo, hi, G, Q => Q (.tup (cutT xs lo hi)) G
  | .ref a, lo, hi, G, Q => ∃ xs, G a = some (.lst xs) ∧ ∀ p, G p = none → Q (.ref p) (gu G p (.lst (cutT xs lo hi)))
  | _, _, _, _, _ => False
def fldW (f : String) : T → Gp → QT → Prop
  | .ref a, G, Q => ∃ C fs v, G a = some (.ins C fs) ∧ fGet fs f = some v ∧ Q v G
  | _, _, _ => False
def lenW : List T → Gp → QT → Prop
  | [.str s], G, Q => s.length ≤ line ∧ Q (.int s.length) G
  | [.tup xs], G, Q => Q (.int xs.length) G
  | [.frl xs], G, Q => Q (.int xs.length) G
  | [.ref a], G, Q => ∃ xs, G a = some (.lst xs) ∧ Q (.int xs.length) G
  | _, _, _ => False
def intW : List T → Gp → QT → Prop
  | [.int i], G, Q => Q (.int i) G
  | _, _, _ => False
def strW : List T → Gp → QT → Prop
  | [.int i], G, Q => i.natAbs.log2 < 1920 ∧ Q (.str (toString i)) G
  | _, _, _ => False
def tupleW : List T → Gp → QT → Prop
  | [.tup xs], G, Q => Q (.tup xs) G
  | [.ref a], G, Q => ∃ xs, G a = some (.lst xs) ∧ Q (.tup xs) G
  | _, _, _ => False
def listW : List T → Gp → QT → Prop
  | [.tup xs], G, Q => ∀ p, G p = none → Q (.ref p) (gu G p (.lst xs))
  | [.ref a], G, Q => ∃ xs, G a = some (.lst xs) ∧ ∀ p, G p = none → Q (.ref p) (gu G p (.lst xs))
  | _, _, _ => False
def dictW : List T → Gp → QT → Prop
  | [.ref a], G, Q => ∃ kvs, G a = some (.dct kvs) ∧ ∀ p, G p = none → Q (.ref p) (gu G p (.dct kvs))
  | _, _, _ => False
def maxW : List T → Gp → QT → Prop
  | [.int i, .int j], G, Q => Q (.int (if j > i then j else i)) G
  | [.ref a], G, Q => ∃ ns : List Int, G a = some (.lst (ns.map T.int)) ∧ 0 < ns.length ∧ ∀ m, m ∈ ns → (∀ y, y ∈ ns → y ≤ m) → Q (.int m) G
  | _, _, _ => False
def minW : List T → Gp → QT → Prop
  | [.int i, .int j], G, Q => Q (.int (if j < i then j else i)) G
  | _, _, _ => False
def sumW : List T → Gp → QT → Prop
  | [.ref a], G, Q => ∃ ns : List Int, G a = some (.lst (ns.map T.int)) ∧ Q (.int ns.sum) G
  | _, _, _ => False
def allW : List T → Gp → QT → Prop
  | [.ref a], G, Q => ∃ bs : List Bool, G a = some (.lst (bs.map T.bl)) ∧ Q (.bl (bs.all id)) G
  | _, _, _ => False
def anyW : List T → Gp → QT → Prop
  | [.ref a], G, Q => ∃ bs : List Bool, G a = some (.lst (bs.map T.bl)) ∧ Q (.bl (bs.any id)) G
  | _, _, _ => False
def biW : Bi → List T → Gp → QT → Prop
  | .len => lenW | .int => intW | .str => strW | .tuple => tupleW | .list => listW | .dict => dictW | .max => maxW | .min => minW | .sum => sumW | .all => allW | .any => anyW
def appW : T → List T → Gp → QT → Prop
  | .ref a, [y], G, Q => ∃ xs, G a = some (.lst xs) ∧ xs.length < line ∧ Q .non (gu G a (.lst (xs ++ [y])))
  | _, _, _, _ => False
def popW : T → List T → Gp → QT → Prop
  | .ref a, [], G, Q => ∃ xs y, G a = some (.lst xs) ∧ xs[xs.length - 1]? = some y ∧ Q y (gu G a (.lst xs.dropLast))
  | _, _, _, _ => False
def getW : T → List T → Gp → QT → Prop
  | .ref a, [x, y], G, Q => ∃ kvs k, G a = some (.dct kvs) ∧ keyT x = some k ∧ Q ((dGet kvs k).getD y) G
  | _, _, _, _ => False
def bmW : Bm → T → List T → Gp → QT → Prop
  | .append => appW | .pop => popW | .get => getW | _ => fun _ _ _ _ => False
def bmT : Bm → T → Gp → Prop
  | .append, .ref a, G => ∃ xs, G a = some (.lst xs)
  | .pop, .ref a, G => ∃ xs, G a = some (.lst xs)
  | .get, .ref a, G => ∃ kvs, G a = some (.dct kvs)
  | _, _, _ => False
def isiW (ty : Ty) : T → Gp → QT → Prop
  | .non, G, Q => Q (.bl false) G
  | .bl _, G, Q => Q (.bl (match ty with | .bl => true | .int => true | _ => false)) G
  | .int _, G, Q => Q (.bl (match ty with | .int => true | _ => false)) G
  | .str _, G, Q => Q (.bl (match ty with | .str => true | _ => false)) G
  | .tup _, G, Q => Q (.bl (match ty with | .tup => true | _ => false)) G
  | .ref a, G, Q => ((∃ xs, G a = some (.lst xs)) ∨ ∃ xs, G a = some (.dct xs)) ∧ Q (.bl false) G
  | _, _, _ => False
/-- what a loop goes over: fixed items, or a list that must stay -/
inductive Sq where
  | fix (xs : List T) | at_ (a : Addr) (xs : List T)
def Sq.items : Sq → List T
  | .fix xs => xs
  | .at_ _ xs => xs
def Sq.stay : Sq → Gp → Prop
  | .fix _, _ => True
  | .at_ a xs, G => G a = some (.lst xs)
def upto (lo step : Int) (n : Nat) : List T := (List.range n).map fun (i : Nat) => T.int (lo + (i : Int) * step)
def rngW : List T → Gp → (Sq → Gp → Prop) → Prop
  | [.int n], G, R => (-(2 ^ 62) ≤ n ∧ n < 2 ^ 62) ∧ R (.fix (upto 0 1 n.toNat)) G
  | [.int a, .int b], G, R => ((-(2 ^ 62) ≤ a ∧ a < 2 ^ 62) ∧ -(2 ^ 62) ≤ b ∧ b < 2 ^ 62) ∧ R (.fix (upto a 1 (b - a).toNat)) G
  | [.int a, .int b, .int (-1)], G, R => ((-(2 ^ 62) ≤ a ∧ a < 2 ^ 62) ∧ -(2 ^ 62) ≤ b ∧ b < 2 ^ 62) ∧ R (.fix (upto a (-1) (a - b).toNat)) G
  | _, _, _ => False
def setTp : List Nat → List T → Sl → Option Sl
  | [], [], ss => some ss
  | i :: is, x :: xs, ss => setTp is xs (ss.set i (some x))
  | _, _, _ => none
def tgW : Tg → T → Sl → (Sl → Prop) → Prop
  | .nm i, x, ss, k => k (ss.set i (some x))
  | .tp is, .tup xs, ss, k => ∃ s1, setTp is xs ss = some s1 ∧ k s1
  | _, _, _, _ => False
def wipeT (ss : Sl) : List Nat → Sl
  | [] => ss
  | v :: vs => (wipeT ss vs).set v none

/-- the turns of a for -/
def forW (stay : Gp → Prop) (g : Tg) (body : Sl → Gp → En → Prop) (D : En) : List T → Sl → Gp → Prop
  | [], ss, G => stay G ∧ D.nx ss G
  | x :: r, ss, G => stay G ∧ tgW g x ss fun s1 => body s1 G { nx := forW stay g body D r, rt := D.rt, bk := D.nx, ct := forW stay g body D r, ex := D.ex }
/-- a while: an invariant with its measure -/
def whlW (c : Sl → Gp → XT → QT → Prop) (body : Sl → Gp → En → Prop) (D : En) (ss : Sl) (G : Gp) : Prop :=
  ∃ W : Nat → Sl → Gp → Prop, (∃ m, W m ss G) ∧ ∀ m ss G, W m ss G → c ss G (D.ex ss) fun t G1 => ∃ b, t = .bl b ∧
    if b = true then body ss G1 { nx := fun s2 G2 => ∃ m', m' < m ∧ W m' s2 G2, rt := D.rt, bk := D.nx, ct := fun s2 G2 => ∃ m', m' < m ∧ W m' s2 G2, ex := D.ex } else D.nx ss G1
/-- a comprehension's turns; D the new list -/
def lcW (stay : Gp → Prop) (g : Tg) (own : List Nat) (cond elt : Sl → Gp → QT → Prop) (D : Addr) (ss : Sl) (Q : QT) : List T → Gp → Prop
  | [], G => stay G ∧ Q (.ref D) G
  | x :: r, G => stay G ∧ tgW g x (wipeT ss own) fun s1 => cond s1 G fun c G1 => ∃ b, c = .bl b ∧
      if b = true then elt s1 G1 fun y G2 => ∃ acc, G2 D = some (.lst acc) ∧ acc.length < line ∧ lcW stay g own cond elt D ss Q r (gu G2 D (.lst (acc ++ [y]))) else lcW stay g own cond elt D ss Q r G1

section
variable (M : Gm)
mutual
def wpE : E → Sl → Gp → XT → QT → Prop
  | .no, _, _, _, _ => False
  | .var i, ss, G, _, Q => ∃ t, ss[i]? = some (some t) ∧ Q t G
  | .kc t, _, G, _, Q => Q t G
  | .gl x, _, G, _, Q => ∃ t, M.cst x = some t ∧ Q t G
  | .tup es, ss, G, X, Q => wpEs es ss G X fun ts G1 => Q (.tup ts) G1
  | .lst es, ss, G, X, Q => wpEs es ss G X fun ts G1 => ∀ p, G1 p = none → Q (.ref p) (gu G1 p (.lst ts))
  | .dct ks es, ss, G, X, Q => ∀ p, G p = none → wpEs es ss (gu G p (.dct [])) X fun ts G1 => G1 p = some (.dct []) ∧ ts.length = ks.length ∧ Q (.ref p) (gu G1 p (.dct ((ks.map Sum.inr).zip ts)))
  | .bin o a b, ss, G, X, Q => wpE a ss G X fun x G1 => wpE b ss G1 X fun y G2 => binW o x y G2 Q
  | .neg a, ss, G, X, Q => wpE a ss G X fun x G1 => ∃ i, x = .int i ∧ Q (.int (-i)) G1
  | .cmp o a b, ss, G, X, Q => wpE a ss G X fun x G1 => wpE b ss G1 X fun y G2 => cmpW o x y G2 Q
  | .land es, ss, G, X, Q => wpAnd es ss G X Q
  | .lor es, ss, G, X, Q => wpOr es ss G X Q
  | .lnot a, ss, G, X, Q => wpE a ss G X fun x G1 => ∃ b, x = .bl b ∧ Q (.bl (!b)) G1
  | .ife c a b, ss, G, X, Q => wpE c ss G X fun x G1 => ∃ k, x = .bl k ∧ if k = true then wpE a ss G1 X Q else wpE b ss G1 X Q
  | .ix a i, ss, G, X, Q => wpE a ss G X fun x G1 => wpE i ss G1 X fun y G2 => ixW x y G2 Q
  | .dx a i, ss, G, X, Q => wpE a ss G X fun x G1 => wpE i ss G1 X fun y G2 => dxW x y G2 Q
  | .sl a lo hi, ss, G, X, Q => wpE a ss G X fun x G1 => wpO lo ss G1 X fun l G2 => wpO hi ss G2 X fun h G3 => slW x l h G3 Q
  | .fld a f, ss, G, X, Q => wpE a ss G X fun x G1 => fldW f x G1 Q
  | .call f es, ss, G, X, Q => ∃ sp, M.fn "" f = some sp ∧ wpEs es ss G X fun ts G1 => sp ts G1 Q X
  | .meth a m es, ss, G, X, Q => wpE a ss G X fun x G1 => ∃ p C fs sp, x = .ref p ∧ G1 p = some (.ins C fs) ∧ fGet fs m = none ∧ M.fn C m = some sp ∧ wpEs es ss G1 X fun ts G2 => sp (.ref p :: ts) G2 Q X
  | .make C es, ss, G, X, Q => ∃ sp, M.fn C "__init__" = some sp ∧ wpEs es ss G X fun ts G1 => ∀ p, G1 p = none → sp (.ref p :: ts) (gu G1 p (.ins C [])) (fun v G2 => v = .non ∧ Q (.ref p) G2) X
  | .bi f es, ss, G, X, Q => wpEs es ss G X fun ts G1 => biW f ts G1 Q
  | .bm a m es, ss, G, X, Q => wpE a ss G X fun x G1 => bmT m x G1 ∧ wpEs es ss G1 X fun ts G2 => bmW m x ts G2 Q
  | .isi a ty, ss, G, X, Q => wpE a ss G X fun x G1 => isiW ty x G1 Q
  | .isx C, _, G, _, Q => ∃ c fs, M.xc = some (c, fs) ∧ Q (.bl (M.sub c C)) G
  | .xf f, _, G, _, Q => ∃ c fs v, M.xc = some (c, fs) ∧ fGet fs f = some v ∧ Q v G
  | .lc elt own g it cond, ss, G, X, Q => wpI it ss G X fun J G1 => ∀ D, G1 D = none →
      lcW J.stay g own (fun s1 G2 Q2 => wpC cond s1 G2 (fun _ _ _ => False) Q2) (fun s1 G2 Q2 => wpE elt s1 G2 (fun _ _ _ => False) Q2) D ss Q J.items (gu G1 D (.lst []))
  | .gen _ _ _ _, _, _, _, _ => False
termination_by structural x => x
def wpC : E → Sl → Gp → XT → QT → Prop
  | .no, _, G, _, Q => Q (.bl true) G
  | .var i, ss, G, _, Q => ∃ t, ss[i]? = some (some t) ∧ Q t G
  | .cmp o a b, ss, G, X, Q => wpE a ss G X fun x G1 => wpE b ss G1 X fun y G2 => cmpW o x y G2 Q
  | .isi a ty, ss, G, X, Q => wpE a ss G X fun x G1 => isiW ty x G1 Q
  | _, _, _, _, _ => False
termination_by structural x => x
def wpO : E → Sl → Gp → XT → (Option Int → Gp → Prop) → Prop
  | .no, _, G, _, Q => Q none G
  | .var i, ss, G, _, Q => ∃ j, ss[i]? = some (some (.int j)) ∧ Q (some j) G
  | .kc t, _, G, _, Q => ∃ j, t = .int j ∧ Q (some j) G
  | .neg a, ss, G, X, Q => wpE a ss G X fun x G1 => ∃ i, x = .int i ∧ ∃ j, T.int (-i) = .int j ∧ Q (some j) G1
  | .bin o a b, ss, G, X, Q => wpE a ss G X fun x G1 => wpE b ss G1 X fun y G2 => binW o x y G2 fun z G3 => ∃ j, z = .int j ∧ Q (some j) G3
  | .ix a b, ss, G, X, Q => wpE a ss G X fun x G1 => wpE b ss G1 X fun y G2 => ixW x y G2 fun z G3 => ∃ j, z = .int j ∧ Q (some j) G3
  | .call f es, ss, G, X, Q => ∃ sp, M.fn "" f = some sp ∧ wpEs es ss G X fun ts G1 => sp ts G1 (fun z G3 => ∃ j, z = .int j ∧ Q (some j) G3) X
  | _, _, _, _, _ => False
termination_by structural x => x
def wpEs : Es → Sl → Gp → XT → (List T → Gp → Prop) → Prop
  | .nil, _, G, _, Q => Q [] G
  | .cons e r, ss, G, X, Q => wpE e ss G X fun x G1 => wpEs r ss G1 X fun xs G2 => Q (x :: xs) G2
termination_by structural x => x
def wpAnd : Es → Sl → Gp → XT → QT → Prop
  | .nil, _, _, _, _ => False
  | .cons e .nil, ss, G, X, Q => wpE e ss G X Q
  | .cons e (.cons f r), ss, G, X, Q => wpE e ss G X fun x G1 => ∃ b, x = .bl b ∧ if b = true then wpAnd (.cons f r) ss G1 X Q else Q (.bl false) G1
termination_by structural x => x
def wpOr : Es → Sl → Gp → XT → QT → Prop
  | .nil, _, _, _, _ => False
  | .cons e .nil, ss, G, X, Q => wpE e ss G X Q
  | .cons e (.cons f r), ss, G, X, Q => wpE e ss G X fun x G1 => ∃ b, x = .bl b ∧ if b = true then Q (.bl true) G1 else wpOr (.cons f r) ss G1 X Q
termination_by structural x => x
def wpI : It → Sl → Gp → XT → (Sq → Gp → Prop) → Prop
  | .tup e, ss, G, X, R => wpE e ss G X fun x G1 => ∃ xs, x = .tup xs ∧ R (.fix xs) G1
  | .lst e, ss, G, X, R => wpE e ss G X fun x G1 => ∃ a xs, x = .ref a ∧ G1 a = some (.lst xs) ∧ R (.at_ a xs) G1
  | .str e, ss, G, X, R => wpE e ss G X fun x G1 => ∃ s, x = .str s ∧ R (.fix (s.toList.map fun c => .str (String.singleton c))) G1
  | .rng es, ss, G, X, R => wpEs es ss G X fun ts G1 => rngW ts G1 R
  | .revl e, ss, G, X, R => wpE e ss G X fun x G1 => ∃ a xs, x = .ref a ∧ G1 a = some (.lst xs) ∧ R (.at_ a xs) G1
  | .revt e, ss, G, X, R => wpE e ss G X fun x G1 => ∃ xs, x = .tup xs ∧ R (.fix xs.reverse) G1
  | .revr e, ss, G, X, R => wpE e ss G X fun x G1 => ∃ n : Int, x = .int n ∧ (0 ≤ n ∧ n < 2 ^ 40) ∧ R (.fix (upto (n - 1) (-1) n.toNat)) G1
termination_by structural x => x
end
end
mutual
def wpS : S → Gm → Sl → Gp → En → Prop
  | .asg i e, M, ss, G, D => wpE M e ss G (D.ex ss) fun x G1 => D.nx (ss.set i (some x)) G1
  | .ast is e, M, ss, G, D => wpE M e ss G (D.ex ss) fun x G1 => tgW (.tp is) x ss fun s1 => D.nx s1 G1
  | .asf o f e, M, ss, G, D => wpE M e ss G (D.ex ss) fun x G1 => wpE M o ss G1 (D.ex ss) fun y G2 => ∃ a C fs, y = .ref a ∧ G2 a = some (.ins C fs) ∧ fs.length < 1000 ∧ M.fld C f = true ∧ D.nx ss (gu G2 a (.ins C (fPut f x fs)))
  | .asi o i e, M, ss, G, D => wpE M e ss G (D.ex ss) fun x G1 => wpE M o ss G1 (D.ex ss) fun y G2 => wpE M i ss G2 (D.ex ss) fun z G3 => ∃ a xs k j, y = .ref a ∧ z = .int k ∧ G3 a = some (.lst xs) ∧ ixN xs.length k = some j ∧ D.nx ss (gu G3 a (.lst (xs.set j x)))
  | .asd o i e, M, ss, G, D => wpE M e ss G (D.ex ss) fun x G1 => wpE M o ss G1 (D.ex ss) fun y G2 => wpE M i ss G2 (D.ex ss) fun z G3 => ∃ a kvs k, y = .ref a ∧ keyT z = some k ∧ G3 a = some (.dct kvs) ∧ kvs.length < line ∧ D.nx ss (gu G3 a (.dct (dPut kvs k x)))
  | .ex e, M, ss, G, D => wpE M e ss G (D.ex ss) fun _ G1 => D.nx ss G1
  | .ret e, M, ss, G, D => wpE M e ss G (D.ex ss) D.rt
  | .retn, M, _, G, D => D.rt .non G
  | .ite c a b, M, ss, G, D => wpE M c ss G (D.ex ss) fun x G1 => ∃ k, x = .bl k ∧ if k = true then wpSs a M ss G1 D else wpSs b M ss G1 D
  | .for_ g it body, M, ss, G, D => wpI M it ss G (D.ex ss) fun J G1 => forW J.stay g (fun s2 G2 D2 => wpSs body M s2 G2 D2) D J.items ss G1
  | .whl c body, M, ss, G, D => whlW (fun s2 G2 X Q => wpE M c s2 G2 X Q) (fun s2 G2 D2 => wpSs body M s2 G2 D2) D ss G
  | .pass, M, ss, G, D => D.nx ss G
  | .raise C es, M, ss, G, D => wpEs M es ss G (D.ex ss) fun ts G1 => ∃ fs, M.xfs C = some fs ∧ fs.length = ts.length ∧ D.ex ss C (fs.zip ts) G1
  | .try_ body C i suite, M, ss, G, D => wpSs body M ss G { nx := D.nx, rt := D.rt, bk := D.bk, ct := D.ct, ex := fun s1 c fs G1 => (M.sub c C = true → wpSs suite { M with xc := some (c, fs) } (s1.set i none) G1 { nx := fun s2 G2 => D.nx (s2.set i none) G2, rt := D.rt, bk := fun s2 G2 => D.bk (s2.set i none) G2, ct := fun s2 G2 => D.ct (s2.set i none) G2, ex := fun _ _ _ _ => False }) ∧ (M.sub c C = false → D.ex s1 c fs G1) }
termination_by structural x => x
def wpSs : Ss → Gm → Sl → Gp → En → Prop
  | .nil, M, ss, G, D => D.nx ss G
  | .cons s r, M, ss, G, D => wpS s M ss G { D with nx := fun s1 G1 => wpSs r M s1 G1 D }
termination_by structural x => x
end
end SK

set_option Elab.async false
set_option linter.all false
set_option maxRecDepth 100000
/-! SK3: operators, subscripts, builtins by values: the layer's rules give what the wp asks. -/
namespace SK
open PySem PySem.Spec PyProof.Rows L2

section
variable {S : Stc} {K : PySem.W.Frag} {H : Hp}
theorem rt_non : RT K H .non .non := by unfold RT; rfl
theorem rt_bl {b : Bool} : RT K H (.bl b) (.bl b) := by unfold RT; rfl
theorem rt_int {i : Int} : RT K H (.int i) (.int i) := by unfold RT; rfl
theorem rt_str {s : String} : RT K H (.str s) (.str (Str.ofString s)) := by unfold RT; rfl
theorem rt_ref {a : Addr} : RT K H (.ref a) (.ref a) := by unfold RT; rfl
theorem rt_tup {a : Addr} {ts : List T} {vs : List V} (h : SqT K H a vs) (r : RTs K H ts vs) : RT K H (.tup ts) (.ref a) := by unfold RT; exact ⟨a, vs, rfl, h, r⟩
theorem of_non {v : V} (h : RT K H .non v) : v = .non := by unfold RT at h; exact h
theorem of_bl {b : Bool} {v : V} (h : RT K H (.bl b) v) : v = .bl b := by unfold RT at h; exact h
theorem of_int {i : Int} {v : V} (h : RT K H (.int i) v) : v = .int i := by unfold RT at h; exact h
theorem of_str {s : String} {v : V} (h : RT K H (.str s) v) : v = .str (Str.ofString s) := by unfold RT at h; exact h
theorem of_ref {a : Addr} {v : V} (h : RT K H (.ref a) v) : v = .ref a := by unfold RT at h; exact h
theorem of_tup {ts : List T} {v : V} (h : RT K H (.tup ts) v) : ∃ a vs, v = .ref a ∧ SqT K H a vs ∧ RTs K H ts vs := by unfold RT at h; exact h
theorem of_frl {ts : List T} {v : V} (h : RT K H (.frl ts) v) : ∃ a vs, v = .ref a ∧ FL K H a vs ∧ RTs K H ts vs := by unfold RT at h; exact h
end

/-- what follows, from the wp's wish to the layer's -/
def Cont (S : Stc) (K : PySem.W.Frag) (H : Hp) (Q' : QT) (Q : VK) : Prop := ∀ t G' v H', HX H H' → RT K H' t v → Sim S K H' G' → Q' t G' → Q v H'
theorem Cont.step {S : Stc} {K : PySem.W.Frag} {H H1 : Hp} {Q' : QT} {Q : VK} (c : Cont S K H Q' Q) (x : HX H H1) : Cont S K H1 Q' Q := fun t G' v H' x' r m q => c t G' v H' (x.trans x') r m q
def up1 (S : Stc) (K : PySem.W.Frag) (f : T → Gp → QT → Prop) : V → Hp → VK → Prop := fun v H Q => ∃ x G Q', RT K H x v ∧ Sim S K H G ∧ f x G Q' ∧ Cont S K H Q' Q
def up2 (S : Stc) (K : PySem.W.Frag) (f : T → T → Gp → QT → Prop) : R2 := fun v u H Q => ∃ x y G Q', RT K H x v ∧ RT K H y u ∧ Sim S K H G ∧ f x y G Q' ∧ Cont S K H Q' Q
def upL (S : Stc) (K : PySem.W.Frag) (f : List T → Gp → QT → Prop) : List V → Hp → VK → Prop := fun vs H Q => ∃ xs G Q', RTs K H xs vs ∧ Sim S K H G ∧ f xs G Q' ∧ Cont S K H Q' Q
def upM (S : Stc) (K : PySem.W.Frag) (f : T → List T → Gp → QT → Prop) : V → List V → Hp → VK → Prop := fun v vs H Q => ∃ x xs G Q', RT K H x v ∧ RTs K H xs vs ∧ Sim S K H G ∧ f x xs G Q' ∧ Cont S K H Q' Q

section
variable {S : Stc} {K : PySem.W.Frag} {H : Hp} {G : Gp} {Q' : QT} {Q : VK}
/-- nothing has changed -/
theorem Cont.here (c : Cont S K H Q' Q) (m : Sim S K H G) {t : T} {v : V} (r : RT K H t v) (q : Q' t G) : Q v H := c t G v H (HX.refl H) r m q
theorem line_eq : line = sizeLine := by rw [sizeLine_eq]
theorem le_line {n : Nat} (h : n ≤ line) : n ≤ sizeLine := line_eq ▸ h
theorem lt_line {n : Nat} (h : n < line) : n < sizeLine := line_eq ▸ h
/-- a list of G -/
theorem Sim.lst (m : Sim S K H G) {a : Addr} {xs : List T} (e : G a = some (.lst xs)) : ∃ vs, H a = some (.lst vs) ∧ RTs K H xs vs := by
  obtain ⟨ho, h1, vs, rfl, h2⟩ := m.obj a _ e
  exact ⟨vs, h1, h2⟩
theorem Sim.dct (m : Sim S K H G) {a : Addr} {xs : List (DK × T)} (e : G a = some (.dct xs)) : ∃ l, H a = some (.dK l) ∧ RK K H xs l := by
  obtain ⟨ho, h1, vs, rfl, h2⟩ := m.obj a _ e
  exact ⟨vs, h1, h2⟩
theorem Sim.ins (m : Sim S K H G) {a : Addr} {C : String} {fs : List (String × T)} (e : G a = some (.ins C fs)) : ∃ ca dx l, H a = some (.ins ca dx l) ∧ S.cls C = some ca ∧ RF K H fs l ∧ ∀ p ∈ fs, S.fld C p.1 = true := by
  obtain ⟨ho, h1, ca, dx, l, rfl, h2⟩ := m.obj a _ e
  exact ⟨ca, dx, l, h1, h2⟩
/-- a new list, a new dict, a new tuple -/
theorem Cont.newL (c : Cont S K H Q' Q) (m : Sim S K H G) {p : Addr} {ts : List T} {vs : List V} (hp : H p = none) (r : RTs K H ts vs) (q : ∀ p, G p = none → Q' (.ref p) (gu G p (.lst ts))) : Q (.ref p) (upd H p (.lst vs)) :=
  c _ _ _ _ (HX.new hp) rt_ref (m.new hp (show RO S K _ (.lst ts) (.lst vs) from ⟨vs, rfl, RTs.mono (HX.new hp) _ _ r⟩)) (q p (m.free hp))
theorem Cont.newD (c : Cont S K H Q' Q) (m : Sim S K H G) {p : Addr} {ts : List (DK × T)} {vs : List (Key × V)} (hp : H p = none) (r : RK K H ts vs) (q : ∀ p, G p = none → Q' (.ref p) (gu G p (.dct ts))) : Q (.ref p) (upd H p (.dK vs)) :=
  c _ _ _ _ (HX.new hp) rt_ref (m.new hp (show RO S K _ (.dct ts) (.dK vs) from ⟨vs, rfl, RK.mono (HX.new hp) _ _ r⟩)) (q p (m.free hp))
theorem Cont.newT (c : Cont S K H Q' Q) (m : Sim S K H G) {p : Addr} {ts : List T} {vs : List V} (hp : H p = none) (r : RTs K H ts vs) (q : Q' (.tup ts) G) : Q (.ref p) (upd H p (.tup vs)) :=
  c _ _ _ _ (HX.new hp) (rt_tup (.of upd_same) (RTs.mono (HX.new hp) _ _ r)) (m.aside hp) q
theorem RTs.empty {ts : List T} {vs : List V} (r : RTs K H ts vs) : vs = [] ↔ ts = [] := by
  have := r.length
  constructor
  · intro e; subst e; exact List.eq_nil_of_length_eq_zero (by simpa using this)
  · intro e; subst e; exact List.eq_nil_of_length_eq_zero (by simpa using this.symm)
end

section
variable {X : Cx} {S : Stc}
theorem op_addW : OpR X (binaryOp .Add) (up2 S X.K addW) := by
  intro pins s σ H v u v' u' Q I r1 r2 ⟨x, y, G, Q', hx, hy, sm, w, c⟩
  cases x <;> cases y <;> (try exact False.elim w)
  case int.int i j =>
    cases of_int hx; cases of_int hy
    exact op_add pins s σ H _ _ _ _ Q I r1 r2 ⟨_, _, rfl, rfl, c.here sm rt_int w⟩
  case str.str a b =>
    cases of_str hx; cases of_str hy
    obtain ⟨hl, w⟩ := w
    refine op_add_str pins s σ H _ _ _ _ Q I r1 r2 ⟨_, _, rfl, rfl, by rw [ofS_len, ofS_len]; exact le_line hl, ?_⟩
    rw [← ofS_append]
    exact c.here sm rt_str w
  case tup.tup xs ys =>
    obtain ⟨a, vs, rfl, ha, ra⟩ := of_tup hx
    obtain ⟨b, us, rfl, hb, rb⟩ := of_tup hy
    obtain ⟨hl, w⟩ := w
    refine op_catA pins s σ H _ _ _ _ Q I r1 r2 ⟨_, _, _, _, rfl, rfl, ha, hb, by rw [← ra.length, ← rb.length]; exact le_line hl, fun e => ?_, fun _ e => ?_, fun _ _ p hp => ?_⟩
    · have e2 := ra.empty.mp e
      subst e2
      exact c.here sm (rt_tup hb rb) w
    · have e2 := rb.empty.mp e
      subst e2
      rw [List.append_nil] at w
      exact c.here sm (rt_tup ha ra) w
    · exact c.newT sm hp (ra.append rb) w
  case ref.ref a b =>
    cases of_ref hx; cases of_ref hy
    obtain ⟨xs, ys, ea, eb, hl, w⟩ := w
    obtain ⟨vs, ha, ra⟩ := sm.lst ea
    obtain ⟨us, hb, rb⟩ := sm.lst eb
    exact op_cat pins s σ H _ _ _ _ Q I r1 r2 ⟨_, _, _, _, rfl, rfl, ha, hb, by rw [← ra.length, ← rb.length]; exact le_line hl, fun p hp => c.newL sm hp (ra.append rb) w⟩
theorem op_subW : OpR X (binaryOp .Sub) (up2 S X.K subW) := by
  intro pins s σ H v u v' u' Q I r1 r2 ⟨x, y, G, Q', hx, hy, sm, w, c⟩
  cases x <;> cases y <;> (try exact False.elim w)
  case int.int i j =>
    cases of_int hx; cases of_int hy
    exact op_sub pins s σ H _ _ _ _ Q I r1 r2 ⟨_, _, rfl, rfl, c.here sm rt_int w⟩
theorem op_fdvW : OpR X (binaryOp .FloorDiv) (up2 S X.K fdvW) := by
  intro pins s σ H v u v' u' Q I r1 r2 ⟨x, y, G, Q', hx, hy, sm, w, c⟩
  cases x <;> cases y <;> (try exact False.elim w)
  case int.int i j =>
    cases of_int hx; cases of_int hy
    exact op_fdiv pins s σ H _ _ _ _ Q I r1 r2 ⟨_, _, rfl, rfl, w.1, c.here sm rt_int w.2⟩
theorem op_modW : OpR X (binaryOp .Mod) (up2 S X.K modW) := by
  intro pins s σ H v u v' u' Q I r1 r2 ⟨x, y, G, Q', hx, hy, sm, w, c⟩
  cases x <;> cases y <;> (try exact False.elim w)
  case int.int i j =>
    cases of_int hx; cases of_int hy
    exact op_mod pins s σ H _ _ _ _ Q I r1 r2 ⟨_, _, rfl, rfl, w.1, c.here sm rt_int w.2⟩
theorem op_powW : OpR X (binaryOp .Pow) (up2 S X.K powW) := by
  intro pins s σ H v u v' u' Q I r1 r2 ⟨x, y, G, Q', hx, hy, sm, w, c⟩
  cases x <;> cases y <;> (try exact False.elim w)
  case int.int i j =>
    cases of_int hx; cases of_int hy
    exact op_pow pins s σ H _ _ _ _ Q I r1 r2 ⟨_, _, rfl, rfl, w.1, c.here sm rt_int w.2⟩
theorem op_mulW : OpR X (binaryOp .Mult) (up2 S X.K mulW) := by
  intro pins s σ H v u v' u' Q I r1 r2 ⟨x, y, G, Q', hx, hy, sm, w, c⟩
  cases x <;> cases y <;> (try exact False.elim w)
  case int.int i j =>
    cases of_int hx; cases of_int hy
    exact op_mul pins s σ H _ _ _ _ Q I r1 r2 ⟨_, _, rfl, rfl, w.1, c.here sm rt_int w.2⟩
  case tup.int xs k =>
    obtain ⟨a, vs, rfl, ha, ra⟩ := of_tup hx
    cases of_int hy
    obtain ⟨hne, hl, h2, h3, w⟩ := w
    exact op_repT pins s σ H _ _ _ _ Q I r1 r2 ⟨_, _, _, rfl, rfl, ha, fun e => hne (ra.empty.mp e), h2, h3, by rw [← ra.length]; exact hl, fun p hp => c.newT sm hp (ra.rep _) w⟩
  case ref.int a k =>
    cases of_ref hx; cases of_int hy
    obtain ⟨xs, ea, h1, h2, hl, w⟩ := w
    obtain ⟨vs, ha, ra⟩ := sm.lst ea
    exact op_rep pins s σ H _ _ _ _ Q I r1 r2 ⟨_, _, _, rfl, rfl, ha, h1, h2, by rw [← ra.length]; exact le_line hl, fun p hp => c.newL sm hp (ra.rep _) w⟩
end

/-! ### comparisons -/
mutual
def toD : T → PyData
  | .non => .none
  | .bl b => .bool b
  | .int i => .int i
  | .str s => .str (Str.ofString s)
  | .tup xs => .tuple (toDs xs)
  | _ => .none
def toDs : List T → List PyData
  | [] => []
  | x :: xs => toD x :: toDs xs
end
theorem strOk_ofS (a : String) : PyData.strOk (Str.ofString a) = true := by
  unfold PyData.strOk
  rw [Str.ofString_eq_toList]
  simp only [List.all_toArray, List.all_map, List.all_eq_true]
  intro c _
  have h := c.valid
  simp only [UInt32.isValidChar, Nat.isValidChar] at h
  simp only [Function.comp, decide_eq_true_eq]
  show c.val.toNat < 1114112
  omega
section
variable {K : PySem.W.Frag} {H : Hp}
mutual
theorem dp_of : ∀ (x : T) (n : Nat) (v : V), isD n x = true → RT K H x v → Dp K H v (toD x)
  | .non, n, v, _, r => by rw [of_non r]; exact .non
  | .bl b, n, v, _, r => by rw [of_bl r]; exact .bl b
  | .int i, n, v, _, r => by rw [of_int r]; exact .int i
  | .str s, n, v, _, r => by rw [of_str r]; exact .str _
  | .tup xs, 0, v, h, _ => by simp [isD] at h
  | .tup xs, n + 1, v, h, r => by
    obtain ⟨a, vs, rfl, q, rr⟩ := of_tup r
    unfold toD
    exact .tup q (dps_of xs n vs (by simpa [isD] using h) rr)
  | .frl xs, n, v, h, _ => by simp [isD] at h
  | .ref a, n, v, h, _ => by simp [isD] at h
theorem dps_of : ∀ (xs : List T) (n : Nat) (vs : List V), isDs n xs = true → RTs K H xs vs → DpAll K H vs (toDs xs)
  | [], n, vs, _, r => by unfold RTs at r; subst r; exact .nil
  | x :: xs, n, vs, h, r => by
    unfold RTs at r
    obtain ⟨v, r', rfl, h1, h2⟩ := r
    unfold isDs at h
    rw [Bool.and_eq_true] at h
    exact .cons (dp_of x n v h.1 h1) (dps_of xs n r' h.2 h2)
end
end
mutual
theorem lay_of : ∀ (x : T) (n : Nat), isD n x = true → (toD x).canLay0 = true ∧ (toD x).depth ≤ n
  | .non, n, _ => ⟨by simp [toD, PyData.canLay0], by simp [toD, PyData.depth]⟩
  | .bl b, n, _ => ⟨by simp [toD, PyData.canLay0], by simp [toD, PyData.depth]⟩
  | .int i, n, _ => ⟨by simp [toD, PyData.canLay0], by simp [toD, PyData.depth]⟩
  | .str s, n, _ => ⟨by simp only [toD, PyData.canLay0]; exact strOk_ofS s, by simp [toD, PyData.depth]⟩
  | .tup xs, 0, h => by simp [isD] at h
  | .tup xs, n + 1, h => by
    have z := lays_of xs n (by simpa [isD] using h)
    exact ⟨by simp only [toD, PyData.canLay0]; exact z.1, by simp only [toD, PyData.depth]; exact Nat.succ_le_succ z.2⟩
  | .frl xs, n, h => by simp [isD] at h
  | .ref a, n, h => by simp [isD] at h
theorem lays_of : ∀ (xs : List T) (n : Nat), isDs n xs = true → PyData.canLayAll0 (toDs xs) = true ∧ PyData.depthAll (toDs xs) ≤ n
  | [], n, _ => ⟨by simp [toDs, PyData.canLayAll0], by simp [toDs, PyData.depthAll]⟩
  | x :: xs, n, h => by
    unfold isDs at h
    rw [Bool.and_eq_true] at h
    have z1 := lay_of x n h.1
    have z2 := lays_of xs n h.2
    exact ⟨by simp only [toDs, PyData.canLayAll0, z1.1, z2.1, Bool.and_self], by simp only [toDs, PyData.depthAll]; exact Nat.max_le.mpr ⟨z1.2, z2.2⟩⟩
end
theorem shaped_of {x : T} (h : isD 60 x = true) : SeqAt.shaped (toD x) = true := by
  have z := lay_of x 60 h
  unfold SeqAt.shaped
  rw [z.1, Bool.true_and]
  exact decide_eq_true (by omega)
theorem ofS_beq (a b : String) : (Str.ofString a == Str.ofString b) = (a == b) := by
  rw [Bool.eq_iff_iff, beq_iff_eq, beq_iff_eq]
  exact ofS_iff
mutual
theorem teq_eqv : ∀ (x y : T) (n m : Nat), isD n x = true → isD m y = true → PyData.eqv (toD x) (toD y) = teq x y
  | .tup xs, .tup ys, n, m, h1, h2 => by
    cases n with
    | zero => simp [isD] at h1
    | succ n =>
      cases m with
      | zero => simp [isD] at h2
      | succ m =>
        simp only [toD, PyData.eqv, teq]
        exact teqs_eqv xs ys n m (by simpa [isD] using h1) (by simpa [isD] using h2)
  | .frl xs, _, n, m, h1, h2 => by simp [isD] at h1
  | .ref xs, _, n, m, h1, h2 => by simp [isD] at h1
  | _, .frl xs, n, m, h1, h2 => by simp [isD] at h2
  | _, .ref xs, n, m, h1, h2 => by simp [isD] at h2
  | .str a, .str b, n, m, h1, h2 => by simp only [toD, PyData.eqv, teq]; exact ofS_beq a b
  | .non, .non, _, _, _, _ | .non, .bl _, _, _, _, _ | .non, .int _, _, _, _, _ | .non, .str _, _, _, _, _ | .non, .tup _, _, _, _, _
  | .bl _, .non, _, _, _, _ | .bl _, .bl _, _, _, _, _ | .bl _, .int _, _, _, _, _ | .bl _, .str _, _, _, _, _ | .bl _, .tup _, _, _, _, _
  | .int _, .non, _, _, _, _ | .int _, .bl _, _, _, _, _ | .int _, .int _, _, _, _, _ | .int _, .str _, _, _, _, _ | .int _, .tup _, _, _, _, _
  | .str _, .non, _, _, _, _ | .str _, .bl _, _, _, _, _ | .str _, .int _, _, _, _, _ | .str _, .tup _, _, _, _, _
  | .tup _, .non, _, _, _, _ | .tup _, .bl _, _, _, _, _ | .tup _, .int _, _, _, _, _ | .tup _, .str _, _, _, _, _ => by simp only [toD, PyData.eqv, teq]
theorem teqs_eqv : ∀ (xs ys : List T) (n m : Nat), isDs n xs = true → isDs m ys = true → PyData.eqvAll (toDs xs) (toDs ys) = teqs xs ys
  | [], [], _, _, _, _ => by simp only [toDs, PyData.eqvAll, teqs]
  | [], _ :: _, _, _, _, _ => by simp only [toDs, PyData.eqvAll, teqs]
  | _ :: _, [], _, _, _, _ => by simp only [toDs, PyData.eqvAll, teqs]
  | x :: xs, y :: ys, n, m, h1, h2 => by
    unfold isDs at h1 h2
    rw [Bool.and_eq_true] at h1 h2
    simp only [toDs, PyData.eqvAll, teqs]
    rw [teq_eqv x y n m h1.1 h2.1, teqs_eqv xs ys n m h1.2 h2.2]
end
section
variable {X : Cx} {S : Stc}
theorem op_eqW (hu : X.A.units + 64 < cLine) : OpR X (compareOp .Eq) (up2 S X.K (cmpW .eq)) := by
  intro pins s σ H v u v' u' Q I r1 r2 ⟨x, y, G, Q', hx, hy, sm, w, c⟩
  obtain ⟨d1, d2, w⟩ := w
  refine op_eqD hu pins s σ H _ _ _ _ Q I r1 r2 ⟨_, _, dp_of x 60 _ d1 hx, dp_of y 60 _ d2 hy, shaped_of d1, shaped_of d2, ?_⟩
  rw [teq_eqv x y 60 60 d1 d2]
  exact c.here sm rt_bl w
theorem op_neW (hu : X.A.units + 64 < cLine) : OpR X (compareOp .NotEq) (up2 S X.K (cmpW .ne)) := by
  intro pins s σ H v u v' u' Q I r1 r2 ⟨x, y, G, Q', hx, hy, sm, w, c⟩
  obtain ⟨d1, d2, w⟩ := w
  refine op_neD hu pins s σ H _ _ _ _ Q I r1 r2 ⟨_, _, dp_of x 60 _ d1 hx, dp_of y 60 _ d2 hy, shaped_of d1, shaped_of d2, ?_⟩
  rw [teq_eqv x y 60 60 d1 d2]
  exact c.here sm rt_bl w
theorem op_ltW : OpR X (compareOp .Lt) (up2 S X.K (cmpW .lt)) := by
  intro pins s σ H v u v' u' Q I r1 r2 ⟨x, y, G, Q', hx, hy, sm, w, c⟩
  cases x <;> cases y <;> (try exact False.elim w)
  cases of_int hx; cases of_int hy
  exact op_lt pins s σ H _ _ _ _ Q I r1 r2 ⟨_, _, rfl, rfl, c.here sm rt_bl w⟩
theorem op_leW : OpR X (compareOp .LtE) (up2 S X.K (cmpW .le)) := by
  intro pins s σ H v u v' u' Q I r1 r2 ⟨x, y, G, Q', hx, hy, sm, w, c⟩
  cases x <;> cases y <;> (try exact False.elim w)
  cases of_int hx; cases of_int hy
  exact op_le pins s σ H _ _ _ _ Q I r1 r2 ⟨_, _, rfl, rfl, c.here sm rt_bl w⟩
theorem op_gtW : OpR X (compareOp .Gt) (up2 S X.K (cmpW .gt)) := by
  intro pins s σ H v u v' u' Q I r1 r2 ⟨x, y, G, Q', hx, hy, sm, w, c⟩
  cases x <;> cases y <;> (try exact False.elim w)
  cases of_int hx; cases of_int hy
  exact op_gt pins s σ H _ _ _ _ Q I r1 r2 ⟨_, _, rfl, rfl, c.here sm rt_bl w⟩
theorem op_geW : OpR X (compareOp .GtE) (up2 S X.K (cmpW .ge)) := by
  intro pins s σ H v u v' u' Q I r1 r2 ⟨x, y, G, Q', hx, hy, sm, w, c⟩
  cases x <;> cases y <;> (try exact False.elim w)
  cases of_int hx; cases of_int hy
  exact op_ge pins s σ H _ _ _ _ Q I r1 r2 ⟨_, _, rfl, rfl, c.here sm rt_bl w⟩
theorem isN_eq {x : T} {v : V} {K : PySem.W.Frag} {H : Hp} (r : RT K H x v) : decide (v = .non) = isNT x := by
  cases x with
  | non => rw [of_non r]; rfl
  | bl b => rw [of_bl r]; rfl
  | int b => rw [of_int r]; rfl
  | str b => rw [of_str r]; rfl
  | ref b => rw [of_ref r]; rfl
  | tup xs => obtain ⟨a, vs, rfl, _⟩ := of_tup r; rfl
  | frl xs => obtain ⟨a, vs, rfl, _⟩ := of_frl r; rfl
theorem op_isNW : OpR X (compareOp .Is) (up2 S X.K (cmpW .isN)) := by
  intro pins s σ H v u v' u' Q I r1 r2 ⟨x, y, G, Q', hx, hy, sm, w, c⟩
  obtain ⟨rfl, w⟩ := w
  refine op_isN pins s σ H _ _ _ _ Q I r1 r2 ⟨of_non hy, ?_⟩
  rw [isN_eq hx]
  exact c.here sm rt_bl w
theorem op_ntNW : OpR X (compareOp .IsNot) (up2 S X.K (cmpW .ntN)) := by
  intro pins s σ H v u v' u' Q I r1 r2 ⟨x, y, G, Q', hx, hy, sm, w, c⟩
  obtain ⟨rfl, w⟩ := w
  refine op_notN pins s σ H _ _ _ _ Q I r1 r2 ⟨of_non hy, ?_⟩
  rw [isN_eq hx]
  exact c.here sm rt_bl w
/-! flat members -/
theorem flat_of {K : PySem.W.Frag} {H : Hp} {x : T} {v : V} (f : flT x = true) (r : RT K H x v) : flatV v = true := by
  cases x <;> first | (cases f; done) | skip
  · rw [of_non r]; rfl
  · rw [of_bl r]; rfl
  · rw [of_int r]; rfl
  · rw [of_str r]; rfl
theorem flats_of {K : PySem.W.Frag} {H : Hp} : ∀ {xs : List T} {vs : List V}, xs.all flT = true → RTs K H xs vs → vs.all flatV = true
  | [], vs, _, r => by unfold RTs at r; subst r; rfl
  | x :: xs, vs, f, r => by
    unfold RTs at r
    obtain ⟨v, r', rfl, h1, h2⟩ := r
    rw [List.all_cons, Bool.and_eq_true] at f
    rw [List.all_cons, flat_of f.1 h1, flats_of f.2 h2]
    rfl
theorem eqV_teq {K : PySem.W.Frag} {H : Hp} {x y : T} {v u : V} (f : flT x = true) (g : flT y = true) (r : RT K H x v) (q : RT K H y u) : eqV v u = teq x y := by
  cases x <;> first | (cases f; done) | skip
  all_goals (cases y <;> first | (cases g; done) | skip)
  all_goals (first | (rw [of_non r]) | (rw [of_bl r]) | (rw [of_int r]) | (rw [of_str r]))
  all_goals (first | (rw [of_non q]) | (rw [of_bl q]) | (rw [of_int q]) | (rw [of_str q]))
  all_goals (simp only [eqV, teq])
  exact ofS_beq _ _
theorem inV_any {K : PySem.W.Frag} {H : Hp} {x : T} {v : V} (f : flT x = true) (r : RT K H x v) : ∀ {xs : List T} {vs : List V}, xs.all flT = true → RTs K H xs vs → inV v vs = xs.any fun y => teq y x
  | [], vs, _, q => by unfold RTs at q; subst q; rfl
  | y :: ys, vs, g, q => by
    unfold RTs at q
    obtain ⟨u, r', rfl, h1, h2⟩ := q
    rw [List.all_cons, Bool.and_eq_true] at g
    have ih := inV_any f r g.2 h2
    unfold inV at ih ⊢
    rw [List.any_cons, List.any_cons, ih, eqV_teq g.1 f h1 r]
theorem ofS_single (c : Char) : Str.ofString (String.singleton c) = ⟨#[c.toNat]⟩ := by
  rw [Str.ofString_eq_toList]
  have : (String.singleton c).toList = [c] := by simp
  rw [this]
  rfl
theorem ofS_cps (a : String) : (Str.ofString a).cps.toList = a.toList.map Char.toNat := by
  rw [Str.ofString_eq_toList]
theorem mem_chars {c : Char} {l : List Char} : c.toNat ∈ l.map Char.toNat ↔ c ∈ l := by
  rw [List.mem_map]
  constructor
  · rintro ⟨d, hd, e⟩
    rw [← Char.toNat_inj.mp e]
    exact hd
  · intro h
    exact ⟨c, h, rfl⟩
theorem op_inW : OpR X (compareOp .In) (up2 S X.K (cmpW .inS)) := by
  intro pins s σ H v u v' u' Q I r1 r2 ⟨x, y, G, Q', hx, hy, sm, w, c⟩
  cases y with
  | tup ys =>
    obtain ⟨a, vs, rfl, ha, ra⟩ := of_tup hy
    have w : flT x = true ∧ ys.all flT = true ∧ Q' (.bl (xor false (ys.any fun y => teq y x))) G := by cases x <;> exact w
    obtain ⟨f1, f2, w⟩ := w
    refine op_in_seq pins s σ H _ _ _ _ Q I r1 r2 ⟨a, vs, rfl, .inr ha, flat_of f1 hx, flats_of f2 ra, ?_⟩
    rw [inV_any f1 hx f2 ra]
    rw [Bool.false_xor] at w
    exact c.here sm rt_bl w
  | ref a =>
    cases of_ref hy
    have w : ∃ ys, G a = some (.lst ys) ∧ flT x = true ∧ ys.all flT = true ∧ Q' (.bl (xor false (ys.any fun y => teq y x))) G := by cases x <;> exact w
    obtain ⟨ys, ea, f1, f2, w⟩ := w
    obtain ⟨vs, ha, ra⟩ := sm.lst ea
    refine op_in_seq pins s σ H _ _ _ _ Q I r1 r2 ⟨a, vs, rfl, .inl (.of ha), flat_of f1 hx, flats_of f2 ra, ?_⟩
    rw [inV_any f1 hx f2 ra]
    rw [Bool.false_xor] at w
    exact c.here sm rt_bl w
  | str b =>
    cases x <;> (try exact False.elim w)
    obtain ⟨d, rfl, w⟩ := w
    cases of_str hx; cases of_str hy
    refine op_in_sign pins s σ H _ _ _ _ Q I r1 r2 ⟨d.toNat, Str.ofString b, by rw [ofS_single], rfl, ?_⟩
    rw [Bool.false_xor] at w
    rw [ofS_cps, decide_eq_decide.mpr mem_chars]
    exact c.here sm rt_bl w
  | _ => cases x <;> exact False.elim w
theorem op_niW : OpR X (compareOp .NotIn) (up2 S X.K (cmpW .niS)) := by
  intro pins s σ H v u v' u' Q I r1 r2 ⟨x, y, G, Q', hx, hy, sm, w, c⟩
  cases y with
  | tup ys =>
    obtain ⟨a, vs, rfl, ha, ra⟩ := of_tup hy
    have w : flT x = true ∧ ys.all flT = true ∧ Q' (.bl (xor true (ys.any fun y => teq y x))) G := by cases x <;> exact w
    obtain ⟨f1, f2, w⟩ := w
    refine op_notIn_seq pins s σ H _ _ _ _ Q I r1 r2 ⟨a, vs, rfl, .inr ha, flat_of f1 hx, flats_of f2 ra, ?_⟩
    rw [inV_any f1 hx f2 ra]
    rw [Bool.true_xor] at w
    exact c.here sm rt_bl w
  | ref a =>
    cases of_ref hy
    have w : ∃ ys, G a = some (.lst ys) ∧ flT x = true ∧ ys.all flT = true ∧ Q' (.bl (xor true (ys.any fun y => teq y x))) G := by cases x <;> exact w
    obtain ⟨ys, ea, f1, f2, w⟩ := w
    obtain ⟨vs, ha, ra⟩ := sm.lst ea
    refine op_notIn_seq pins s σ H _ _ _ _ Q I r1 r2 ⟨a, vs, rfl, .inl (.of ha), flat_of f1 hx, flats_of f2 ra, ?_⟩
    rw [inV_any f1 hx f2 ra]
    rw [Bool.true_xor] at w
    exact c.here sm rt_bl w
  | str b =>
    cases x <;> (try exact False.elim w)
    obtain ⟨d, rfl, w⟩ := w
    cases of_str hx; cases of_str hy
    refine op_notIn_sign pins s σ H _ _ _ _ Q I r1 r2 ⟨d.toNat, Str.ofString b, by rw [ofS_single], rfl, ?_⟩
    rw [Bool.true_xor] at w
    rw [ofS_cps, decide_eq_decide.mpr mem_chars]
    exact c.here sm rt_bl w
  | _ => cases x <;> exact False.elim w

/-! ### subscripts -/
theorem tAt_atI {α : Type} (xs : List α) (i : Int) : tAt xs i = atI xs i := by
  unfold tAt atI ixN
  split
  · split
    · rfl
    · rename_i h1 h2
      rw [List.getElem?_eq_none (by omega)]
      rfl
  · split
    · rfl
    · rfl
theorem RTs.at_ {K : PySem.W.Frag} {H : Hp} {xs : List T} {vs : List V} {i : Int} {t : T} (r : RTs K H xs vs) (h : tAt xs i = some t) : ∃ v, atI vs i = some v ∧ RT K H t v := by
  rw [← tAt_atI]
  unfold tAt at h ⊢
  rw [← r.length]
  split at h
  · rename_i h0
    rw [if_pos h0]
    exact r.get h
  · rename_i h0
    rw [if_neg h0]
    split at h
    · rename_i h1
      rw [if_pos h1]
      exact r.get h
    · cases h
theorem ix_W : IxR X (up2 S X.K ixW) := by
  intro value slice pins s σ H v u v' u' Q I r1 r2 ⟨x, y, G, Q', hx, hy, sm, w, c⟩ hs
  cases y <;> (try (cases x <;> exact False.elim w))
  rename_i i
  cases of_int hy
  cases x <;> (try exact False.elim w)
  case tup xs =>
    obtain ⟨a, vs, rfl, ha, ra⟩ := of_tup hx
    obtain ⟨t, e, w⟩ := w
    obtain ⟨z, e2, rz⟩ := ra.at_ e
    exact ix_tup value slice pins s σ H _ _ _ _ Q I r1 r2 ⟨_, _, _, _, rfl, rfl, ha, e2, c.here sm rz w⟩ hs
  case frl xs =>
    obtain ⟨a, vs, rfl, ha, ra⟩ := of_frl hx
    obtain ⟨t, e, w⟩ := w
    obtain ⟨z, e2, rz⟩ := ra.at_ e
    exact ix_list value slice pins s σ H _ _ _ _ Q I r1 r2 ⟨_, _, _, _, rfl, rfl, ha.sql, e2, c.here sm rz w⟩ hs
  case ref a =>
    cases of_ref hx
    obtain ⟨xs, t, ea, e, w⟩ := w
    obtain ⟨vs, ha, ra⟩ := sm.lst ea
    obtain ⟨z, e2, rz⟩ := ra.at_ e
    exact ix_list value slice pins s σ H _ _ _ _ Q I r1 r2 ⟨_, _, _, _, rfl, rfl, .of ha, e2, c.here sm rz w⟩ hs
  case str b =>
    cases of_str hx
    obtain ⟨d, hl, e, w⟩ := w
    refine ix_str value slice pins s σ H _ _ _ _ Q I r1 r2 ⟨_, _, d.toNat, rfl, rfl, by rw [ofS_len]; exact le_line hl, ?_, ?_⟩ hs
    · rw [ofS_cps, ← tAt_atI]
      unfold tAt at e ⊢
      simp only [List.length_map, List.getElem?_map]
      split at e
      · rename_i h0
        rw [if_pos h0, e]
        rfl
      · rename_i h0
        rw [if_neg h0]
        split at e
        · rename_i h1
          rw [if_pos h1, e]
          rfl
        · cases e
    · rw [← ofS_single]
      exact c.here sm rt_str w
theorem RTs.cut {K : PySem.W.Frag} {H : Hp} {xs : List T} {vs : List V} (r : RTs K H xs vs) (lo hi : Option Int) : RTs K H (cutT xs lo hi) (cutV vs lo hi) := by
  unfold cutT cutV
  rw [← r.length]
  exact (r.drop _).take _
theorem cutT_whole {α : Type} {xs : List α} {lo hi : Option Int} (h : HT.sIx xs.length 0 lo = 0 ∧ HT.sIx xs.length xs.length hi = xs.length) : cutT xs lo hi = xs := by
  unfold cutT
  rw [h.1, h.2]
  simp
theorem sl_W : SlR X (fun v lo hi H Q => ∃ x G Q', RT X.K H x v ∧ Sim S X.K H G ∧ slW x lo hi G Q' ∧ Cont S X.K H Q' Q) := by
  intro pins s σ H v v' vl vu lo hi sl Q I r1 hs p1 p2 ⟨x, G, Q', hx, sm, w, c⟩
  cases x <;> (try exact False.elim w)
  case tup xs =>
    obtain ⟨a, vs, rfl, ha, ra⟩ := of_tup hx
    have w : Q' (.tup (cutT xs lo hi)) G := w
    refine sl_tupA pins s σ H _ _ _ _ _ _ _ Q I r1 hs p1 p2 ⟨a, vs, rfl, ha, fun e => ?_, fun e p hp => ?_⟩
    · rw [← ra.length] at e
      rw [cutT_whole e] at w
      exact c.here sm (rt_tup ha ra) w
    · exact c.newT sm hp (ra.cut lo hi) w
  case ref a =>
    cases of_ref hx
    obtain ⟨xs, ea, w⟩ := w
    obtain ⟨vs, ha, ra⟩ := sm.lst ea
    exact sl_list pins s σ H _ _ _ _ _ _ _ Q I r1 hs p1 p2 ⟨a, vs, rfl, .of ha, fun p hp => c.newL sm hp (ra.cut lo hi) w⟩
end
end SK

set_option Elab.async false
set_option linter.all false
set_option maxRecDepth 100000
/-! SK4: builtins and methods by values. -/
namespace SK
open PySem PySem.Spec PyProof.Rows L2
section
variable {K : PySem.W.Frag} {H : Hp}
theorem RTs.one_of {x : T} {vs : List V} (r : RTs K H [x] vs) : ∃ v, vs = [v] ∧ RT K H x v := by
  unfold RTs at r
  obtain ⟨v, l, rfl, h1, h2⟩ := r
  unfold RTs at h2
  subst h2
  exact ⟨v, rfl, h1⟩
theorem RTs.two_of {x y : T} {vs : List V} (r : RTs K H [x, y] vs) : ∃ v u, vs = [v, u] ∧ RT K H x v ∧ RT K H y u := by
  unfold RTs at r
  obtain ⟨v, l, rfl, h1, h2⟩ := r
  obtain ⟨u, rfl, h3⟩ := h2.one_of
  exact ⟨v, u, rfl, h1, h3⟩
theorem RTs.nil_of {vs : List V} (r : RTs K H [] vs) : vs = [] := by unfold RTs at r; exact r
theorem RTs.to_bls : ∀ {bs : List Bool} {vs : List V}, RTs K H (bs.map T.bl) vs → vs = bs.map V.bl
  | [], vs, h => by unfold RTs at h; exact h
  | n :: ns, vs, h => by
    rw [List.map_cons] at h
    unfold RTs at h
    obtain ⟨v, r, rfl, h1, h2⟩ := h
    rw [of_bl h1, RTs.to_bls h2]
    rfl
end
section
variable {X : Cx} {S : Stc}
theorem call_lenW : CallR X (.builtin "len") (upL S X.K lenW) := by
  intro pins s σ H vs us Q I r ⟨xs, G, Q', rx, sm, w, c⟩
  rcases xs with _ | ⟨x, _ | ⟨y, _ | ⟨z, r4⟩⟩⟩
  · exact False.elim w
  · cases x <;> (try exact False.elim w)
    case str a =>
      obtain ⟨v, rfl, h⟩ := rx.one_of
      cases of_str h
      refine call_len_str pins s σ H _ us Q I r ⟨_, rfl, by rw [ofS_len]; exact le_line w.1, ?_⟩
      rw [ofS_len]
      exact c.here sm rt_int w.2
    case tup ts =>
      obtain ⟨v, rfl, h⟩ := rx.one_of
      obtain ⟨a, ws, rfl, ha, ra⟩ := of_tup h
      refine call_len_seq pins s σ H _ us Q I r ⟨_, _, rfl, .inr ha, ?_⟩
      rw [← ra.length]
      exact c.here sm rt_int w
    case frl ts =>
      obtain ⟨v, rfl, h⟩ := rx.one_of
      obtain ⟨a, ws, rfl, ha, ra⟩ := of_frl h
      refine call_len_seq pins s σ H _ us Q I r ⟨_, _, rfl, .inl ha.sql, ?_⟩
      rw [← ra.length]
      exact c.here sm rt_int w
    case ref a =>
      obtain ⟨v, rfl, h⟩ := rx.one_of
      cases of_ref h
      obtain ⟨ts, ea, w⟩ := w
      obtain ⟨ws, ha, ra⟩ := sm.lst ea
      refine call_len_seq pins s σ H _ us Q I r ⟨_, _, rfl, .inl (.of ha), ?_⟩
      rw [← ra.length]
      exact c.here sm rt_int w
  · cases x <;> exact False.elim w
  · cases x <;> (try exact False.elim w)
theorem call_intW : CallR X (.type "int") (upL S X.K intW) := by
  intro pins s σ H vs us Q I r ⟨xs, G, Q', rx, sm, w, c⟩
  rcases xs with _ | ⟨x, _ | ⟨y, _ | ⟨z, r4⟩⟩⟩
  · exact False.elim w
  · cases x <;> (try exact False.elim w)
    case int a =>
      obtain ⟨v, rfl, h⟩ := rx.one_of
      cases of_int h
      exact call_int1 pins s σ H _ us Q I r (.inl ⟨_, rfl, c.here sm rt_int w⟩)
  · cases x <;> exact False.elim w
  · cases x <;> (try exact False.elim w)
theorem call_strW : CallR X (.type "str") (upL S X.K strW) := by
  intro pins s σ H vs us Q I r ⟨xs, G, Q', rx, sm, w, c⟩
  rcases xs with _ | ⟨x, _ | ⟨y, _ | ⟨z, r4⟩⟩⟩
  · exact False.elim w
  · cases x <;> (try exact False.elim w)
    case int a =>
      obtain ⟨v, rfl, h⟩ := rx.one_of
      cases of_int h
      exact call_str_int pins s σ H _ us Q I r ⟨_, rfl, w.1, c.here sm rt_str w.2⟩
  · cases x <;> exact False.elim w
  · cases x <;> (try exact False.elim w)
theorem call_tupleW : CallR X (.type "tuple") (upL S X.K tupleW) := by
  intro pins s σ H vs us Q I r ⟨xs, G, Q', rx, sm, w, c⟩
  rcases xs with _ | ⟨x, _ | ⟨y, _ | ⟨z, r4⟩⟩⟩
  · exact False.elim w
  · cases x <;> (try exact False.elim w)
    case tup ts =>
      obtain ⟨v, rfl, h⟩ := rx.one_of
      obtain ⟨a, ws, rfl, ha, ra⟩ := of_tup h
      exact call_tuple_of pins s σ H _ us Q I r ⟨_, _, rfl, .inr ⟨ha, c.here sm (rt_tup ha ra) w⟩⟩
    case ref a =>
      obtain ⟨v, rfl, h⟩ := rx.one_of
      cases of_ref h
      obtain ⟨ts, ea, w⟩ := w
      obtain ⟨ws, ha, ra⟩ := sm.lst ea
      exact call_tuple_of pins s σ H _ us Q I r ⟨_, _, rfl, .inl ⟨.of ha, fun p hp => c.newT sm hp ra w⟩⟩
  · cases x <;> exact False.elim w
  · cases x <;> (try exact False.elim w)
theorem call_listW : CallR X (.type "list") (upL S X.K listW) := by
  intro pins s σ H vs us Q I r ⟨xs, G, Q', rx, sm, w, c⟩
  rcases xs with _ | ⟨x, _ | ⟨y, _ | ⟨z, r4⟩⟩⟩
  · exact False.elim w
  · cases x <;> (try exact False.elim w)
    case tup ts =>
      obtain ⟨v, rfl, h⟩ := rx.one_of
      obtain ⟨a, ws, rfl, ha, ra⟩ := of_tup h
      exact call_list_of pins s σ H _ us Q I r ⟨_, _, rfl, .inr ha, fun p hp => c.newL sm hp ra w⟩
    case ref a =>
      obtain ⟨v, rfl, h⟩ := rx.one_of
      cases of_ref h
      obtain ⟨ts, ea, w⟩ := w
      obtain ⟨ws, ha, ra⟩ := sm.lst ea
      exact call_list_of pins s σ H _ us Q I r ⟨_, _, rfl, .inl (.of ha), fun p hp => c.newL sm hp ra w⟩
  · cases x <;> exact False.elim w
  · cases x <;> (try exact False.elim w)
theorem call_dictW : CallR X (.type "dict") (upL S X.K dictW) := by
  intro pins s σ H vs us Q I r ⟨xs, G, Q', rx, sm, w, c⟩
  rcases xs with _ | ⟨x, _ | ⟨y, _ | ⟨z, r4⟩⟩⟩
  · exact False.elim w
  · cases x <;> (try exact False.elim w)
    case ref a =>
      obtain ⟨v, rfl, h⟩ := rx.one_of
      cases of_ref h
      obtain ⟨ts, ea, w⟩ := w
      obtain ⟨ws, ha, ra⟩ := sm.dct ea
      exact call_dictD pins s σ H _ us Q I r ⟨_, _, rfl, .of ha, fun p hp => c.newD sm hp ra w⟩
  · cases x <;> exact False.elim w
  · cases x <;> (try exact False.elim w)
theorem call_maxW (hc : X.calm = true) : CallR X (.builtin "max") (upL S X.K maxW) := by
  intro pins s σ H vs us Q I r ⟨xs, G, Q', rx, sm, w, c⟩
  rcases xs with _ | ⟨x, _ | ⟨y, _ | ⟨z, r4⟩⟩⟩
  · exact False.elim w
  · cases x <;> (try exact False.elim w)
    case ref a =>
      obtain ⟨v, rfl, h⟩ := rx.one_of
      cases of_ref h
      obtain ⟨ns, ea, hl, w⟩ := w
      obtain ⟨ws, ha, ra⟩ := sm.lst ea
      rw [ra.to_ints] at ha
      exact cr_max hc pins s σ H _ us Q I r ⟨_, ns, rfl, .of ha, hl, fun m hm hle => c.here sm rt_int (w m hm hle)⟩
  · cases x <;> (try exact False.elim w)
    cases y <;> (try exact False.elim w)
    rename_i i j
    obtain ⟨v, u, rfl, h, h'⟩ := rx.two_of
    cases of_int h; cases of_int h'
    exact call_max2 hc pins s σ H _ us Q I r ⟨_, _, rfl, c.here sm rt_int w⟩
  · cases x <;> (try exact False.elim w) <;> cases y <;> exact False.elim w
theorem call_minW (hc : X.calm = true) : CallR X (.builtin "min") (upL S X.K minW) := by
  intro pins s σ H vs us Q I r ⟨xs, G, Q', rx, sm, w, c⟩
  rcases xs with _ | ⟨x, _ | ⟨y, _ | ⟨z, r4⟩⟩⟩
  · exact False.elim w
  · cases x <;> exact False.elim w
  · cases x <;> (try exact False.elim w)
    cases y <;> (try exact False.elim w)
    rename_i i j
    obtain ⟨v, u, rfl, h, h'⟩ := rx.two_of
    cases of_int h; cases of_int h'
    exact call_min2 hc pins s σ H _ us Q I r ⟨_, _, rfl, c.here sm rt_int w⟩
  · cases x <;> (try exact False.elim w) <;> cases y <;> exact False.elim w
theorem call_sumW (hc : X.calm = true) : CallR X (.builtin "sum") (upL S X.K sumW) := by
  intro pins s σ H vs us Q I r ⟨xs, G, Q', rx, sm, w, c⟩
  rcases xs with _ | ⟨x, _ | ⟨y, _ | ⟨z, r4⟩⟩⟩
  · exact False.elim w
  · cases x <;> (try exact False.elim w)
    case ref a =>
      obtain ⟨v, rfl, h⟩ := rx.one_of
      cases of_ref h
      obtain ⟨ns, ea, w⟩ := w
      obtain ⟨ws, ha, ra⟩ := sm.lst ea
      rw [ra.to_ints] at ha
      exact cr_sum hc pins s σ H _ us Q I r ⟨_, ns, rfl, .of ha, c.here sm rt_int w⟩
  · cases x <;> exact False.elim w
  · cases x <;> (try exact False.elim w)
theorem call_allW (hc : X.calm = true) : CallR X (.builtin "all") (upL S X.K allW) := by
  intro pins s σ H vs us Q I r ⟨xs, G, Q', rx, sm, w, c⟩
  rcases xs with _ | ⟨x, _ | ⟨y, _ | ⟨z, r4⟩⟩⟩
  · exact False.elim w
  · cases x <;> (try exact False.elim w)
    case ref a =>
      obtain ⟨v, rfl, h⟩ := rx.one_of
      cases of_ref h
      obtain ⟨ns, ea, w⟩ := w
      obtain ⟨ws, ha, ra⟩ := sm.lst ea
      rw [ra.to_bls] at ha
      exact cr_all hc pins s σ H _ us Q I r ⟨_, ns, rfl, .of ha, c.here sm rt_bl w⟩
  · cases x <;> exact False.elim w
  · cases x <;> (try exact False.elim w)
theorem call_anyW (hc : X.calm = true) : CallR X (.builtin "any") (upL S X.K anyW) := by
  intro pins s σ H vs us Q I r ⟨xs, G, Q', rx, sm, w, c⟩
  rcases xs with _ | ⟨x, _ | ⟨y, _ | ⟨z, r4⟩⟩⟩
  · exact False.elim w
  · cases x <;> (try exact False.elim w)
    case ref a =>
      obtain ⟨v, rfl, h⟩ := rx.one_of
      cases of_ref h
      obtain ⟨ns, ea, w⟩ := w
      obtain ⟨ws, ha, ra⟩ := sm.lst ea
      rw [ra.to_bls] at ha
      exact cr_any hc pins s σ H _ us Q I r ⟨_, ns, rfl, .of ha, c.here sm rt_bl w⟩
  · cases x <;> exact False.elim w
  · cases x <;> (try exact False.elim w)
/-! methods -/
theorem mt_appW : MtR X "list.append" (upM S X.K appW) := by
  intro pins s σ H v vs v' us Q I rv r ⟨x, xs, G, Q', rx, rxs, sm, w, c⟩
  cases x <;> (try exact False.elim w)
  rename_i a
  rcases xs with _ | ⟨y, _ | ⟨z, r4⟩⟩ <;> (try exact False.elim w)
  obtain ⟨u, rfl, h⟩ := rxs.one_of
  cases of_ref rx
  obtain ⟨ts, ea, hl, w⟩ := w
  obtain ⟨ws, ha, ra⟩ := sm.lst ea
  refine mt_append pins s σ H _ _ v' us Q I rv r ⟨_, _, _, rfl, rfl, ha, by rw [← ra.length]; exact lt_line hl, ?_⟩
  exact c _ _ _ _ (HX.put ha trivial) rt_non (sm.put ha trivial (show RO S X.K _ (.lst _) (.lst _) from ⟨_, rfl, (ra.append (RTs.one h)).mono (HX.put ha trivial)⟩)) w
theorem mt_popW : MtR X "list.pop" (upM S X.K popW) := by
  intro pins s σ H v vs v' us Q I rv r ⟨x, xs, G, Q', rx, rxs, sm, w, c⟩
  cases x <;> (try exact False.elim w)
  rename_i a
  rcases xs with _ | ⟨z, r4⟩ <;> (try exact False.elim w)
  cases rxs.nil_of
  cases of_ref rx
  obtain ⟨ts, y, ea, hl, w⟩ := w
  obtain ⟨ws, ha, ra⟩ := sm.lst ea
  obtain ⟨z, e, rz⟩ := ra.get hl
  rw [ra.length] at e
  refine mt_pop pins s σ H _ _ v' us Q I rv r ⟨_, _, _, rfl, rfl, ha, e, ?_⟩
  exact c _ _ _ _ (HX.put ha trivial) (RT.mono (HX.put ha trivial) _ _ rz) (sm.put ha trivial (show RO S X.K _ (.lst _) (.lst _) from ⟨_, rfl, (ra.dropLast).mono (HX.put ha trivial)⟩)) w
theorem keyT_of {K : PySem.W.Frag} {H : Hp} {x : T} {k : DK} {v : V} (e : keyT x = some k) (r : RT K H x v) : v = kV (kOf k) := by
  cases x <;> first | (cases e; done) | skip
  · cases e; exact of_int r
  · cases e; exact of_str r
/-! isinstance -/
def tyN : Ty → String
  | .tup => "tuple" | .bl => "bool" | .int => "int" | .str => "str"
def isiL (S : Stc) (K : PySem.W.Frag) (ty : Ty) : List V → Hp → VK → Prop := fun vs H Q => ∃ v x G Q', vs = [v, .ty (tyN ty)] ∧ RT K H x v ∧ Sim S K H G ∧ isiW ty x G Q' ∧ Cont S K H Q' Q
theorem call_isiW (ty : Ty) : CallR X (.builtin "isinstance") (isiL S X.K ty) := by
  intro pins s σ H vs us Q I r ⟨v, x, G, Q', e, rx, sm, w, c⟩
  subst e
  have go : ∀ (n : String) (b : Bool), TyX X.K H v (.type n) → kitB n (tyN ty) = some b → Q' (.bl b) G → wpAny (model X.prog X.w) X.A (call (.builtin "isinstance") us) (EP X pins σ Q) X.xe s := fun n b t k q =>
    call_isi pins s σ H _ us Q I r ⟨_, _, _, _, b, rfl, .ty _, t, kit_ty k, c.here sm rt_bl q⟩
  cases x with
  | non => cases of_non rx; exact go "NoneType" false (.base .non) (by cases ty <;> decide +kernel) w
  | bl b =>
    cases of_bl rx
    cases ty with
    | tup => exact go "bool" false (.base (.bl b)) (by decide +kernel) w
    | bl => exact go "bool" true (.base (.bl b)) (by decide +kernel) w
    | int => exact go "bool" true (.base (.bl b)) (by decide +kernel) w
    | str => exact go "bool" false (.base (.bl b)) (by decide +kernel) w
  | int b =>
    cases of_int rx
    cases ty with
    | tup => exact go "int" false (.base (.int b)) (by decide +kernel) w
    | bl => exact go "int" false (.base (.int b)) (by decide +kernel) w
    | int => exact go "int" true (.base (.int b)) (by decide +kernel) w
    | str => exact go "int" false (.base (.int b)) (by decide +kernel) w
  | str b =>
    cases of_str rx
    cases ty with
    | tup => exact go "str" false (.base (.str _)) (by decide +kernel) w
    | bl => exact go "str" false (.base (.str _)) (by decide +kernel) w
    | int => exact go "str" false (.base (.str _)) (by decide +kernel) w
    | str => exact go "str" true (.base (.str _)) (by decide +kernel) w
  | tup xs =>
    obtain ⟨a, ws, rfl, ha, ra⟩ := of_tup rx
    have t : TyX X.K H (.ref a) (.type "tuple") := by
      rcases ha with (ha | ⟨o, ha⟩) | ⟨o, its, n, h1, h2, _⟩
      · exact .base (.tup ha)
      · exact .fTuple ha
      · exact .kTuple h1 h2
    cases ty with
    | tup => exact go "tuple" true t (by decide +kernel) w
    | bl => exact go "tuple" false t (by decide +kernel) w
    | int => exact go "tuple" false t (by decide +kernel) w
    | str => exact go "tuple" false t (by decide +kernel) w
  | frl xs => exact False.elim w
  | ref a =>
    cases of_ref rx
    obtain ⟨⟨xs, e⟩ | ⟨xs, e⟩, w⟩ := w
    · obtain ⟨ws, ha, ra⟩ := sm.lst e
      exact go "list" false (.base (.lst ha)) (by cases ty <;> decide +kernel) w
    · obtain ⟨ws, ha, ra⟩ := sm.dct e
      exact go "dict" false (.base (.dK ha)) (by cases ty <;> decide +kernel) w
end

/-! ### what is walked -/
/-- the layer's iteration J yields the items of sq, wherever sq stays -/
structure ItOk (S : Stc) (K : PySem.W.Frag) (J : L2.It) (sq : Sq) (H0 : Hp) : Prop where
  go : ∀ i H G, HX H0 H → Sim S K H G → sq.stay G → i < sq.items.length → J.go i H
  stop : ∀ i H G, HX H0 H → Sim S K H G → sq.stay G → sq.items.length ≤ i → J.stop i H
  yld : ∀ i x H G H', HX H0 H → Sim S K H G → sq.stay G → i < sq.items.length → J.yld i H x H' → H' = H ∧ ∃ t, sq.items[i]? = some t ∧ RT K H t x
section
variable {S : Stc} {K : PySem.W.Frag} {H : Hp} {G : Gp}
theorem itok_tup {a : Addr} {xs : List T} {vs : List V} (ha : SqT K H a vs) (r : RTs K H xs vs) : ItOk S K (Itt K a) (.fix xs) H := by
  have ge : ∀ {i : Nat}, i < xs.length → ∃ t v, xs[i]? = some t ∧ vs[i]? = some v ∧ RT K H t v := fun {i} h => by
    obtain ⟨v, e, q⟩ := r.get (List.getElem?_eq_getElem h)
    exact ⟨_, v, List.getElem?_eq_getElem h, e, q⟩
  refine ⟨fun i H1 G1 x _ _ h => ?_, fun i H1 G1 x _ _ h => ⟨vs, SqT.mono x ha, by rw [← r.length]; exact h⟩, fun i v H1 G1 H2 x _ _ h y => ?_⟩
  · obtain ⟨t, v, _, e, _⟩ := ge h
    exact ⟨vs, v, SqT.mono x ha, e⟩
  · obtain ⟨t, v', e1, e2, q⟩ := ge h
    obtain ⟨rfl, y2⟩ := y
    have z := y2 vs (SqT.mono x ha)
    rw [e2] at z
    cases z
    exact ⟨rfl, t, e1, RT.mono x _ _ q⟩
theorem itok_lst {a : Addr} {xs : List T} : ItOk S K (Itl K a) (.at_ a xs) H := by
  refine ⟨fun i H1 G1 x m st h => ?_, fun i H1 G1 x m st h => ?_, fun i v H1 G1 H2 x m st h y => ?_⟩
  · obtain ⟨vs, ha, r⟩ := m.lst st
    obtain ⟨v, e, q⟩ := r.get (List.getElem?_eq_getElem h)
    exact ⟨vs, v, .of ha, e⟩
  · obtain ⟨vs, ha, r⟩ := m.lst st
    exact ⟨vs, .of ha, by rw [← r.length]; exact h⟩
  · obtain ⟨vs, ha, r⟩ := m.lst st
    obtain ⟨v', e, q⟩ := r.get (List.getElem?_eq_getElem h)
    obtain ⟨rfl, y2⟩ := y
    have z := y2 vs (.of ha)
    rw [e] at z
    cases z
    exact ⟨rfl, _, List.getElem?_eq_getElem h, q⟩
theorem items_upto {lo st : Int} {n i : Nat} (h : i < n) : (upto lo st n)[i]? = some (.int (lo + (i : Int) * st)) := by
  unfold upto
  rw [List.getElem?_map, List.getElem?_range h]
  rfl
theorem upto_len {lo st : Int} {n : Nat} : (upto lo st n).length = n := by unfold upto; simp
theorem itok_rng {lo : Int} {n : Nat} : ItOk S K (Itr lo n) (.fix (upto lo 1 n)) H := by
  refine ⟨fun i H1 G1 x m st h => ?_, fun i H1 G1 x m st h => ?_, fun i v H1 G1 H2 x m st h y => ?_⟩
  · have h' := h
    simp only [Sq.items, upto_len] at h'
    exact h'
  · have h' := h
    simp only [Sq.items, upto_len] at h'
    exact h'
  · have h' := h
    simp only [Sq.items, upto_len] at h'
    obtain ⟨rfl, rfl⟩ := y
    refine ⟨rfl, _, items_upto h', ?_⟩
    rw [Int.mul_one]
    exact rt_int
theorem itok_rngC {lo c : Int} {n : Nat} : ItOk S K (Itc lo c n) (.fix (upto lo c n)) H := by
  refine ⟨fun i H1 G1 x m st h => ?_, fun i H1 G1 x m st h => ?_, fun i v H1 G1 H2 x m st h y => ?_⟩
  · have h' := h
    simp only [Sq.items, upto_len] at h'
    exact h'
  · have h' := h
    simp only [Sq.items, upto_len] at h'
    exact h'
  · have h' := h
    simp only [Sq.items, upto_len] at h'
    obtain ⟨rfl, rfl⟩ := y
    exact ⟨rfl, _, items_upto h', rt_int⟩
theorem itok_str {a : String} : ItOk S K (Its (Str.ofString a)) (.fix (a.toList.map fun c => T.str (String.singleton c))) H := by
  have sz : (Str.ofString a).cps.size = a.toList.length := by
    have := congrArg List.length (ofS_cps a)
    simpa using this
  refine ⟨fun i H1 G1 x m st h => ?_, fun i H1 G1 x m st h => ?_, fun i v H1 G1 H2 x m st h y => ?_⟩
  · show i < (Str.ofString a).cps.size
    rw [sz]
    simpa [Sq.items] using h
  · show (Str.ofString a).cps.size ≤ i
    rw [sz]
    simpa [Sq.items] using h
  · obtain ⟨rfl, d, e, rfl⟩ := y
    have hi : i < a.toList.length := by simpa [Sq.items] using h
    refine ⟨rfl, T.str (String.singleton a.toList[i]), ?_, ?_⟩
    · show (a.toList.map fun c => T.str (String.singleton c))[i]? = _
      rw [List.getElem?_map, List.getElem?_eq_getElem hi]
      rfl
    · have e2 : (Str.ofString a).cps.toList[i]? = some d := by rw [Array.getElem?_toList]; exact e
      rw [ofS_cps, List.getElem?_map, List.getElem?_eq_getElem hi] at e2
      have e3 : (a.toList[i]).toNat = d := Option.some.inj e2
      rw [← e3, ← ofS_single]
      exact rt_str
end
end SK

set_option Elab.async false
set_option linter.all false
set_option maxRecDepth 100000
/-! SK5: the check of a code against the text; the contexts; what the text's own shape gives. -/
namespace SK
open PySem PySem.Spec PyProof.Rows L2

/-! ### names -/
structure Nm where
  N : List Str
  sc : Scope
  cellOk : Bool
  use : List String
  blt : List String
def visB (sc : Scope) (x : Str) : Bool := match sc.names.lookup x with
  | some .local => true | some .cell => true | some .free => true | _ => false
def glB (sc : Scope) (x : Str) : Bool := match sc.names.lookup x with
  | some .globalImplicit => true | _ => false
def locB (n : Nm) (x : Str) : Bool := match n.sc.names.lookup x with
  | some .local => true | some .cell => n.cellOk | _ => false
def okName (x : Str) : Bool := !(x == ("__debug__" : Str)) && !(x == ("__classdict__" : Str)) && !(decide (x = ("__name__" : Str)))
theorem visB_vis {sc : Scope} {x : Str} (h : visB sc x = true) : Vis sc x := by
  unfold visB at h
  split at h
  · exact .inl ‹_›
  · exact .inr (.inl ‹_›)
  · exact .inr (.inr ‹_›)
  · cases h
theorem glB_gl {X : Cx} {x : Str} (h : glB X.env.scope x = true) : Gl X x := by
  unfold glB at h
  split at h
  · rename_i e; exact e
  · cases h
theorem okName_of {x : Str} (h : okName x = true) : (x == ("__debug__" : Str)) = false ∧ (x == ("__classdict__" : Str)) = false ∧ x ≠ ("__name__" : Str) := by
  unfold okName at h
  rw [Bool.and_eq_true, Bool.and_eq_true, Bool.not_eq_true', Bool.not_eq_true', Bool.not_eq_true', decide_eq_false_iff_not] at h
  exact ⟨h.1.1, h.1.2, h.2⟩

/-! ### the check -/
def chkC : T → Const → Bool
  | .non, .none => true
  | .bl b, .bool c => b == c
  | .int i, .int j => i == j
  | .str s, .str x => decide (x = Str.ofString s)
  | _, _ => false
def chkOp : Op → Operator → Bool
  | .add, .Add => true | .sub, .Sub => true | .mul, .Mult => true | .fdv, .FloorDiv => true | .mod, .Mod => true | .pow, .Pow => true
  | _, _ => false
def chkCp : Cp → CmpOp → Bool
  | .eq, .Eq => true | .ne, .NotEq => true | .lt, .Lt => true | .le, .LtE => true | .gt, .Gt => true | .ge, .GtE => true
  | .inS, .In => true | .niS, .NotIn => true | .inD, .In => true | .niD, .NotIn => true | .isN, .Is => true | .ntN, .IsNot => true
  | _, _ => false
def chkBi : Bi → String
  | .len => "len" | .int => "int" | .str => "str" | .tuple => "tuple" | .list => "list" | .dict => "dict" | .max => "max" | .min => "min" | .sum => "sum" | .all => "all" | .any => "any"
def chkBm : Bm → String
  | .append => "append" | .pop => "pop" | .get => "get" | .index => "index" | .join => "join"
def bmArity : Bm → Nat → Bool
  | .append, 1 => true | .pop, 0 => true | .get, 2 => true
  | _, _ => false
def chkName (n : Nm) (x : Str) (f : String) : Bool := decide (x = Str.ofString f) && glB n.sc x && okName x
def chkBlt (n : Nm) (x : Str) (f : String) : Bool := chkName n x f && n.blt.contains f
def basePl : Expr → Bool
  | .Call (.Name _ _) [] [] _ => false
  | _ => true
def notStar : Expr → Bool
  | .Starred _ _ => false
  | _ => true
/-- codes that may stand as a test -/
def tstB : E → Bool
  | .ife _ _ _ => false
  | .lnot a => tstB a
  | .land es => tstBs es
  | .lor es => tstBs es
  | _ => true
where tstBs : Es → Bool
  | .nil => true
  | .cons e r => tstB e && tstBs r
def chkG (n : Nm) : Tg → Expr → Bool
  | .nm i, .Name x _ => decide (n.N[i]? = some x) && locB n x
  | .tp is, .Tuple es _ _ => go is es
  | _, _ => false
where go : List Nat → List Expr → Bool
  | [], [] => true
  | i :: is, .Name x _ :: es => decide (n.N[i]? = some x) && locB n x && go is es
  | _, _ => false
def Tg.slots : Tg → List Nat
  | .nm i => [i]
  | .tp is => is
def ownOf (N : List Str) (own : List Nat) : List (Str × Nat) := own.filterMap fun i => (N[i]?).map fun x => (x, i)
def keysOk : List String → List (Option Expr) → Bool
  | [], [] => true
  | k :: ks, some (.Constant (.str x) _ _) :: es => decide (x = Str.ofString k) && keysOk ks es
  | _, _ => false
def chkVar (i : Nat) (n : Nm) : Expr → Bool
  | .Name x _ => decide (n.N[i]? = some x) && visB n.sc x && okName x
  | _ => false
def chkKc (t : T) : Expr → Bool
  | .Constant c _ _ => chkC t c
  | _ => false
def one1 : List Expr → Bool
  | [_] => true
  | _ => false
def cmp1 : List Expr → Bool
  | [.Compare _ [_] [_] _] => true
  | _ => false
def cmpO : List Expr → CmpOp
  | [.Compare _ [op] [_] _] => op
  | _ => .Eq
def cmpL : List Expr → Expr
  | [.Compare l [_] [_] _] => l
  | _ => default
def cmpR : List Expr → Expr
  | [.Compare _ [_] [r] _] => r
  | _ => default
def isi1 : List Expr → Bool
  | [.Call (.Name _ _) [_, .Name _ _] [] _] => true
  | _ => false
def isiF : List Expr → Str
  | [.Call (.Name x _) [_, .Name _ _] [] _] => x
  | _ => default
def isiE : List Expr → Expr
  | [.Call (.Name _ _) [e, .Name _ _] [] _] => e
  | _ => default
def isiT : List Expr → Str
  | [.Call (.Name _ _) [_, .Name y _] [] _] => y
  | _ => default
theorem one1_of {l : List Expr} (h : one1 l = true) : ∃ e, l = [e] := by
  unfold one1 at h
  split at h
  · exact ⟨_, rfl⟩
  · cases h
theorem cmp1_of {l : List Expr} (h : cmp1 l = true) : ∃ a op r p, l = [.Compare a [op] [r] p] := by
  unfold cmp1 at h
  split at h
  · exact ⟨_, _, _, _, rfl⟩
  · cases h
theorem isi1_of {l : List Expr} (h : isi1 l = true) : ∃ x p e y q r, l = [.Call (.Name x p) [e, .Name y q] [] r] := by
  unfold isi1 at h
  split at h
  · exact ⟨_, _, _, _, _, _, rfl⟩
  · cases h
mutual
def chkE : E → Nm → Expr → Bool
  | .var i, n, .Name x _ => decide (n.N[i]? = some x) && visB n.sc x && okName x
  | .kc t, _, .Constant c _ _ => chkC t c
  | .gl f, n, .Name x _ => chkName n x f && n.use.contains f
  | .tup es, n, .Tuple xs _ _ => chkEs es n xs && decide (es.len ≤ 1000)
  | .lst es, n, .List xs _ => chkEs es n xs && decide (es.len ≤ 1000)
  | .dct ks es, n, .Dict keys vals _ => keysOk ks keys && chkEs es n vals && decide (ks.length = es.len) && decide (ks.length ≤ 15) && decide ks.Nodup
  | .bin o a b, n, .BinOp l op r _ => chkOp o op && chkE a n l && chkE b n r
  | .neg a, n, .UnaryOp .USub x _ => chkE a n x
  | .cmp o a b, n, .Compare l [op] [r] _ => chkCp o op && chkE a n l && chkE b n r
  | .land es, n, .BoolOp .And xs _ => chkEs es n xs && decide (0 < es.len)
  | .lor es, n, .BoolOp .Or xs _ => chkEs es n xs && decide (0 < es.len)
  | .lnot a, n, .UnaryOp .Not x _ => chkE a n x
  | .ife c a b, n, .IfExp t x y _ => chkE c n t && tstB c && chkE a n x && chkE b n y
  | .ix a i, n, .Subscript o s _ => chkE a n o && chkE i n s
  | .dx a i, n, .Subscript o s _ => chkE a n o && chkE i n s
  | .sl a lo hi, n, .Subscript o (.Slice l h none _) _ => chkE a n o && chkO lo n l && chkO hi n h
  | .fld a f, n, .Attribute o m _ => decide (m = Str.ofString f) && basePl o && chkE a n o
  | .call f es, n, .Call (.Name x _) args [] _ => chkName n x f && chkEs es n args && decide (0 < es.len)
  | .meth a m es, n, .Call (.Attribute o x apos) args [] pos => decide (x = Str.ofString m) && basePl o && chkE a n o && chkEs es n args && (apos.endLine == pos.line) && decide (args.length < 30)
  | .make C es, n, .Call (.Name x _) args [] _ => chkName n x C && chkEs es n args
  | .bi f es, n, .Call (.Name x _) args [] _ => chkBlt n x (chkBi f) && chkEs es n args && decide (0 < es.len)
  | .bm a m es, n, .Call (.Attribute o x apos) args [] pos => decide (x = Str.ofString (chkBm m)) && basePl o && chkE a n o && chkEs es n args && (apos.endLine == pos.line) && decide (args.length < 29) && bmArity m es.len
  | .isi a ty, n, .Call (.Name x _) [e, .Name y _] [] _ => chkBlt n x "isinstance" && chkBlt n y (tyN ty) && chkE a n e
  | .lc elt own g it cond, n, .ListComp e [⟨tg, iter, ifs, asy⟩] scope _ => decide (asy = 0) && chkI it n iter && blkC n.N n.sc scope (ownOf n.N own) && decide ((ownOf n.N own).map (·.2) = own) && g.slots.all (fun i => own.contains i) &&
      chkG { n with sc := relS scope n.sc, cellOk := false } g tg && chkE elt { n with sc := relS scope n.sc, cellOk := false } e && chkIf cond { n with sc := relS scope n.sc, cellOk := false } ifs
  | _, _, _ => false
termination_by structural x => x
def chkIf : E → Nm → List Expr → Bool
  | .no, _, l => l.isEmpty
  | .var i, n, l => one1 l && chkVar i n (l.headD default)
  | .cmp o a b, n, l => cmp1 l && chkCp o (cmpO l) && chkE a n (cmpL l) && chkE b n (cmpR l)
  | .isi a ty, n, l => isi1 l && chkBlt n (isiF l) "isinstance" && chkBlt n (isiT l) (tyN ty) && chkE a n (isiE l)
  | _, _, _ => false
termination_by structural x => x
def chkO : E → Nm → Option Expr → Bool
  | .no, _, none => true
  | .var i, n, some e => chkVar i n e
  | .kc t, n, some e => chkKc t e
  | .neg a, n, some (.UnaryOp .USub x _) => chkE a n x
  | .bin o a b, n, some (.BinOp l op r _) => chkOp o op && chkE a n l && chkE b n r
  | .ix a b, n, some (.Subscript o s _) => chkE a n o && chkE b n s
  | .call f es, n, some (.Call (.Name x _) args [] _) => chkName n x f && chkEs es n args && decide (0 < es.len)
  | _, _, _ => false
termination_by structural x => x
def chkEs : Es → Nm → List Expr → Bool
  | .nil, _, [] => true
  | .cons e r, n, x :: xs => chkE e n x && chkEs r n xs
  | _, _, _ => false
termination_by structural x => x
def chkI : It → Nm → Expr → Bool
  | .tup e, n, x => chkE e n x
  | .lst e, n, x => chkE e n x
  | .str e, n, x => chkE e n x
  | .rng es, n, .Call (.Name x _) args [] _ => chkBlt n x "range" && chkEs es n args && decide (0 < args.length) && decide (args.length < 4)
  | .revt e, n, .Call (.Name x _) [a] [] _ => chkBlt n x "reversed" && chkE e n a
  | .revr e, n, .Call (.Name x _) [.Call (.Name y _) [a] [] _] [] _ => chkBlt n x "reversed" && chkBlt n y "range" && chkE e n a
  | _, _, _ => false
termination_by structural x => x
end
def isLc : E → Bool
  | .lc _ _ _ _ _ => true
  | _ => false
def nameHandler : ExceptHandler → Option (Str × Str × List Stmt)
  | .ExceptHandler (some (.Name x _)) (some n) body _ => some (x, n, body)
  | _ => none
/-- a list comprehension stored on its own line: the name is none of its own -/
def lcOk (n : Nm) : Expr → Str → Pos → Bool
  | .ListComp _ _ scope pos, y, py => decide (n.sc.kind = .function) && decide (n.sc.names.lookup y = some .local) && (py.line == pos.line) && !(scope.names.any fun (m, k) => m == y && (k == .local || k == .cell))
  | _, _, _ => true
def chkAsg (i : Nat) (e : E) (n : Nm) : List Expr → Expr → Bool
  | [.Name x py], v => decide (n.N[i]? = some x) && locB n x && chkE e n v && lcOk n v x py
  | _, _ => false
def notTL : Expr → Bool
  | .Tuple _ _ _ => false
  | .List _ _ => false
  | _ => true
def chkAst (is : List Nat) (e : E) (n : Nm) : List Expr → Expr → Bool
  | [tg], v => chkG n (.tp is) tg && chkE e n v && !isLc e && notTL v
  | _, _ => false
def chkAsf (o : E) (f : String) (e : E) (n : Nm) : List Expr → Expr → Bool
  | [.Attribute x m _], v => decide (m = Str.ofString f) && basePl x && chkE o n x && chkE e n v && !isLc e
  | _, _ => false
def chkAsi (o i e : E) (n : Nm) : List Expr → Expr → Bool
  | [.Subscript x y _], v => chkE o n x && chkE i n y && chkE e n v && !isLc e
  | _, _ => false
mutual
def chkS : S → Nm → Stmt → Bool
  | .asg i e, n, .Assign ts v _ => chkAsg i e n ts v
  | .ast is e, n, .Assign ts v _ => chkAst is e n ts v
  | .asf o f e, n, .Assign ts v _ => chkAsf o f e n ts v
  | .asi o i e, n, .Assign ts v _ => chkAsi o i e n ts v
  | .asd o i e, n, .Assign ts v _ => chkAsi o i e n ts v
  | .ex e, n, .Expr v _ => chkE e n v && !isLc e
  | .ret e, n, .Return (some v) _ => chkE e n v
  | .retn, _, .Return none _ => true
  | .ite c a b, n, .If t x y _ => chkE c n t && tstB c && chkSs a n x && chkSs b n y
  | .for_ g it body, n, .For tg iter b [] _ => chkG n g tg && chkI it n iter && chkSs body n b
  | .whl c body, n, .While t b [] _ => chkE c n t && tstB c && chkSs body n b
  | .pass, _, .Pass _ => true
  | _, _, _ => false
def chkSs : Ss → Nm → List Stmt → Bool
  | .nil, _, [] => true
  | .cons s r, n, x :: xs => chkS s n x && chkSs r n xs
  | _, _, _ => false
end

/-! ### the text's shape -/
theorem chkVar_eq {i : Nat} {n : Nm} {e : Expr} : chkVar i n e = chkE (.var i) n e := by cases e <;> simp [chkVar, chkE]
theorem chkKc_eq {t : T} {n : Nm} {e : Expr} : chkKc t e = chkE (.kc t) n e := by cases e <;> simp [chkKc, chkE]
theorem starEach_plain : ∀ {e : Expr} {es : List Expr} {env : Env}, notStar e = true → starEach (e :: es) env = (false, eval e env) :: starEach es env := by
  intro e es env h
  cases e <;> first | rfl | (cases h)
theorem chkE_star {c : E} {n : Nm} {e : Expr} (h : chkE c n e = true) : notStar e = true := by
  cases e <;> first | rfl | (cases c <;> simp [chkE] at h)
def allPl (es : List Expr) : Bool := es.all notStar
theorem chkEs_star : ∀ {c : Es} {n : Nm} {es : List Expr}, chkEs c n es = true → allPl es = true
  | .nil, _, [], _ => rfl
  | .nil, _, _ :: _, h => by simp [chkEs] at h
  | .cons _ _, _, [], h => by simp [chkEs] at h
  | .cons e r, n, x :: xs, h => by
    simp only [chkEs, Bool.and_eq_true] at h
    have h2 := chkEs_star h.2
    unfold allPl at h2 ⊢
    rw [List.all_cons, chkE_star h.1, h2]
    rfl
theorem chkEs_len : ∀ {c : Es} {n : Nm} {es : List Expr}, chkEs c n es = true → c.len = es.length
  | .nil, _, [], _ => rfl
  | .nil, _, _ :: _, h => by simp [chkEs] at h
  | .cons _ _, _, [], h => by simp [chkEs] at h
  | .cons e r, n, x :: xs, h => by
    simp only [chkEs, Bool.and_eq_true] at h
    simp only [Es.len, List.length_cons, chkEs_len h.2]
theorem star_none : ∀ {es : List Expr} {env : Env} {pos : Pos}, allPl es = true → (backTo pos (starEach es env)).any (·.1) = false
  | [], _, _, _ => rfl
  | e :: es, env, pos, h => by
    unfold allPl at h
    rw [List.all_cons, Bool.and_eq_true] at h
    rw [starEach_plain h.1]
    show (false || (backTo pos (starEach es env)).any (·.1)) = false
    rw [star_none (es := es) h.2]
    rfl
theorem star_all : ∀ {es : List Expr} {env : Env} {pos : Pos}, allPl es = true → (backTo pos (starEach es env)).all (fun x => !x.1) = true
  | [], _, _, _ => rfl
  | e :: es, env, pos, h => by
    unfold allPl at h
    rw [List.all_cons, Bool.and_eq_true] at h
    rw [starEach_plain h.1]
    show (true && (backTo pos (starEach es env)).all (fun x => !x.1)) = true
    rw [star_all (es := es) h.2]
    rfl
theorem base_plain {o : Expr} {m : Str} {env : Env} {t : Sem Value} (h : basePl o = true) : attributeBase o m env t = t := by
  unfold attributeBase
  split
  · cases h
  · rfl
theorem meth_eq {o : Expr} {m : Str} {apos pos : Pos} {args : List Expr} {env : Env} (hb : basePl o = true) (hs : allPl args = true) (hl : (apos.endLine == pos.line) = true) (hn : args.length < 30) :
    eval (.Call (.Attribute o m apos) args [] pos) env = (do
      let ov ← eval o env
      standAt apos.atName
      let (f, first) ← holding [ov] (getMethod ov m (do return (← importBound o env).getD true))
      callWith pos f first (backTo pos (starEach args env)) (backToKw pos (keywordEach [] env))) := by
  rw [eval]
  rw [base_plain hb]
  have hf : methodCallForm (args.length + ([] : List Keyword).length) (backTo pos (starEach args env)) (backToKw pos (keywordEach [] env)) = true := by
    unfold methodCallForm
    rw [star_all hs, Bool.true_and, keywordEach]
    show (true && decide (args.length + 0 + 0 < 30)) = true
    rw [Bool.true_and]
    exact decide_eq_true (by omega)
  have hp : ∀ few, methodCallPos few o env apos pos = pure pos := fun few => by
    unfold methodCallPos
    rw [hl, Bool.or_true]
    rfl
  unfold methodCall calleeOf
  simp only [hf, hp, if_true]
  first | rfl | (simp only [bind_assoc, pure_bind])
def plainB : E → Bool
  | .lnot _ => false | .land _ => false | .lor _ => false | .ife _ _ _ => false | .cmp _ _ _ => false | _ => true
theorem isTrue_pl {c : E} {n : Nm} {e : Expr} (h : chkE c n e = true) (hc : plainB c = true) : ∀ env whole, isTrue e env whole = (do let v ← whole; standAt e.pos; holding [v] (truthy v)) := by
  intro env whole
  cases c <;> first | (cases hc; done) | skip
  all_goals (cases e <;> first | (simp [chkE] at h; done) | rfl | skip)
  all_goals (rename PySem.UnaryOp => op; cases op <;> first | (simp [chkE] at h; done) | rfl)
end SK

set_option Elab.async false
set_option linter.all false
set_option maxRecDepth 100000
/-! SK6: the contexts; expressions are sound. -/
namespace SK
open PySem PySem.Spec PyProof.Rows L2

/-! ### exceptions, promises -/
def ExR (S : Stc) (K : PySem.W.Frag) (H : Hp) (c : String) (fs : List (String × T)) (cls : Value) (d : Option Addr) : Prop :=
  ∃ ca, cls = .ref ca ∧ S.xcl c = some ca ∧ ((fs = [] ∧ d = none) ∨ ∃ dd l, d = some dd ∧ H dd = some (.xd l) ∧ RF K H fs l)
theorem ExR.mono {S : Stc} {K : PySem.W.Frag} {H H' : Hp} {c : String} {fs : List (String × T)} {cls : Value} {d : Option Addr} (x : HX H H') (h : ExR S K H c fs cls d) : ExR S K H' c fs cls d := by
  obtain ⟨ca, h1, h2, h3⟩ := h
  refine ⟨ca, h1, h2, ?_⟩
  rcases h3 with h3 | ⟨dd, l, e1, e2, e3⟩
  · exact .inl h3
  · exact .inr ⟨dd, l, e1, x.xd _ _ e2, RF.mono x _ _ e3⟩
def ContX (S : Stc) (K : PySem.W.Frag) (H : Hp) (X' : XT) (E : XK) : Prop := ∀ c fs G' cls d H', HX H H' → ExR S K H' c fs cls d → Sim S K H' G' → X' c fs G' → E cls d H'
theorem ContX.step {S : Stc} {K : PySem.W.Frag} {H H1 : Hp} {X' : XT} {E : XK} (c : ContX S K H X' E) (x : HX H H1) : ContX S K H1 X' E := fun t fs G' v d H' x' r m q => c t fs G' v d H' (x.trans x') r m q
def upSp (S : Stc) (K : PySem.W.Frag) (sp : Pr) : Sp := fun vs H Q E => ∃ ts G Q' X', RTs K H ts vs ∧ Sim S K H G ∧ sp ts G Q' X' ∧ Cont S K H Q' Q ∧ ContX S K H X' E
def upX (S : Stc) (K : PySem.W.Frag) (H0 : Hp) (WT : Sl → XT) : WX := fun cls d σ H => ∃ ss c fs G, At S K H0 ss G σ H ∧ ExR S K H c fs cls d ∧ WT ss c fs G

/-- the module behind the top, for codes -/
structure MdOk (P : Program) (w : World) (K : PySem.W.Frag) (mg : Str → Option Value) (base : Heap) (S : Stc) (M : Gm) (k : Nat) (use blt : List String) : Prop where
  fn : ∀ f sp, M.fn "" f = some sp → ∃ fa fd ps, FnOk P w K mg base (L2.CX P w) k fa fd ps (upSp S K sp) ∧ mg (Str.ofString f) = some (.ref fa) ∧ PySem.W.keepIn K (.ref fa) = true ∧ Binds K fd ps []
  me : ∀ C m sp, M.fn C m = some sp → ∀ ca, S.cls C = some ca → ∃ fa fd ps, Meth K ca (Str.ofString m) fa ∧ FnOk P w K mg base (L2.CX P w) k fa fd ps (upSp S K sp) ∧ Binds K fd ps []
  cr : ∀ C sp, M.fn C "__init__" = some sp → ∃ ca fa fd ps j, S.cls C = some ca ∧ mg (Str.ofString C) = some (.ref ca) ∧ Mk K ca fa ∧ FnOk P w K mg base (L2.CX P w) j fa fd ps (upSp S K sp) ∧ j + 1 ≤ k ∧ Binds K fd ps []
  cst : ∀ x t, x ∈ use → M.cst x = some t → ∃ u v, mg (Str.ofString x) = some u ∧ RelV v u ∧ ∀ H, RT K H t v
  blt : ∀ x, x ∈ blt → mg (Str.ofString x) = none
  fld : ∀ C f, M.fld C f = true → S.fld C f = true
  cls : ∀ C ca, S.cls C = some ca → Cls K ca ∧ ∀ f, S.fld C f = true → NoAttr K ca (Str.ofString f)
/-- a context in which codes run -/
structure Ok (X : Cx) (S : Stc) (M : Gm) (k : Nat) (H0 : Hp) (WT : Sl → XT) (n : Nm) : Prop where
  N : X.N = n.N
  sc : X.env.scope = n.sc
  nd : X.N.Nodup
  calm : X.calm = true
  room : Room k X.A
  tk : Takes X (upX S X.K H0 WT)
  fn : n.cellOk = true → ∀ x, X.fn x = true
  pass : PassesOwn (model X.prog X.w) X.A X.env X.xe
  md : MdOk X.prog X.w X.K X.mg X.base S M k n.use n.blt

/-! ### lifts -/
def upE (S : Stc) (K : PySem.W.Frag) (H0 : Hp) (WT : Sl → XT) (p : Sl → Gp → XT → QT → Prop) : TE := fun σ H Q => ∃ ss G Q', At S K H0 ss G σ H ∧ p ss G (WT ss) Q' ∧ Cont S K H Q' Q
def upT (S : Stc) (K : PySem.W.Frag) (H0 : Hp) (WT : Sl → XT) (p : Sl → Gp → XT → QT → Prop) : TT := fun σ H Q => ∃ ss G Q', At S K H0 ss G σ H ∧ p ss G (WT ss) Q' ∧
  ∀ t G' H', HX H H' → Sim S K H' G' → Q' t G' → ∃ b, t = .bl b ∧ Q b H'
def upA (S : Stc) (K : PySem.W.Frag) (H0 : Hp) (WT : Sl → XT) (n : Nat) (p : Sl → Gp → XT → (List T → Gp → Prop) → Prop) : TA := fun σ H Q => ∃ ss G Q', At S K H0 ss G σ H ∧ p ss G (WT ss) Q' ∧
  ∀ ts G' vs H', HX H H' → RTs K H' ts vs → Sim S K H' G' → vs.length = n → Q' ts G' → Q vs H'
def upO (S : Stc) (K : PySem.W.Frag) (H0 : Hp) (WT : Sl → XT) (p : Sl → Gp → XT → (Option Int → Gp → Prop) → Prop) : TO := fun σ H Q => ∃ ss G Q', At S K H0 ss G σ H ∧ p ss G (WT ss) Q' ∧
  ∀ o G' H', HX H H' → Sim S K H' G' → Q' o G' → Q o H'
def upI (S : Stc) (K : PySem.W.Frag) (H0 : Hp) (WT : Sl → XT) (p : Sl → Gp → XT → (Sq → Gp → Prop) → Prop) : TI := fun σ H R => ∃ ss G R', At S K H0 ss G σ H ∧ p ss G (WT ss) R' ∧
  ∀ sq G' J H', HX H H' → Sim S K H' G' → ItOk S K J sq H' → R' sq G' → R J H'
def upG (S : Stc) (K : PySem.W.Frag) (H0 : Hp) (p : T → Sl → (Sl → Prop) → Prop) : TG := fun v σ H Q => ∃ x ss G Q', RT K H x v ∧ At S K H0 ss G σ H ∧ p x ss Q' ∧ ∀ s1 σ1, At S K H0 s1 G σ1 H → Q' s1 → Q σ1 H
theorem _root_.L2.PE.imp {X : Cx} {e : Expr} {t t' : TE} (h : PE X e t) (i : ∀ σ H Q, t' σ H Q → t σ H Q) : PE X e t' := ⟨fun pins s σ H Q I w => h.run pins s σ H Q I (i _ _ _ w)⟩
theorem _root_.L2.PT.imp {X : Cx} {e : Expr} {t t' : TT} (h : PT X e t) (i : ∀ σ H Q, t' σ H Q → t σ H Q) : PT X e t' := ⟨fun pins s σ H Q I w => h.run pins s σ H Q I (i _ _ _ w)⟩
theorem _root_.L2.PW.imp {X : Cx} {e : Expr} {t t' : TT} (h : PW X e t) (i : ∀ σ H Q, t' σ H Q → t σ H Q) : PW X e t' := ⟨fun wh pins s σ H Q I w => h.run wh pins s σ H Q I (i _ _ _ w)⟩
theorem _root_.L2.PA.imp {X : Cx} {e : List Expr} {t t' : TA} (h : PA X e t) (i : ∀ σ H Q, t' σ H Q → t σ H Q) : PA X e t' := ⟨fun pos pins s σ H Q I w => h.run pos pins s σ H Q I (i _ _ _ w)⟩
theorem _root_.L2.PO.imp {X : Cx} {e : Option Expr} {t t' : TO} (h : PO X e t) (i : ∀ σ H Q, t' σ H Q → t σ H Q) : PO X e t' := ⟨fun pins s σ H Q I w => h.run pins s σ H Q I (i _ _ _ w)⟩
theorem _root_.L2.PI.imp {X : Cx} {tg e : Expr} {t t' : TI} (h : PI X tg e t) (i : ∀ σ H Q, t' σ H Q → t σ H Q) : PI X tg e t' := ⟨fun pins s σ H Q I w => h.run pins s σ H Q I (i _ _ _ w)⟩
theorem _root_.L2.PG.imp {X : Cx} {e : Expr} {t t' : TG} (h : PG X e t) (i : ∀ v σ H Q, t' v σ H Q → t v σ H Q) : PG X e t' := ⟨fun pins s σ H v u Q I r w => h.run pins s σ H v u Q I r (i _ _ _ _ w)⟩
theorem _root_.L2.PS.imp {X : Cx} {e : Stmt} {t t' : TS} (h : PS X e t) (i : ∀ D σ H, t' D σ H → t D σ H) : PS X e t' := ⟨fun pins s σ H D I w => h.run pins s σ H D I (i _ _ _ w)⟩
theorem _root_.L2.PSs.imp {X : Cx} {e : List Stmt} {t t' : TS} (h : PSs X e t) (i : ∀ D σ H, t' D σ H → t D σ H) : PSs X e t' := ⟨fun pins s σ H D I w => h.run pins s σ H D I (i _ _ _ w)⟩

/-! ### names -/
section
variable {X : Cx} {S : Stc} {M : Gm} {k : Nat} {H0 : Hp} {WT : Sl → XT} {n : Nm}
theorem Ok.gl (o : Ok X S M k H0 WT n) {x : Str} {f : String} (h : chkName n x f = true) : x = Str.ofString f ∧ Gl X x ∧ (x == ("__debug__" : Str)) = false ∧ x ≠ ("__name__" : Str) := by
  unfold chkName at h
  rw [Bool.and_eq_true, Bool.and_eq_true, decide_eq_true_eq] at h
  obtain ⟨h1, _, h3⟩ := okName_of h.2
  exact ⟨h.1.1, glB_gl (by rw [o.sc]; exact h.1.2), h1, h3⟩
theorem Ok.bl (o : Ok X S M k H0 WT n) {x : Str} {f : String} (h : chkBlt n x f = true) : x = Str.ofString f ∧ Gl X x ∧ (x == ("__debug__" : Str)) = false ∧ x ≠ ("__name__" : Str) ∧ X.mg x = none := by
  unfold chkBlt at h
  rw [Bool.and_eq_true] at h
  obtain ⟨h1, h2, h3, h4⟩ := o.gl h.1
  exact ⟨h1, h2, h3, h4, by rw [h1]; exact o.md.blt f (by simpa using h.2)⟩
theorem Ok.loc (o : Ok X S M k H0 WT n) {x : Str} (h : locB n x = true) : Loc X.env.scope x ∧ (X.fn x = true ∨ X.env.scope.names.lookup x = some .local) := by
  unfold locB at h
  rw [o.sc]
  split at h
  · rename_i e; exact ⟨.inl e, .inr e⟩
  · rename_i e; exact ⟨.inr e, .inl (o.fn h x)⟩
  · cases h
theorem Ok.hu (o : Ok X S M k H0 WT n) : X.A.units + 64 < cLine := o.room.units
theorem Ok.hu1 (o : Ok X S M k H0 WT n) : X.A.units + 1 < cLine := by have := o.hu; omega

/-! ### calls of methods and classes, by the receiver's class -/
abbrev DoPl (o : Expr) (X : Cx) : Sem Bool := do return (← importBound o X.env).getD true
/-- the receiver is an instance whose class has the method -/
def MRec (S : Stc) (K : PySem.W.Frag) (M : Gm) (H0 : Hp) (WT : Sl → XT) (ms : String) (p : Sl → Gp → XT → (List T → Gp → Prop) → Prop) : V → L2.St → Hp → VK → Prop := fun v σ H1 Q =>
  ∃ ss G Q' a C fs sp, v = .ref a ∧ At S K H0 ss G σ H1 ∧ Cont S K H1 Q' Q ∧ G a = some (.ins C fs) ∧ fGet fs ms = none ∧ M.fn C ms = some sp ∧ p ss G (WT ss) fun ts G2 => sp (.ref a :: ts) G2 Q' (WT ss)
theorem meth_at (ok : Ok X S M k H0 WT n) {ms : String} {p : Sl → Gp → XT → (List T → Gp → Prop) → Prop} {v : V} {u : Value} {σ : L2.St} {H1 : Hp} {Q : VK} {pins : List (Addr × Obj)} {s1 : Shared} {pl : Sem Bool} {P : Value × List Value → Shared → Prop} (I1 : Inv X pins σ H1 s1) (ru : RelV v u) (h : MRec S X.K M H0 WT ms p v σ H1 Q)
    (run : ∀ (ss : Sl) (G : Gp) (Q' : QT) (a : Addr) (sp : Pr) (g : Addr), u = .ref a → At S X.K H0 ss G σ H1 → PySem.W.keepIn X.K (.ref g) = true → p ss G (WT ss) (fun ts G2 => sp (.ref a :: ts) G2 Q' (WT ss)) →
      (∀ (s2 : Shared) (H2 : Hp) (us : List Value) (vs : List V) (ts : List T) (G2 : Gp), Inv X pins σ H2 s2 → Vals vs us → HX H1 H2 → RTs X.K H2 ts vs → Sim S X.K H2 G2 → sp (.ref a :: ts) G2 Q' (WT ss) → wpAny (model X.prog X.w) X.A (call (.ref g) (.ref a :: us)) (EP X pins σ Q) X.xe s2) → P (.ref g, [.ref a]) s1) :
    wpAny (model X.prog X.w) X.A (getMethod u (Str.ofString ms) pl) P X.xe s1 := by
  obtain ⟨ss, G, Q', a, C, fs, sp, rfl, at1, c1, ea, l, hsp, w⟩ := h
  obtain rfl : u = Value.ref a := ru
  obtain ⟨ca, dx, fl, e1, e2, e3, e4⟩ := at1.sim.ins ea
  obtain ⟨cl, _⟩ := ok.md.cls C ca e2
  have lk : fl.lookup (Str.ofString ms) = none := by
    rcases e3.get ms with ⟨_, z⟩ | ⟨t, v, z, _⟩
    · exact z
    · rw [l] at z; cases z
  obtain ⟨g, fd, ps, hg, F, b⟩ := ok.md.me C ms sp hsp ca e2
  refine getmeth_ok I1 e1 cl hg lk (run ss G Q' a sp g rfl at1 hg.kp w fun s2 H2 us vs ts G2 I2 r hx rt sm q => ?_)
  exact run_fnS (E := WE (upX S X.K H0 WT)) (us := .ref a :: us) (vs := .ref a :: vs) F ok.room b (passAt ok.tk σ) I2 (.cons rfl r)
    ⟨.ref a :: ts, G2, Q', WT ss, RTs.cons rt_ref rt, sm, q, c1.step hx, fun c fs' G' cls d H' hx' er sm' wx => ⟨ss, c, fs', G', at1.next (hx.trans hx') sm', er, wx⟩⟩
theorem meth_rule (ok : Ok X S M k H0 WT n) {o e : Expr} {ms : String} {m : Str} {apos pos : Pos} {es : List Expr} {ta : TE} {len : Nat} {p : Sl → Gp → XT → (List T → Gp → Prop) → Prop} (hm : m = Str.ofString ms) (hb : basePl o = true) (hs : allPl (e :: es) = true) (hl : (apos.endLine == pos.line) = true) (hn : (e :: es).length < 30)
    (he : PE X o ta) (ha : PA X (e :: es) (upA S X.K H0 WT len p)) : PE X (.Call (.Attribute o m apos) (e :: es) [] pos) (fun σ H Q => ta σ H fun v H1 => MRec S X.K M H0 WT ms p v σ H1 Q) := by
  refine ⟨fun pins s σ H Q I h => ?_⟩
  subst hm
  refine PySem.W.methodCall_KW (pl := DoPl o X) (thn (he.run pins s σ H _ I h) fun u s1 ⟨v, H1, I1, rv, w⟩ => ?_) (meth_eq hb hs hl hn)
  refine meth_at ok I1 rv w fun ss G Q' a sp g eu at1 kg w run => ?_
  have hs' := hs
  unfold allPl at hs'
  rw [List.all_cons, Bool.and_eq_true] at hs'
  have hA := ha.run pos pins s1 σ H1 (fun vs H2 => ∃ ts G2, HX H1 H2 ∧ RTs X.K H2 ts vs ∧ Sim S X.K H2 G2 ∧ sp (.ref a :: ts) G2 Q' (WT ss)) I1
    ⟨ss, G, _, at1, w, fun ts G2 vs H2 hx rt sm _ h2 => ⟨ts, G2, hx, rt, sm, h2⟩⟩
  exact PySem.W.callWith_K (first := [.ref a]) (h₀ := X.base) I.ok.mod.kin kg (thn hA fun us s2 ⟨vs, H2, I2, r, ts, G2, hx, rt, sm, q⟩ => ⟨I2.kIn, run s2 H2 us vs ts G2 I2 r hx rt sm q⟩) (starEach_plain hs'.1) (star_none hs'.2)
theorem meth_rule0 (ok : Ok X S M k H0 WT n) {o : Expr} {ms : String} {m : Str} {apos pos : Pos} {ta : TE} (hm : m = Str.ofString ms) (hb : basePl o = true) (hl : (apos.endLine == pos.line) = true)
    (he : PE X o ta) : PE X (.Call (.Attribute o m apos) [] [] pos) (fun σ H Q => ta σ H fun v H1 => MRec S X.K M H0 WT ms (fun _ G _ R => R [] G) v σ H1 Q) := by
  refine ⟨fun pins s σ H Q I h => ?_⟩
  subst hm
  refine PySem.W.methodCall_KW (pl := DoPl o X) (thn (he.run pins s σ H _ I h) fun u s1 ⟨v, H1, I1, rv, w⟩ => ?_) (meth_eq hb rfl hl (by decide))
  refine meth_at ok I1 rv w fun ss G Q' a sp g eu at1 kg w run => ?_
  exact PySem.W.callWith_K0 (first := [.ref a]) I1.kIn kg (run s1 H1 [] [] [] G I1 .nil (HX.refl _) RTs.nil at1.sim w)
/-- C(..) -/
def MkRec (S : Stc) (K : PySem.W.Frag) (M : Gm) (H0 : Hp) (WT : Sl → XT) (C : String) (sp : Pr) : List T → Gp → Sl → QT → Prop := fun ts G1 ss Q' => ∀ p, G1 p = none → sp (.ref p :: ts) (gu G1 p (.ins C [])) (fun v G2 => v = .non ∧ Q' (.ref p) G2) (WT ss)
theorem make_run (ok : Ok X S M k H0 WT n) {C : String} {sp : Pr} (hsp : M.fn C "__init__" = some sp) {ca : Addr} {fa : Addr} {fd : FuncData} {ps : List Str} {j : Nat} (e2 : S.cls C = some ca) (mk : Mk X.K ca fa) (F : FnOk X.prog X.w X.K X.mg X.base (L2.CX X.prog X.w) j fa fd ps (upSp S X.K sp)) (hj : j + 1 ≤ k) (b : Binds X.K fd ps [])
    {pins : List (Addr × Obj)} {σ : L2.St} {H H1 : Hp} {s : Shared} {Q : VK} {Q' : QT} {us : List Value} {vs : List V} {ts : List T} {G1 : Gp} {ss : Sl} (I : Inv X pins σ H1 s) (r : Vals vs us) (at1 : At S X.K H0 ss G1 σ H1) (rt : RTs X.K H1 ts vs) (c1 : Cont S X.K H1 Q' Q) (q : MkRec S X.K M H0 WT C sp ts G1 ss Q') :
    wpAny (model X.prog X.w) X.A (call (.ref ca) us) (EP X pins σ Q) X.xe s := by
  have hx1 : H1 (s.heap.objs.size + 1) = none := I.hok.fresh (Nat.le_succ _)
  have hx0 : H1 s.heap.objs.size = none := I.hok.fresh (Nat.le_refl _)
  have ne : s.heap.objs.size ≠ s.heap.objs.size + 1 := Nat.ne_of_lt (Nat.lt_succ_self _)
  have ne' : (s.heap.objs.size : Addr) + 1 ≠ s.heap.objs.size := fun z => ne z.symm
  have I2 := Inv.made (C := ca) I
  have hx1' : upd H1 s.heap.objs.size (.own (s.heap.objs.size + 1)) (s.heap.objs.size + 1) = none := by rw [upd_ne ne']; exact hx1
  have hxA : HX H1 (upd (upd H1 s.heap.objs.size (.own (s.heap.objs.size + 1))) (s.heap.objs.size + 1) (.ins ca s.heap.objs.size [])) := (HX.new hx0).trans (HX.new hx1')
  have sm2 : Sim S X.K (upd (upd H1 s.heap.objs.size (.own (s.heap.objs.size + 1))) (s.heap.objs.size + 1) (.ins ca s.heap.objs.size [])) (gu G1 (s.heap.objs.size + 1) (.ins C [])) :=
    (at1.sim.aside hx0).new hx1' (show RO S X.K _ (.ins C []) (.ins ca _ []) from ⟨ca, _, [], rfl, e2, by unfold RF; rfl, fun p hp => by cases hp⟩)
  have qq := q (s.heap.objs.size + 1) (at1.sim.free hx1)
  have hq : upSp S X.K sp (V.ref (s.heap.objs.size + 1) :: vs) (upd (upd H1 s.heap.objs.size (.own (s.heap.objs.size + 1))) (s.heap.objs.size + 1) (.ins ca s.heap.objs.size [])) (fun v H2 => v = .non ∧ Q (.ref (s.heap.objs.size + 1)) H2) (WE (upX S X.K H0 WT) σ) :=
    ⟨.ref (s.heap.objs.size + 1) :: ts, _, _, WT ss, RTs.cons rt_ref (rt.mono hxA), sm2, qq, fun t G' v H' hx r' sm' ⟨e, q'⟩ => by
      subst e
      exact ⟨of_non r', c1 _ _ _ _ (hxA.trans hx) rt_ref sm' q'⟩, fun c fs' G' cls d H' hx' er sm' wx => ⟨ss, c, fs', G', at1.next (hxA.trans hx') sm', er, wx⟩⟩
  have r2 : Vals (V.ref (s.heap.objs.size + 1) :: vs) (Value.ref (s.heap.objs.size + 1) :: us) := .cons rfl r
  have hl : (Value.ref (s.heap.objs.size + 1) :: us).length = ps.length := by
    have e := r2.length
    rw [F.len _ _ _ _ hq] at e
    exact e.symm
  have bb := b { s with heap := (s.heap.push PySem.W.emptyDict).push (PySem.W.instObj ca s.heap.objs.size) } (Value.ref (s.heap.objs.size + 1) :: us) I2.kIn (by rw [List.append_nil]; exact hl)
  rw [List.append_nil] at bb
  refine wpAny_call (make_map (f := fa) I.kIn mk.makes mk.init (beq_iff_eq.mp mk.fn) (codeAny_mono (F.run _ X.stack _ _ ⟨Value.ref (s.heap.objs.size + 1) :: us, []⟩ (Value.ref (s.heap.objs.size + 1) :: us) _ _ (WE (upX S X.K H0 WT) σ) (Room.make (ok.room.mono hj) ca us [])
    (I2.env0.make ca us []) bb r2 hq) fun r s' hq' => ?_))
  cases r with
  | error e => exact passAt ok.tk σ pins _ _ e s' I2 hq'
  | ok fl =>
    cases fl with
    | ret u =>
      obtain ⟨v, H', I3, rv, ev, q3⟩ := I2.after hq'
      subst ev
      exact ⟨rv, ⟨V.ref (s.heap.objs.size + 1), H', I3, rfl, q3⟩⟩
    | next => exact False.elim hq'
    | brk => exact False.elim hq'
    | cont => exact False.elim hq'
theorem make_rule (ok : Ok X S M k H0 WT n) {x : Str} {C : String} {e : Expr} {es : List Expr} {pp pos : Pos} {len : Nat} {p : Sl → Gp → XT → (List T → Gp → Prop) → Prop} (hc : chkName n x C = true) (hs : allPl (e :: es) = true)
    (ha : PA X (e :: es) (upA S X.K H0 WT len p)) : PE X (.Call (.Name x pp) (e :: es) [] pos) (upE S X.K H0 WT fun ss G X' Q' => ∃ sp, M.fn C "__init__" = some sp ∧ p ss G X' fun ts G1 => ∀ p, G1 p = none → sp (.ref p :: ts) (gu G1 p (.ins C [])) (fun v G2 => v = .non ∧ Q' (.ref p) G2) X') := by
  refine ⟨fun pins s σ H Q I ⟨ss, G, Q', at0, ⟨sp, hsp, w⟩, c⟩ => ?_⟩
  obtain ⟨hx, hg, hd, _⟩ := ok.gl hc
  subst hx
  obtain ⟨ca, fa, fd, ps, j, e2, hm, mk, F, hj, b⟩ := ok.md.cr C sp hsp
  have hs' := hs
  unfold allPl at hs'
  rw [List.all_cons, Bool.and_eq_true] at hs'
  refine wpAny_Call_Name_kw (ld_glob I hg hm ?_ hd)
  have hA := ha.run pos pins s σ H (fun vs H2 => ∃ ts G2, HX H H2 ∧ RTs X.K H2 ts vs ∧ Sim S X.K H2 G2 ∧ MkRec S X.K M H0 WT C sp ts G2 ss Q') I
    ⟨ss, G, _, at0, w, fun ts G2 vs H2 hx rt sm _ h2 => ⟨ts, G2, hx, rt, sm, h2⟩⟩
  exact PySem.W.callWith_K (h₀ := X.base) I.ok.mod.kin mk.kp (thn hA fun us s1 ⟨vs, H1, I1, r, ts, G2, hx, rt, sm, q⟩ => ⟨I1.kIn, make_run ok (H := H) hsp e2 mk F hj b I1 r (at0.next hx sm) rt (c.step hx) q⟩) (starEach_plain hs'.1) (star_none hs'.2)
theorem make_rule0 (ok : Ok X S M k H0 WT n) {x : Str} {C : String} {pp pos : Pos} (hc : chkName n x C = true) : PE X (.Call (.Name x pp) [] [] pos) (upE S X.K H0 WT fun ss G X' Q' => ∃ sp, M.fn C "__init__" = some sp ∧ ∀ p, G p = none → sp [.ref p] (gu G p (.ins C [])) (fun v G2 => v = .non ∧ Q' (.ref p) G2) X') := by
  refine ⟨fun pins s σ H Q I ⟨ss, G, Q', at0, ⟨sp, hsp, w⟩, c⟩ => ?_⟩
  obtain ⟨hx, hg, hd, _⟩ := ok.gl hc
  subst hx
  obtain ⟨ca, fa, fd, ps, j, e2, hm, mk, F, hj, b⟩ := ok.md.cr C sp hsp
  refine wpAny_Call_Name_kw (ld_glob I hg hm ?_ hd)
  exact PySem.W.callWith_K0 I.kIn mk.kp (make_run ok (H := H) hsp e2 mk F hj b (us := []) I .nil at0 RTs.nil c w)
end
end SK

set_option Elab.async false
set_option linter.all false
set_option maxRecDepth 100000
/-! SK7: one rule a construct. -/
namespace SK
open PySem PySem.Spec PyProof.Rows L2
section
variable {X : Cx} {S : Stc} {M : Gm} {k : Nat} {H0 : Hp} {WT : Sl → XT} {n : Nm}
theorem r_var (ok : Ok X S M k H0 WT n) {i : Nat} {x : Str} {pos : Pos} (h : chkE (.var i) n (.Name x pos) = true) : PE X (.Name x pos) (upE S X.K H0 WT (wpE M (.var i))) := by
  simp only [chkE, Bool.and_eq_true, decide_eq_true_eq] at h
  obtain ⟨⟨h1, h2⟩, h3⟩ := h
  obtain ⟨d1, d2, _⟩ := okName_of h3
  refine (pe_var (i := i) (by rw [ok.N]; exact h1) (by rw [ok.sc]; exact visB_vis h2) d1 d2).imp fun σ H Q ⟨ss, G, Q', a, w, c⟩ => ?_
  simp only [wpE] at w
  obtain ⟨t, e, q⟩ := w
  obtain ⟨v, e2, r⟩ := a.rs.2 i t e
  exact ⟨v, e2, c.here a.sim r q⟩
theorem r_kc {t : T} {c : Const} {j : Nat} {pos : Pos} (h : chkC t c = true) : PE X (.Constant c j pos) (upE S X.K H0 WT (wpE M (.kc t))) := by
  have go : ∀ {v : V}, (∀ H, RT X.K H t v) → PE X (.Constant c j pos) (tC v) → PE X (.Constant c j pos) (upE S X.K H0 WT (wpE M (.kc t))) := fun {v} r p =>
    p.imp fun σ H Q ⟨ss, G, Q', a, w, ct⟩ => by
      simp only [wpE] at w
      exact ct.here a.sim (r H) w
  cases t <;> cases c <;> (try (simp [chkC] at h; done))
  · exact go (fun _ => rt_non) pe_non
  · simp only [chkC, beq_iff_eq] at h; subst h; exact go (fun _ => rt_bl) pe_bl
  · simp only [chkC, beq_iff_eq] at h; subst h; exact go (fun _ => rt_int) pe_int
  · simp only [chkC, decide_eq_true_eq] at h; subst h; exact go (fun _ => rt_str) pe_str
theorem r_gl (ok : Ok X S M k H0 WT n) {f : String} {x : Str} {pos : Pos} (h : chkE (.gl f) n (.Name x pos) = true) : PE X (.Name x pos) (upE S X.K H0 WT (wpE M (.gl f))) := by
  simp only [chkE, Bool.and_eq_true] at h
  obtain ⟨hx, hg, hd, _⟩ := ok.gl h.1
  refine ⟨fun pins s σ H Q I ⟨ss, G, Q', a, w, c⟩ => ?_⟩
  simp only [wpE] at w
  obtain ⟨t, e, q⟩ := w
  obtain ⟨u, v, hm, r, rt⟩ := ok.md.cst f t (by simpa using h.2) e
  subst hx
  exact ld_glob I hg hm ⟨v, H, I, r, c.here a.sim (rt H) q⟩ hd
theorem r_nil : PA X [] (upA S X.K H0 WT 0 (wpEs M .nil)) := pa_nil.imp fun σ H Q ⟨ss, G, Q', a, w, c⟩ => by
  simp only [wpEs] at w
  exact c [] G [] H (HX.refl _) RTs.nil a.sim rfl w
theorem r_cons {e : Expr} {es : List Expr} {ce : E} {cs : Es} {len : Nat} (hs : notStar e = true) (h1 : PE X e (upE S X.K H0 WT (wpE M ce))) (h2 : PA X es (upA S X.K H0 WT len (wpEs M cs))) : PA X (e :: es) (upA S X.K H0 WT (len + 1) (wpEs M (.cons ce cs))) :=
  (pa_cons h1 h2 (starEach_plain hs)).imp fun σ H Q ⟨ss, G, Q', a, w, c⟩ => by
    simp only [wpEs] at w
    exact ⟨ss, G, _, a, w, fun t G1 v H1 hx r sm w1 => ⟨ss, G1, _, a.next hx sm, w1, fun ts G2 vs H2 hx2 rs sm2 hl w2 => c (t :: ts) G2 (v :: vs) H2 (hx.trans hx2) (RTs.cons (r.mono hx2) rs) sm2 (by simp [hl]) w2⟩⟩
theorem r_tup {es : List Expr} {cs : Es} {j len : Nat} {pos : Pos} (hl : len ≤ 1000) (h : PA X es (upA S X.K H0 WT len (wpEs M cs))) : PE X (.Tuple es j pos) (upE S X.K H0 WT (wpE M (.tup cs))) :=
  (pe_tup h).imp fun σ H Q ⟨ss, G, Q', a, w, c⟩ => by
    simp only [wpE] at w
    refine ⟨ss, G, _, a, w, fun ts G1 vs H1 hx r sm hl' q => ⟨by rw [hl']; exact Nat.le_trans hl (by decide), fun p hp => ?_⟩⟩
    exact (c.step hx).newT sm hp r q
theorem r_lst {es : List Expr} {cs : Es} {len : Nat} {pos : Pos} (hl : len ≤ 1000) (h : PA X es (upA S X.K H0 WT len (wpEs M cs))) : PE X (.List es pos) (upE S X.K H0 WT (wpE M (.lst cs))) :=
  (pe_lst h).imp fun σ H Q ⟨ss, G, Q', a, w, c⟩ => by
    simp only [wpE] at w
    refine ⟨ss, G, _, a, w, fun ts G1 vs H1 hx r sm hl' q => ⟨by rw [hl']; exact Nat.le_trans hl (by decide), fun p hp => ?_⟩⟩
    exact (c.step hx).newL sm hp r q
theorem r_dct0 {pos : Pos} : PE X (.Dict [] [] pos) (upE S X.K H0 WT (wpE M (.dct [] .nil))) :=
  pe_dnewK.imp fun σ H Q ⟨ss, G, Q', a, w, c⟩ => by
    simp only [wpE, wpEs, List.length_nil, List.map_nil, List.zip_nil_left] at w
    intro p hp
    have q := (w p (a.sim.free hp)).2.2
    have e : gu (gu G p (.dct [])) p (.dct []) = gu G p (.dct []) := by funext b; unfold gu; split <;> rfl
    rw [e] at q
    exact c _ _ _ _ (HX.new hp) rt_ref (a.sim.new hp (show RO S X.K _ (.dct []) (.dK []) from ⟨[], rfl, by unfold RK; rfl⟩)) q
/-! operators -/
theorem r_op {o : Op} {op : Operator} {a b : Expr} {ca cb : E} {pos : Pos} (hc : chkOp o op = true) (h1 : PE X a (upE S X.K H0 WT (wpE M ca))) (h2 : PE X b (upE S X.K H0 WT (wpE M cb))) {f : T → T → Gp → QT → Prop} (hf : OpR X (binaryOp op) (up2 S X.K f)) :
    PE X (.BinOp a op b pos) (upE S X.K H0 WT fun ss G X' Q => wpE M ca ss G X' fun x G1 => wpE M cb ss G1 X' fun y G2 => f x y G2 Q) :=
  (pe_op hf h1 h2).imp fun σ H Q ⟨ss, G, Q', a, w, c⟩ =>
    ⟨ss, G, _, a, w, fun t G1 v H1 hx r sm w1 => ⟨ss, G1, _, a.next hx sm, w1, fun u G2 z H2 hx2 r2 sm2 w2 => ⟨t, u, G2, Q', r.mono hx2, r2, sm2, w2, (c.step hx).step hx2⟩⟩⟩
theorem r_bin (ok : Ok X S M k H0 WT n) {o : Op} {op : Operator} {a b : Expr} {ca cb : E} {pos : Pos} (hc : chkOp o op = true) (h1 : PE X a (upE S X.K H0 WT (wpE M ca))) (h2 : PE X b (upE S X.K H0 WT (wpE M cb))) :
    PE X (.BinOp a op b pos) (upE S X.K H0 WT (wpE M (.bin o ca cb))) := by
  have z : ∀ {f : T → T → Gp → QT → Prop}, binW o = f → OpR X (binaryOp op) (up2 S X.K f) → PE X (.BinOp a op b pos) (upE S X.K H0 WT (wpE M (.bin o ca cb))) := fun {f} e hf =>
    (r_op hc h1 h2 hf).imp fun σ H Q ⟨ss, G, Q', a, w, c⟩ => by
      simp only [wpE, e] at w
      exact ⟨ss, G, Q', a, w, c⟩
  cases o <;> cases op <;> first | (cases hc; done) | skip
  · exact z rfl op_addW
  · exact z rfl op_subW
  · exact z rfl op_mulW
  · exact z rfl op_fdvW
  · exact z rfl op_modW
  · exact z rfl op_powW
theorem r_neg {a : Expr} {ca : E} {pos : Pos} (h1 : PE X a (upE S X.K H0 WT (wpE M ca))) : PE X (.UnaryOp .USub a pos) (upE S X.K H0 WT (wpE M (.neg ca))) :=
  (pe_un un_neg h1).imp fun σ H Q ⟨ss, G, Q', a, w, c⟩ => by
    simp only [wpE] at w
    refine ⟨ss, G, _, a, w, fun t G1 v H1 hx r sm ⟨i, e, q⟩ => ?_⟩
    subst e
    exact ⟨i, of_int r, (c.step hx).here sm rt_int q⟩
theorem marks {c : E} {op : CmpOp} {e : Expr} (h : chkE c n e = true) : behindInMarks op e = false := by
  cases e <;> first | rfl | (cases c <;> simp [chkE] at h)
/-- a comparison, as a value and as a test -/
theorem r_cmp' (ok : Ok X S M k H0 WT n) {o : Cp} {op : CmpOp} {a b : Expr} {ca cb : E} {pos : Pos} (hc : chkCp o op = true) (hm : chkE cb n b = true) (h1 : PE X a (upE S X.K H0 WT (wpE M ca))) (h2 : PE X b (upE S X.K H0 WT (wpE M cb))) :
    PE X (.Compare a [op] [b] pos) (upE S X.K H0 WT (wpE M (.cmp o ca cb))) ∧ PT X (.Compare a [op] [b] pos) (upT S X.K H0 WT (wpE M (.cmp o ca cb))) := by
  have z : ∀ {f : T → T → Gp → QT → Prop}, cmpW o = f → OpR X (compareOp op) (up2 S X.K f) → PE X (.Compare a [op] [b] pos) (upE S X.K H0 WT (wpE M (.cmp o ca cb))) ∧ PT X (.Compare a [op] [b] pos) (upT S X.K H0 WT (wpE M (.cmp o ca cb))) := fun {f} e hf =>
    ⟨(pe_cmpR hf h1 h2 (marks hm)).imp fun σ H Q ⟨ss, G, Q', a, w, c⟩ => by
      simp only [wpE, e] at w
      exact ⟨ss, G, _, a, w, fun t G1 v H1 hx r sm w1 => ⟨ss, G1, _, a.next hx sm, w1, fun u G2 z H2 hx2 r2 sm2 w2 => ⟨t, u, G2, Q', r.mono hx2, r2, sm2, w2, (c.step hx).step hx2⟩⟩⟩,
    (pt_cmpR hf h1 h2 (marks hm)).imp fun σ H Q ⟨ss, G, Q', a, w, c⟩ => by
      simp only [wpE, e] at w
      exact ⟨ss, G, _, a, w, fun t G1 v H1 hx r sm w1 => ⟨ss, G1, _, a.next hx sm, w1, fun u G2 z H2 hx2 r2 sm2 w2 => ⟨t, u, G2, Q', r.mono hx2, r2, sm2, w2, fun t3 G3 v3 H3 hx3 r3 sm3 q3 => by
        obtain ⟨b, e, q⟩ := c t3 G3 H3 ((hx.trans hx2).trans hx3) sm3 q3
        subst e
        exact ⟨b, of_bl r3, q⟩⟩⟩⟩⟩
  have dctR : ∀ (neg : Bool) {σ : L2.St} {H H2 : Hp} {Q : VK} {Q' : QT} {x : T} {y : T} {v u : V} {G2 : Gp}, RT X.K H2 x v → RT X.K H2 y u → Sim S X.K H2 G2 → inDW neg x y G2 Q' → Cont S X.K H2 Q' Q → ∃ aa oo, u = .ref aa ∧ DGet H2 aa v oo ∧ Q (.bl (xor neg oo.isSome)) H2 := by
    intro neg σ H H2 Q Q' x y v u G2 rx ry sm w c
    cases y <;> first | exact False.elim w | skip
    cases of_ref ry
    obtain ⟨kvs, kk, e1, e2, q⟩ := w
    obtain ⟨l, hl, rk⟩ := sm.dct e1
    have ev := keyT_of e2 rx
    subst ev
    refine ⟨_, _, rfl, DGet.k hl, ?_⟩
    rcases rk.get kk with ⟨z1, z2⟩ | ⟨t, v, z1, z2, _⟩
    · rw [z1] at q; rw [z2]; exact c.here sm rt_bl q
    · rw [z1] at q; rw [z2]; exact c.here sm rt_bl q
  cases o <;> cases op <;> first | (cases hc; done) | skip
  · exact z rfl (op_eqW ok.hu)
  · exact z rfl (op_neW ok.hu)
  · exact z rfl op_ltW
  · exact z rfl op_leW
  · exact z rfl op_gtW
  · exact z rfl op_geW
  · exact z rfl op_inW
  · exact z rfl op_niW
  · refine ⟨(pe_cmp (pc_din ok.hu1 h1 h2) (marks hm)).imp fun σ H Q ⟨ss, G, Q', a, w, c⟩ => ?_, (pt_cmp (pc_din ok.hu1 h1 h2) (marks hm)).imp fun σ H Q ⟨ss, G, Q', a, w, c⟩ => ?_⟩
    · simp only [wpE, cmpW] at w
      refine ⟨ss, G, _, a, w, fun t G1 v H1 hx r sm w1 => ⟨ss, G1, _, a.next hx sm, w1, fun u G2 z H2 hx2 r2 sm2 w2 => ?_⟩⟩
      obtain ⟨aa, oo, e1, e2, q⟩ := dctR false (σ := σ) (H := H) (r.mono hx2) r2 sm2 w2 ((c.step hx).step hx2)
      rw [Bool.false_xor] at q
      exact ⟨aa, oo, e1, e2, q⟩
    · simp only [wpE, cmpW] at w
      refine ⟨ss, G, _, a, w, fun t G1 v H1 hx r sm w1 => ⟨ss, G1, _, a.next hx sm, w1, fun u G2 z H2 hx2 r2 sm2 w2 => ?_⟩⟩
      obtain ⟨aa, oo, e1, e2, q⟩ := dctR false (σ := σ) (H := H) (Q := fun x H1 => ∃ c, x = .bl c ∧ Q c H1) (r.mono hx2) r2 sm2 w2 (fun t3 G3 v3 H3 hx3 r3 sm3 q3 => by
        obtain ⟨b, e, q⟩ := c t3 G3 H3 ((hx.trans hx2).trans hx3) sm3 q3
        subst e
        exact ⟨b, of_bl r3, q⟩)
      rw [Bool.false_xor] at q
      exact ⟨aa, oo, e1, e2, q⟩
  · refine ⟨(pe_cmp (pc_dnotin ok.hu1 h1 h2) (marks hm)).imp fun σ H Q ⟨ss, G, Q', a, w, c⟩ => ?_, (pt_cmp (pc_dnotin ok.hu1 h1 h2) (marks hm)).imp fun σ H Q ⟨ss, G, Q', a, w, c⟩ => ?_⟩
    · simp only [wpE, cmpW] at w
      refine ⟨ss, G, _, a, w, fun t G1 v H1 hx r sm w1 => ⟨ss, G1, _, a.next hx sm, w1, fun u G2 z H2 hx2 r2 sm2 w2 => ?_⟩⟩
      obtain ⟨aa, oo, e1, e2, q⟩ := dctR true (σ := σ) (H := H) (r.mono hx2) r2 sm2 w2 ((c.step hx).step hx2)
      rw [Bool.true_xor] at q
      exact ⟨aa, oo, e1, e2, q⟩
    · simp only [wpE, cmpW] at w
      refine ⟨ss, G, _, a, w, fun t G1 v H1 hx r sm w1 => ⟨ss, G1, _, a.next hx sm, w1, fun u G2 z H2 hx2 r2 sm2 w2 => ?_⟩⟩
      obtain ⟨aa, oo, e1, e2, q⟩ := dctR true (σ := σ) (H := H) (Q := fun x H1 => ∃ c, x = .bl c ∧ Q c H1) (r.mono hx2) r2 sm2 w2 (fun t3 G3 v3 H3 hx3 r3 sm3 q3 => by
        obtain ⟨b, e, q⟩ := c t3 G3 H3 ((hx.trans hx2).trans hx3) sm3 q3
        subst e
        exact ⟨b, of_bl r3, q⟩)
      rw [Bool.true_xor] at q
      exact ⟨aa, oo, e1, e2, q⟩
  · exact z rfl op_isNW
  · exact z rfl op_ntNW
/-- a value that is a bool, as a test -/
theorem r_tst {e : Expr} {p : Sl → Gp → XT → QT → Prop} (h : PE X e (upE S X.K H0 WT p)) (he : ∀ whole, isTrue e X.env whole = (do let v ← whole; standAt e.pos; holding [v] (truthy v))) : PT X e (upT S X.K H0 WT p) :=
  (pt_val h he).imp fun σ H Q ⟨ss, G, Q', a, w, c⟩ => ⟨ss, G, Q', a, w, fun t G1 v H1 hx r sm q => by
    obtain ⟨b, e, q2⟩ := c t G1 H1 hx sm q
    subst e
    exact ⟨b, of_bl r, q2⟩⟩
theorem r_not {a : Expr} {ca : E} {pos : Pos} (h1 : PE X a (upE S X.K H0 WT (wpE M ca))) : PE X (.UnaryOp .Not a pos) (upE S X.K H0 WT (wpE M (.lnot ca))) :=
  (pe_not h1).imp fun σ H Q ⟨ss, G, Q', a, w, c⟩ => by
    simp only [wpE] at w
    refine ⟨ss, G, _, a, w, fun t G1 v H1 hx r sm ⟨i, e, q⟩ => ?_⟩
    subst e
    exact ⟨i, of_bl r, (c.step hx).here sm rt_bl q⟩
theorem r_notT {a : Expr} {ca : E} {pos : Pos} (h1 : PT X a (upT S X.K H0 WT (wpE M ca))) : PT X (.UnaryOp .Not a pos) (upT S X.K H0 WT (wpE M (.lnot ca))) :=
  (pt_not h1).imp fun σ H Q ⟨ss, G, Q', a, w, c⟩ => by
    simp only [wpE] at w
    refine ⟨ss, G, _, a, w, fun t G1 H1 hx sm ⟨i, e, q⟩ => ?_⟩
    subst e
    obtain ⟨b, e2, q2⟩ := c _ G1 H1 hx sm q
    cases e2
    exact ⟨i, rfl, q2⟩
/-! and, or -/
theorem r_and1 {e : Expr} {ce : E} {pos : Pos} (h : PE X e (upE S X.K H0 WT (wpE M ce))) : PE X (.BoolOp .And [e] pos) (upE S X.K H0 WT (wpAnd M (.cons ce .nil))) :=
  (pe_one h).imp fun σ H Q ⟨ss, G, Q', a, w, c⟩ => ⟨ss, G, Q', a, by simp only [wpAnd] at w; exact w, c⟩
theorem r_and2 {e f : Expr} {es : List Expr} {ce cf : E} {cs : Es} {pos : Pos} (h : PE X e (upE S X.K H0 WT (wpE M ce))) (h2 : PE X (.BoolOp .And (f :: es) pos) (upE S X.K H0 WT (wpAnd M (.cons cf cs)))) :
    PE X (.BoolOp .And (e :: f :: es) pos) (upE S X.K H0 WT (wpAnd M (.cons ce (.cons cf cs)))) :=
  (pe_and h h2).imp fun σ H Q ⟨ss, G, Q', a, w, c⟩ => by
    rw [wpAnd] at w
    refine ⟨ss, G, _, a, w, fun t G1 v H1 hx r sm ⟨b, e, q⟩ => ?_⟩
    subst e
    refine ⟨b, of_bl r, ?_⟩
    cases b with
    | true => exact ⟨ss, G1, Q', a.next hx sm, q, c.step hx⟩
    | false => exact (c.step hx).here sm rt_bl q
theorem r_or1 {e : Expr} {ce : E} {pos : Pos} (h : PE X e (upE S X.K H0 WT (wpE M ce))) : PE X (.BoolOp .Or [e] pos) (upE S X.K H0 WT (wpOr M (.cons ce .nil))) :=
  (pe_one h).imp fun σ H Q ⟨ss, G, Q', a, w, c⟩ => ⟨ss, G, Q', a, by simp only [wpOr] at w; exact w, c⟩
theorem r_or2 {e f : Expr} {es : List Expr} {ce cf : E} {cs : Es} {pos : Pos} (h : PE X e (upE S X.K H0 WT (wpE M ce))) (h2 : PE X (.BoolOp .Or (f :: es) pos) (upE S X.K H0 WT (wpOr M (.cons cf cs)))) :
    PE X (.BoolOp .Or (e :: f :: es) pos) (upE S X.K H0 WT (wpOr M (.cons ce (.cons cf cs)))) :=
  (pe_or h h2).imp fun σ H Q ⟨ss, G, Q', a, w, c⟩ => by
    rw [wpOr] at w
    refine ⟨ss, G, _, a, w, fun t G1 v H1 hx r sm ⟨b, e, q⟩ => ?_⟩
    subst e
    refine ⟨b, of_bl r, ?_⟩
    cases b with
    | false => exact ⟨ss, G1, Q', a.next hx sm, q, c.step hx⟩
    | true => exact (c.step hx).here sm rt_bl q
theorem r_and1T {e : Expr} {ce : E} {pos : Pos} (h : PT X e (upT S X.K H0 WT (wpE M ce))) : PW X (.BoolOp .And [e] pos) (upT S X.K H0 WT (wpAnd M (.cons ce .nil))) :=
  (pw_and1 h).imp fun σ H Q ⟨ss, G, Q', a, w, c⟩ => ⟨ss, G, Q', a, by simp only [wpAnd] at w; exact w, c⟩
theorem r_and2T {e f : Expr} {es : List Expr} {ce cf : E} {cs : Es} {pos : Pos} (h : PT X e (upT S X.K H0 WT (wpE M ce))) (h2 : PW X (.BoolOp .And (f :: es) pos) (upT S X.K H0 WT (wpAnd M (.cons cf cs)))) :
    PW X (.BoolOp .And (e :: f :: es) pos) (upT S X.K H0 WT (wpAnd M (.cons ce (.cons cf cs)))) :=
  (pw_and h h2).imp fun σ H Q ⟨ss, G, Q', a, w, c⟩ => by
    rw [wpAnd] at w
    refine ⟨ss, G, _, a, w, fun t G1 H1 hx sm ⟨b, e, q⟩ => ?_⟩
    subst e
    refine ⟨b, rfl, ?_⟩
    cases b with
    | true => exact ⟨ss, G1, Q', a.next hx sm, q, fun t2 G2 H2 hx2 sm2 q2 => c t2 G2 H2 (hx.trans hx2) sm2 q2⟩
    | false =>
      obtain ⟨b2, e2, q2⟩ := c _ G1 H1 hx sm q
      cases e2
      exact q2
theorem r_or1T {e : Expr} {ce : E} {pos : Pos} (h : PT X e (upT S X.K H0 WT (wpE M ce))) : PW X (.BoolOp .Or [e] pos) (upT S X.K H0 WT (wpOr M (.cons ce .nil))) :=
  (pw_or1 h).imp fun σ H Q ⟨ss, G, Q', a, w, c⟩ => ⟨ss, G, Q', a, by simp only [wpOr] at w; exact w, c⟩
theorem r_or2T {e f : Expr} {es : List Expr} {ce cf : E} {cs : Es} {pos : Pos} (h : PT X e (upT S X.K H0 WT (wpE M ce))) (h2 : PW X (.BoolOp .Or (f :: es) pos) (upT S X.K H0 WT (wpOr M (.cons cf cs)))) :
    PW X (.BoolOp .Or (e :: f :: es) pos) (upT S X.K H0 WT (wpOr M (.cons ce (.cons cf cs)))) :=
  (pw_or h h2).imp fun σ H Q ⟨ss, G, Q', a, w, c⟩ => by
    rw [wpOr] at w
    refine ⟨ss, G, _, a, w, fun t G1 H1 hx sm ⟨b, e, q⟩ => ?_⟩
    subst e
    refine ⟨b, rfl, ?_⟩
    cases b with
    | false => exact ⟨ss, G1, Q', a.next hx sm, q, fun t2 G2 H2 hx2 sm2 q2 => c t2 G2 H2 (hx.trans hx2) sm2 q2⟩
    | true =>
      obtain ⟨b2, e2, q2⟩ := c _ G1 H1 hx sm q
      cases e2
      exact q2
theorem r_ife {t a b : Expr} {ct ca cb : E} {pos : Pos} (h : PT X t (upT S X.K H0 WT (wpE M ct))) (h1 : PE X a (upE S X.K H0 WT (wpE M ca))) (h2 : PE X b (upE S X.K H0 WT (wpE M cb))) : PE X (.IfExp t a b pos) (upE S X.K H0 WT (wpE M (.ife ct ca cb))) :=
  (pe_ifExp h h1 h2).imp fun σ H Q ⟨ss, G, Q', a, w, c⟩ => by
    simp only [wpE] at w
    refine ⟨ss, G, _, a, w, fun t G1 H1 hx sm ⟨b, e, q⟩ => ?_⟩
    subst e
    refine ⟨b, rfl, ?_⟩
    cases b with
    | true => exact ⟨ss, G1, Q', a.next hx sm, q, c.step hx⟩
    | false => exact ⟨ss, G1, Q', a.next hx sm, q, c.step hx⟩
/-! subscripts, fields -/
theorem plainIx_of {c : E} {e : Expr} (h : chkE c n e = true) : PlainIx e := by
  intro o i
  cases e <;> first | rfl | (cases c <;> simp [chkE] at h)
theorem r_ix {a b : Expr} {ca cb : E} {pos : Pos} (hm : chkE cb n b = true) (h1 : PE X a (upE S X.K H0 WT (wpE M ca))) (h2 : PE X b (upE S X.K H0 WT (wpE M cb))) : PE X (.Subscript a b pos) (upE S X.K H0 WT (wpE M (.ix ca cb))) :=
  (pe_ix ix_W h1 h2 (plainIx_of hm)).imp fun σ H Q ⟨ss, G, Q', a, w, c⟩ => by
    simp only [wpE] at w
    exact ⟨ss, G, _, a, w, fun t G1 v H1 hx r sm w1 => ⟨ss, G1, _, a.next hx sm, w1, fun u G2 z H2 hx2 r2 sm2 w2 => ⟨t, u, G2, Q', r.mono hx2, r2, sm2, w2, (c.step hx).step hx2⟩⟩⟩
theorem r_dx (ok : Ok X S M k H0 WT n) {a b : Expr} {ca cb : E} {pos : Pos} (hm : chkE cb n b = true) (h1 : PE X a (upE S X.K H0 WT (wpE M ca))) (h2 : PE X b (upE S X.K H0 WT (wpE M cb))) : PE X (.Subscript a b pos) (upE S X.K H0 WT (wpE M (.dx ca cb))) :=
  (pe_dget ok.hu1 h1 h2 (plainIx_of hm)).imp fun σ H Q ⟨ss, G, Q', a, w, c⟩ => by
    simp only [wpE] at w
    refine ⟨ss, G, _, a, w, fun t G1 v H1 hx r sm w1 => ⟨ss, G1, _, a.next hx sm, w1, fun u G2 z H2 hx2 r2 sm2 w2 => ?_⟩⟩
    have r' := r.mono hx2
    cases t <;> first | exact False.elim w2 | skip
    cases of_ref r'
    obtain ⟨kvs, kk, x, e1, e2, e3, q⟩ := w2
    obtain ⟨l, hl, rk⟩ := sm2.dct e1
    have ev := keyT_of e2 r2
    subst ev
    rcases rk.get kk with ⟨z1, z2⟩ | ⟨t, v, z1, z2, rt⟩
    · rw [z1] at e3; cases e3
    · rw [z1] at e3
      cases e3
      exact ⟨_, v, rfl, by rw [← z2]; exact DGet.k hl, ((c.step hx).step hx2).here sm2 rt q⟩
theorem r_sl {a : Expr} {lo hi : Option Expr} {ca cl ch : E} {p2 pos : Pos} (h1 : PE X a (upE S X.K H0 WT (wpE M ca))) (h2 : PO X lo (upO S X.K H0 WT (wpO M cl))) (h3 : PO X hi (upO S X.K H0 WT (wpO M ch))) : PE X (.Subscript a (.Slice lo hi none p2) pos) (upE S X.K H0 WT (wpE M (.sl ca cl ch))) :=
  (pe_slice sl_W h1 h2 h3).imp fun σ H Q ⟨ss, G, Q', a, w, c⟩ => by
    simp only [wpE] at w
    exact ⟨ss, G, _, a, w, fun t G1 v H1 hx r sm w1 => ⟨ss, G1, _, a.next hx sm, w1, fun l G2 H2 hx2 sm2 w2 => ⟨ss, G2, _, (a.next hx sm).next hx2 sm2, w2, fun h G3 H3 hx3 sm3 w3 =>
      ⟨t, G3, Q', (r.mono hx2).mono hx3, sm3, w3, ((c.step hx).step hx2).step hx3⟩⟩⟩⟩
theorem r_fld (ok : Ok X S M k H0 WT n) {a : Expr} {f : String} {m : Str} {ca : E} {pos : Pos} (hm : m = Str.ofString f) (hb : basePl a = true) (h1 : PE X a (upE S X.K H0 WT (wpE M ca))) : PE X (.Attribute a m pos) (upE S X.K H0 WT (wpE M (.fld ca f))) :=
  (pe_fld h1 (base_plain hb)).imp fun σ H Q ⟨ss, G, Q', a, w, c⟩ => by
    subst hm
    simp only [wpE] at w
    refine ⟨ss, G, _, a, w, fun t G1 v H1 hx r sm w1 => ?_⟩
    cases t <;> first | exact False.elim w1 | skip
    cases of_ref r
    obtain ⟨C, fs, x, e1, e2, q⟩ := w1
    obtain ⟨ca, dx, l, h1, h2, h3, h4⟩ := sm.ins e1
    obtain ⟨cl, na⟩ := ok.md.cls C ca h2
    rcases h3.get f with ⟨z1, z2⟩ | ⟨t, v, z1, z2, rt⟩
    · rw [z1] at e2; cases e2
    · rw [z1] at e2
      cases e2
      have mem : ∃ p ∈ fs, p.1 = f := by
        unfold fGet at z1
        obtain ⟨p, hp, _⟩ := Option.map_eq_some_iff.mp z1
        exact ⟨p, List.mem_of_find?_eq_some hp, by simpa using List.find?_some hp⟩
      obtain ⟨p, hp, ef⟩ := mem
      exact ⟨_, ca, dx, l, v, rfl, h1, cl, na f (by rw [← ef]; exact h4 p hp), z2, (c.step hx).here sm rt q⟩
/-! calls -/
theorem r_call (ok : Ok X S M k H0 WT n) {f : String} {x : Str} {e : Expr} {es : List Expr} {cs : Es} {len : Nat} {pp pos : Pos} (h : chkName n x f = true) (hs : allPl (e :: es) = true) (ha : PA X (e :: es) (upA S X.K H0 WT len (wpEs M cs))) :
    PE X (.Call (.Name x pp) (e :: es) [] pos) (upE S X.K H0 WT (wpE M (.call f cs))) := by
  obtain ⟨hx, hg, hd, _⟩ := ok.gl h
  subst hx
  have hs' := hs
  unfold allPl at hs'
  rw [List.all_cons, Bool.and_eq_true] at hs'
  refine ⟨fun pins s σ H Q I ⟨ss, G, Q', a, w, c⟩ => ?_⟩
  simp only [wpE] at w
  obtain ⟨sp, hsp, w⟩ := w
  obtain ⟨fa, fd, ps, F, hm, kp, b⟩ := ok.md.fn f sp hsp
  refine (pe_callS (E := WE (upX S X.K H0 WT)) F ok.room hg hm kp b (fun σ => passAt ok.tk σ) ha hd (starEach_plain hs'.1) (star_none hs'.2)).run pins s σ H Q I ?_
  exact ⟨ss, G, _, a, w, fun ts G1 vs H1 hx rs sm hl q => ⟨ts, G1, Q', WT ss, rs, sm, q, c.step hx, fun c' fs' G' cls d H' hx' er sm' wx => ⟨ss, c', fs', G', (a.next hx sm).next hx' sm', er, wx⟩⟩⟩
theorem r_meth (ok : Ok X S M k H0 WT n) {o e : Expr} {ms : String} {m : Str} {apos pos : Pos} {es : List Expr} {co : E} {cs : Es} {len : Nat} (hm : m = Str.ofString ms) (hb : basePl o = true) (hs : allPl (e :: es) = true) (hl : (apos.endLine == pos.line) = true) (hn : (e :: es).length < 30)
    (he : PE X o (upE S X.K H0 WT (wpE M co))) (ha : PA X (e :: es) (upA S X.K H0 WT len (wpEs M cs))) : PE X (.Call (.Attribute o m apos) (e :: es) [] pos) (upE S X.K H0 WT (wpE M (.meth co ms cs))) :=
  (meth_rule ok hm hb hs hl hn he ha).imp fun σ H Q ⟨ss, G, Q', a, w, c⟩ => by
    simp only [wpE] at w
    refine ⟨ss, G, _, a, w, fun t G1 v H1 hx r sm ⟨p, C, fs, sp, e1, e2, e3, e4, w1⟩ => ?_⟩
    subst e1
    exact ⟨ss, G1, Q', p, C, fs, sp, of_ref r, a.next hx sm, c.step hx, e2, e3, e4, w1⟩
theorem r_meth0 (ok : Ok X S M k H0 WT n) {o : Expr} {ms : String} {m : Str} {apos pos : Pos} {co : E} (hm : m = Str.ofString ms) (hb : basePl o = true) (hl : (apos.endLine == pos.line) = true)
    (he : PE X o (upE S X.K H0 WT (wpE M co))) : PE X (.Call (.Attribute o m apos) [] [] pos) (upE S X.K H0 WT (wpE M (.meth co ms .nil))) :=
  (meth_rule0 ok hm hb hl he).imp fun σ H Q ⟨ss, G, Q', a, w, c⟩ => by
    simp only [wpE, wpEs] at w
    refine ⟨ss, G, _, a, w, fun t G1 v H1 hx r sm ⟨p, C, fs, sp, e1, e2, e3, e4, w1⟩ => ?_⟩
    subst e1
    exact ⟨ss, G1, Q', p, C, fs, sp, of_ref r, a.next hx sm, c.step hx, e2, e3, e4, w1⟩
theorem r_make (ok : Ok X S M k H0 WT n) {x : Str} {C : String} {e : Expr} {es : List Expr} {pp pos : Pos} {cs : Es} {len : Nat} (hc : chkName n x C = true) (hs : allPl (e :: es) = true)
    (ha : PA X (e :: es) (upA S X.K H0 WT len (wpEs M cs))) : PE X (.Call (.Name x pp) (e :: es) [] pos) (upE S X.K H0 WT (wpE M (.make C cs))) :=
  (make_rule ok hc hs ha).imp fun σ H Q ⟨ss, G, Q', a, w, c⟩ => ⟨ss, G, Q', a, by simp only [wpE] at w; exact w, c⟩
theorem r_make0 (ok : Ok X S M k H0 WT n) {x : Str} {C : String} {pp pos : Pos} (hc : chkName n x C = true) : PE X (.Call (.Name x pp) [] [] pos) (upE S X.K H0 WT (wpE M (.make C .nil))) :=
  (make_rule0 ok hc).imp fun σ H Q ⟨ss, G, Q', a, w, c⟩ => ⟨ss, G, Q', a, by simp only [wpE, wpEs] at w; exact w, c⟩
/-- a built-in -/
theorem r_bi (ok : Ok X S M k H0 WT n) {f : Bi} {x : Str} {e : Expr} {es : List Expr} {cs : Es} {len : Nat} {pp pos : Pos} (h : chkBlt n x (chkBi f) = true) (hs : allPl (e :: es) = true) (ha : PA X (e :: es) (upA S X.K H0 WT len (wpEs M cs))) :
    PE X (.Call (.Name x pp) (e :: es) [] pos) (upE S X.K H0 WT (wpE M (.bi f cs))) := by
  obtain ⟨hx, hg, hd, hn, hm⟩ := ok.bl h
  have hs' := hs
  unfold allPl at hs'
  rw [List.all_cons, Bool.and_eq_true] at hs'
  have fin : ∀ {g : List T → Gp → QT → Prop}, biW f = g → PE X (.Call (.Name x pp) (e :: es) [] pos) (tCB (upL S X.K g) (upA S X.K H0 WT len (wpEs M cs))) → PE X (.Call (.Name x pp) (e :: es) [] pos) (upE S X.K H0 WT (wpE M (.bi f cs))) := fun {g} eg p =>
    p.imp fun σ H Q ⟨ss, G, Q', a, w, c⟩ => by
      simp only [wpE, eg] at w
      exact ⟨ss, G, _, a, w, fun ts G1 vs H1 hx rs sm hl q => ⟨ts, G1, Q', rs, sm, q, c.step hx⟩⟩
  have B : ∀ {id : String} {r : List V → Hp → VK → Prop}, CallR X (.builtin id) r → bootBuiltins x = some (.builtin id) → PE X (.Call (.Name x pp) (e :: es) [] pos) (tCB r (upA S X.K H0 WT len (wpEs M cs))) := fun hr hv =>
    pe_callB hr hg hm hv ha hn hd (starEach_plain hs'.1) (star_none hs'.2)
  have Y : ∀ {id : String} {r : List V → Hp → VK → Prop}, CallR X (.type id) r → bootBuiltins x = some (.type id) → PE X (.Call (.Name x pp) (e :: es) [] pos) (tCB r (upA S X.K H0 WT len (wpEs M cs))) := fun hr hv =>
    pe_callTy hr hg hm hv ha hn hd (starEach_plain hs'.1) (star_none hs'.2)
  subst hx
  cases f
  · exact fin rfl (B call_lenW PySem.boot_len)
  · exact fin rfl (Y call_intW (by decide +kernel))
  · exact fin rfl (Y call_strW (by decide +kernel))
  · exact fin rfl (Y call_tupleW (by decide +kernel))
  · exact fin rfl (Y call_listW (by decide +kernel))
  · exact fin rfl (Y call_dictW (by decide +kernel))
  · exact fin rfl (B (call_maxW ok.calm) (by decide +kernel))
  · exact fin rfl (B (call_minW ok.calm) (by decide +kernel))
  · exact fin rfl (B (call_sumW ok.calm) (by decide +kernel))
  · exact fin rfl (B (call_allW ok.calm) (by decide +kernel))
  · exact fin rfl (B (call_anyW ok.calm) (by decide +kernel))
theorem r_isi (ok : Ok X S M k H0 WT n) {x y : Str} {e : Expr} {ce : E} {ty : Ty} {p1 p2 pos : Pos} (h : chkBlt n x "isinstance" = true) (hy : chkBlt n y (tyN ty) = true) (hs : notStar e = true) (he : PE X e (upE S X.K H0 WT (wpE M ce))) :
    PE X (.Call (.Name x p1) [e, .Name y p2] [] pos) (upE S X.K H0 WT (wpE M (.isi ce ty))) := by
  obtain ⟨hx, hg, hd, hn, hm⟩ := ok.bl h
  obtain ⟨hx2, hg2, hd2, hn2, hm2⟩ := ok.bl hy
  subst hx hx2
  have bt : bootBuiltins (Str.ofString (tyN ty)) = some (.type (tyN ty)) := by cases ty <;> decide +kernel
  have py : PE X (.Name (Str.ofString (tyN ty)) p2) (tC (.ty (tyN ty))) := pe_bltn hg2 hm2 bt rfl hn2 hd2
  have pa : PA X [e, .Name (Str.ofString (tyN ty)) p2] (tCons (upE S X.K H0 WT (wpE M ce)) (tCons (tC (.ty (tyN ty))) tNil)) := pa_cons he (pa_cons py pa_nil) (starEach_plain hs)
  refine (pe_callB (call_isiW (S := S) ty) hg hm (by decide +kernel) pa hn hd (starEach_plain hs) rfl).imp fun σ H Q ⟨ss, G, Q', a, w, c⟩ => ?_
  simp only [wpE] at w
  exact ⟨ss, G, _, a, w, fun t G1 v H1 hx r sm q => ⟨v, t, G1, Q', rfl, r, sm, q, c.step hx⟩⟩
/-! methods of lists and dicts -/
theorem few_of {es : List Expr} {env : Env} {pos : Pos} (hs : allPl es = true) (hn : es.length < 29) : ((backTo pos (starEach es env)).all (fun x => !x.1) && (backToKw pos (keywordEach [] env)).all (fun x => x.1.isSome)
      && decide (es.length + ([] : List Keyword).length + (if ([] : List Keyword).isEmpty then 0 else 1) < 30)) = true := by
  rw [star_all hs, keywordEach]
  show (true && true && decide (es.length + 0 + 0 < 30)) = true
  rw [Bool.true_and, Bool.true_and]
  exact decide_eq_true (by omega)
theorem r_append {o e : Expr} {apos pos : Pos} {co ce : E} (hb : basePl o = true) (hs : notStar e = true) (hl : (apos.endLine == pos.line) = true) (ho : PE X o (upE S X.K H0 WT (wpE M co))) (he : PE X e (upE S X.K H0 WT (wpE M ce))) :
    PE X (.Call (.Attribute o "append" apos) [e] [] pos) (upE S X.K H0 WT (wpE M (.bm co .append (.cons ce .nil)))) :=
  (pe_bm PySem.F.plainAttrs_list PySem.F.slot_list_append PySem.F.type_list_append (mt_appW (S := S)) ho (pa_cons he pa_nil (starEach_plain hs)) (base_plain hb) (few_of (by unfold allPl; rw [List.all_cons, hs]; rfl) (by show 1 < 29; decide)) hl (starEach_plain hs) rfl).imp fun σ H Q ⟨ss, G, Q', a, w, c⟩ => by
    simp only [wpE, wpEs, bmW] at w
    refine ⟨ss, G, _, a, w, fun t G1 v H1 hx r sm ⟨ty, w1⟩ => ?_⟩
    cases t <;> first | exact False.elim ty | skip
    cases of_ref r
    obtain ⟨xs, e1⟩ := ty
    obtain ⟨vs, h1, _⟩ := sm.lst e1
    exact ⟨Or.inl ⟨rfl, vs, .of h1⟩, ss, G1, _, a.next hx sm, w1, fun u G2 z H2 hx2 r2 sm2 w2 => ⟨_, [u], G2, Q', rt_ref, RTs.one r2, sm2, w2, (c.step hx).step hx2⟩⟩
theorem r_pop {o : Expr} {apos pos : Pos} {co : E} (hb : basePl o = true) (hl : (apos.endLine == pos.line) = true) (ho : PE X o (upE S X.K H0 WT (wpE M co))) :
    PE X (.Call (.Attribute o "pop" apos) [] [] pos) (upE S X.K H0 WT (wpE M (.bm co .pop .nil))) :=
  (pe_bm0 PySem.F.plainAttrs_list PySem.F.slot_list_pop PySem.F.type_list_pop (mt_popW (S := S)) ho (base_plain hb) hl).imp fun σ H Q ⟨ss, G, Q', a, w, c⟩ => by
    simp only [wpE, wpEs, bmW] at w
    refine ⟨ss, G, _, a, w, fun t G1 v H1 hx r sm ⟨ty, w1⟩ => ?_⟩
    cases t <;> first | exact False.elim ty | skip
    cases of_ref r
    obtain ⟨xs, e1⟩ := ty
    obtain ⟨vs, h1, _⟩ := sm.lst e1
    exact ⟨Or.inl ⟨rfl, vs, .of h1⟩, _, [], G1, Q', rt_ref, RTs.nil, sm, w1, c.step hx⟩
theorem r_get (ok : Ok X S M k H0 WT n) {o e f : Expr} {apos pos : Pos} {co ce cf : E} (hb : basePl o = true) (hs : notStar e = true) (hs2 : notStar f = true) (hl : (apos.endLine == pos.line) = true) (ho : PE X o (upE S X.K H0 WT (wpE M co))) (he : PE X e (upE S X.K H0 WT (wpE M ce))) (hf : PE X f (upE S X.K H0 WT (wpE M cf))) :
    PE X (.Call (.Attribute o "get" apos) [e, f] [] pos) (upE S X.K H0 WT (wpE M (.bm co .get (.cons ce (.cons cf .nil))))) :=
  (pe_dget2 ok.hu1 ho he hf ⟨base_plain hb, few_of (es := [e, f]) (by unfold allPl; rw [List.all_cons, List.all_cons, hs, hs2]; rfl) (by show 2 < 29; decide), hl, by rw [starEach_plain hs, starEach_plain hs2]; rfl⟩).imp fun σ H Q ⟨ss, G, Q', a, w, c⟩ => by
    simp only [wpE, wpEs, bmW] at w
    refine ⟨ss, G, _, a, w, fun t G1 v H1 hx r sm ⟨ty, w1⟩ => ?_⟩
    cases t <;> first | exact False.elim ty | skip
    cases of_ref r
    obtain ⟨xs, e1⟩ := ty
    obtain ⟨vs, h1, _⟩ := sm.dct e1
    refine ⟨_, rfl, .inl ⟨vs, .of h1⟩, ss, G1, _, a.next hx sm, w1, fun u G2 z H2 hx2 r2 sm2 w2 => ⟨ss, G2, _, (a.next hx sm).next hx2 sm2, w2, fun y G3 x3 H3 hx3 r3 sm3 w3 => ?_⟩⟩
    obtain ⟨kvs, kk, e2, e3, q⟩ := w3
    obtain ⟨l, hl, rk⟩ := sm3.dct e2
    have ev := keyT_of e3 (r2.mono hx3)
    subst ev
    refine ⟨_, DGet.k hl, ?_⟩
    rcases rk.get kk with ⟨z1, z2⟩ | ⟨t, v, z1, z2, rt⟩
    · rw [z1] at q
      rw [z2]
      exact (((c.step hx).step hx2).step hx3).here sm3 r3 q
    · rw [z1] at q
      rw [z2]
      exact (((c.step hx).step hx2).step hx3).here sm3 rt q
/-! parts of a slice -/
theorem r_oN : PO X none (upO S X.K H0 WT (wpO M .no)) := po_none.imp fun σ H Q ⟨ss, G, Q', a, w, c⟩ => by
  simp only [wpO] at w
  exact c none G H (HX.refl _) a.sim w
theorem r_oS {e : Expr} {ce : E} {p : Sl → Gp → XT → (Option Int → Gp → Prop) → Prop} (h : PE X e (upE S X.K H0 WT (wpE M ce))) (hp : ∀ ss G X' Q, p ss G X' Q → wpE M ce ss G X' fun t G1 => ∃ j, t = .int j ∧ Q (some j) G1) : PO X (some e) (upO S X.K H0 WT p) :=
  (po_some h).imp fun σ H Q ⟨ss, G, Q', a, w, c⟩ => ⟨ss, G, _, a, hp _ _ _ _ w, fun t G1 v H1 hx r sm ⟨j, e, q⟩ => by
    subst e
    exact ⟨j, of_int r, c _ G1 H1 hx sm q⟩⟩
/-! what is walked -/
theorem r_itup {e tg : Expr} {ce : E} (h : PE X e (upE S X.K H0 WT (wpE M ce))) : PI X tg e (upI S X.K H0 WT (wpI M (.tup ce))) :=
  (pi_tup h).imp fun σ H Q ⟨ss, G, Q', a, w, c⟩ => by
    simp only [wpI] at w
    refine ⟨ss, G, _, a, w, fun t G1 v H1 hx r sm ⟨xs, e, q⟩ => ?_⟩
    subst e
    obtain ⟨p, vs, rfl, hp, rp⟩ := of_tup r
    exact ⟨p, rfl, ⟨vs, hp⟩, c _ _ _ _ hx sm (itok_tup hp rp) q⟩
theorem r_ilst {e tg : Expr} {ce : E} (h : PE X e (upE S X.K H0 WT (wpE M ce))) : PI X tg e (upI S X.K H0 WT (wpI M (.lst ce))) :=
  (pi_list h).imp fun σ H Q ⟨ss, G, Q', a, w, c⟩ => by
    simp only [wpI] at w
    refine ⟨ss, G, _, a, w, fun t G1 v H1 hx r sm ⟨p, xs, e, e2, q⟩ => ?_⟩
    subst e
    cases of_ref r
    obtain ⟨vs, h1, r1⟩ := sm.lst e2
    exact ⟨p, rfl, ⟨vs, .of h1⟩, c _ _ _ _ hx sm itok_lst q⟩
theorem r_istr {e tg : Expr} {ce : E} (h : PE X e (upE S X.K H0 WT (wpE M ce))) : PI X tg e (upI S X.K H0 WT (wpI M (.str ce))) :=
  (pi_str h).imp fun σ H Q ⟨ss, G, Q', a, w, c⟩ => by
    simp only [wpI] at w
    refine ⟨ss, G, _, a, w, fun t G1 v H1 hx r sm ⟨s, e, q⟩ => ?_⟩
    subst e
    exact ⟨_, of_str r, c _ _ _ _ hx sm itok_str q⟩
theorem r_irng (ok : Ok X S M k H0 WT n) {x : Str} {args : List Expr} {cs : Es} {len : Nat} {pp pos : Pos} {tg : Expr} (h : chkBlt n x "range" = true) (hs : allPl args = true) (h0 : 0 < args.length) (h4 : args.length < 4) (hl : args.length = len) (ha : PA X args (upA S X.K H0 WT len (wpEs M cs))) :
    PI X tg (.Call (.Name x pp) args [] pos) (upI S X.K H0 WT (wpI M (.rng cs))) := by
  obtain ⟨hx, hg, hd, hn, hm⟩ := ok.bl h
  subst hx
  match args, hs, h0, h4, hl, ha with
  | [a], hs, _, _, hl, ha =>
    unfold allPl at hs
    rw [List.all_cons, Bool.and_eq_true] at hs
    refine (pi_range1 hg hm ha (by rw [starEach_plain hs.1]; rfl)).imp fun σ H Q ⟨ss, G, Q', a, w, c⟩ => ?_
    simp only [wpI] at w
    refine ⟨ss, G, _, a, w, fun ts G1 vs H1 hx rs sm hl' q => ?_⟩
    rcases ts with _ | ⟨t, _ | ⟨t2, r2⟩⟩
    · exact False.elim q
    · cases t <;> first | exact False.elim q | skip
      obtain ⟨v, rfl, h1⟩ := rs.one_of
      cases of_int h1
      exact ⟨_, rfl, q.1.1, q.1.2, c _ _ _ _ hx sm itok_rng q.2⟩
    · have e := rs.length
      rw [hl'] at e
      simp only [List.length_cons, List.length_nil] at e hl
      omega
  | [a, b], hs, _, _, hl, ha =>
    unfold allPl at hs
    rw [List.all_cons, List.all_cons, Bool.and_eq_true, Bool.and_eq_true] at hs
    refine (pi_range2 hg hm ha (by rw [starEach_plain hs.1, starEach_plain hs.2.1]; rfl) (by rw [starEach_plain hs.2.1]; rfl)).imp fun σ H Q ⟨ss, G, Q', a, w, c⟩ => ?_
    simp only [wpI] at w
    refine ⟨ss, G, _, a, w, fun ts G1 vs H1 hx rs sm hl' q => ?_⟩
    rcases ts with _ | ⟨t, _ | ⟨t2, _ | ⟨t3, r2⟩⟩⟩
    · exact False.elim q
    · have e := rs.length
      rw [hl'] at e
      simp only [List.length_cons, List.length_nil] at e hl
      omega
    · cases t <;> first | exact False.elim q | skip
      cases t2 <;> first | exact False.elim q | skip
      obtain ⟨v, u, rfl, h1, h2⟩ := rs.two_of
      cases of_int h1
      cases of_int h2
      exact ⟨_, _, rfl, ⟨q.1.1.1, q.1.1.2, q.1.2.1, q.1.2.2⟩, c _ _ _ _ hx sm itok_rng q.2⟩
    · have e := rs.length
      rw [hl'] at e
      simp only [List.length_cons, List.length_nil] at e hl
      omega
  | [a, b, d], hs, _, _, hl, ha =>
    have hs2 := hs
    unfold allPl at hs
    rw [List.all_cons, List.all_cons, List.all_cons, Bool.and_eq_true, Bool.and_eq_true, Bool.and_eq_true] at hs
    refine (pi_range3 hg hm ha (starEach_plain hs.1) (star_none (by unfold allPl; rw [List.all_cons, List.all_cons, hs.2.1, hs.2.2.1]; rfl))).imp fun σ H Q ⟨ss, G, Q', a, w, c⟩ => ?_
    simp only [wpI] at w
    refine ⟨ss, G, _, a, w, fun ts G1 vs H1 hx rs sm hl' q => ?_⟩
    rcases ts with _ | ⟨t, _ | ⟨t2, _ | ⟨t3, _ | ⟨t4, r2⟩⟩⟩⟩
    · exact False.elim q
    · have e := rs.length
      rw [hl'] at e
      simp only [List.length_cons, List.length_nil] at e hl
      omega
    · have e := rs.length
      rw [hl'] at e
      simp only [List.length_cons, List.length_nil] at e hl
      omega
    · have hq : ∃ i j, t = .int i ∧ t2 = .int j ∧ t3 = .int (-1) ∧ ((-(2 ^ 62) ≤ i ∧ i < 2 ^ 62) ∧ -(2 ^ 62) ≤ j ∧ j < 2 ^ 62) ∧ Q' (.fix (upto i (-1) (i - j).toNat)) G1 := by
        unfold rngW at q
        split at q
        · simp at *
        · simp at *
        · rename_i heq
          injection heq with e1 e2
          injection e2 with e2 e3
          injection e3 with e3 e4
          exact ⟨_, _, e1, e2, e3, q.1, q.2⟩
        · exact False.elim q
      obtain ⟨i, j, rfl, rfl, rfl, hb, q⟩ := hq
      unfold RTs at rs
      obtain ⟨v, l, rfl, h1, rs⟩ := rs
      obtain ⟨u, z, rfl, h2, h3⟩ := rs.two_of
      cases of_int h1
      cases of_int h2
      cases of_int h3
      exact ⟨_, _, _, _, rfl, RgC.neg hb.1.1 hb.1.2 hb.2.1 hb.2.2, c _ _ _ _ hx sm itok_rngC q⟩
    · have e := rs.length
      rw [hl'] at e
      simp only [List.length_cons, List.length_nil] at e hl
      omega
  | [], _, h0, _, _, _ => exact absurd h0 (by simp)
  | _ :: _ :: _ :: _ :: _, _, _, h4, _, _ => simp only [List.length_cons] at h4; omega
theorem itok_revt {a : Addr} {xs : List T} {vs : List V} {K : PySem.W.Frag} {H : Hp} (ha : SqT K H a vs) (r : RTs K H xs vs) : ItOk S K (_root_.RT.ItvT K a vs.length) (.fix xs.reverse) H := by
  have len := r.length
  have ge : ∀ {i : Nat}, i < xs.reverse.length → ∃ t v, xs.reverse[i]? = some t ∧ vs[vs.length - 1 - i]? = some v ∧ RT K H t v := fun {i} h => by
    rw [List.length_reverse] at h
    have h2 : xs.length - 1 - i < xs.length := by omega
    obtain ⟨v, e, q⟩ := r.get (List.getElem?_eq_getElem h2)
    rw [len] at e
    exact ⟨_, v, by rw [List.getElem?_reverse h, List.getElem?_eq_getElem h2], e, q⟩
  refine ⟨fun i H1 G1 x _ _ h => ?_, fun i H1 G1 x _ _ h => ?_, fun i v H1 G1 H2 x _ _ h y => ?_⟩
  · obtain ⟨t, v, _, e, _⟩ := ge h
    exact ⟨by rw [← len]; simpa [Sq.items] using h, vs, v, SqT.mono x ha, e⟩
  · show vs.length ≤ i
    rw [← len]
    simpa [Sq.items] using h
  · obtain ⟨t, v', e1, e2, q⟩ := ge h
    obtain ⟨rfl, y2⟩ := y
    have z := y2 vs (SqT.mono x ha)
    rw [e2] at z
    cases z
    exact ⟨rfl, t, e1, RT.mono x _ _ q⟩
theorem r_irevt (ok : Ok X S M k H0 WT n) {x : Str} {e tg : Expr} {ce : E} {pp pos : Pos} (h : chkBlt n x "reversed" = true) (hs : notStar e = true) (he : PE X e (upE S X.K H0 WT (wpE M ce))) :
    PI X tg (.Call (.Name x pp) [e] [] pos) (upI S X.K H0 WT (wpI M (.revt ce))) := by
  obtain ⟨hx, hg, hd, hn, hm⟩ := ok.bl h
  subst hx
  refine (_root_.RT.pi_revA hg hm he (starEach_plain hs)).imp fun σ H Q ⟨ss, G, Q', a, w, c⟩ => ?_
  simp only [wpI] at w
  refine ⟨ss, G, _, a, w, fun t G1 v H1 hx r sm ⟨xs, e, q⟩ => ?_⟩
  subst e
  obtain ⟨p, vs, rfl, hp, rp⟩ := of_tup r
  exact ⟨p, vs, rfl, .inr ⟨hp, c _ _ _ _ hx sm (itok_revt hp rp) q⟩⟩
theorem r_irevr (ok : Ok X S M k H0 WT n) {x y : Str} {e tg : Expr} {ce : E} {p1 p2 pos pos2 : Pos} (h : chkBlt n x "reversed" = true) (h2 : chkBlt n y "range" = true) (hs : notStar e = true) (he : PE X e (upE S X.K H0 WT (wpE M ce))) :
    PI X tg (.Call (.Name x p1) [.Call (.Name y p2) [e] [] pos2] [] pos) (upI S X.K H0 WT (wpI M (.revr ce))) := by
  obtain ⟨hx, hg, hd, hn, hm⟩ := ok.bl h
  obtain ⟨hx2, hg2, hd2, hn2, hm2⟩ := ok.bl h2
  subst hx hx2
  refine (pi_revR hg hm (prg_1 hg2 hm2 he (starEach_plain hs)) (starEach_plain rfl)).imp fun σ H Q ⟨ss, G, Q', a, w, c⟩ => ?_
  simp only [wpI] at w
  refine ⟨ss, G, _, a, w, fun t G1 v H1 hx r sm ⟨j, e, hb, q⟩ => ?_⟩
  subst e
  refine ⟨j, of_int r, by decide, by decide, by omega, by omega, ?_⟩
  have e1 : (0 : Int) + (((j - 0).toNat : Nat) : Int) - 1 = j - 1 := by omega
  have e2 : (j - 0).toNat = j.toNat := by omega
  rw [e1, e2]
  exact c _ _ _ _ hx sm itok_rngC q
end
end SK

set_option Elab.async false
set_option linter.all false
set_option maxRecDepth 100000
/-! SK8: targets, comprehensions. -/
namespace SK
open PySem PySem.Spec PyProof.Rows L2

/-! ### targets -/
def gCh : List Nat → TGs
  | [] => gNil
  | i :: is => gCons (gName i) (gCh is)
def gV (K : PySem.W.Frag) : Tg → TG
  | .nm i => gName i
  | .tp is => gTup K is.length (gCh is)
theorem wipe_get (σ : L2.St) (j : Nat) : ∀ vs : List Nat, (wipe σ vs)[j]? = if j ∈ vs then (if j < σ.length then some none else none) else σ[j]?
  | [] => by simp [wipe]
  | v :: vs => by
    unfold wipe
    rw [List.getElem?_set, wipe_get σ j vs, wipe_length]
    by_cases h : v = j
    · subst h
      simp
    · rw [if_neg h]
      have h' : ¬ j = v := fun e => h e.symm
      simp [h']
theorem wipe_set {σ : L2.St} {vs : List Nat} {i : Nat} {x : Option V} (h : i ∈ vs) : wipe (σ.set i x) vs = wipe σ vs := by
  apply List.ext_getElem?
  intro j
  rw [wipe_get, wipe_get, List.length_set]
  by_cases hj : j ∈ vs
  · rw [if_pos hj, if_pos hj]
  · rw [if_neg hj, if_neg hj]
    exact List.getElem?_set_ne (fun e => by subst e; exact hj h)
theorem wipe_wipe (σ : L2.St) (vs : List Nat) : wipe (wipe σ vs) vs = wipe σ vs := by
  apply List.ext_getElem?
  intro j
  rw [wipe_get (wipe σ vs), wipe_get σ, wipe_length]
  by_cases hj : j ∈ vs
  · rw [if_pos hj, if_pos hj]
  · rw [if_neg hj, if_neg hj]
section
variable {S : Stc} {K : PySem.W.Frag}
theorem RS.wipe {H : Hp} {ss : Sl} {σ : L2.St} (r : RS K H ss σ) : ∀ vs : List Nat, RS K H (wipeT ss vs) (L2.wipe σ vs)
  | [] => r
  | v :: vs => (RS.wipe r vs).forget v
theorem ch_of {H : Hp} : ∀ {is : List Nat} {xs : List T} {vs : List V} {ss s1 : Sl} {σ : L2.St} {Q : L2.St → Hp → Prop}, RTs K H xs vs → RS K H ss σ → setTp is xs ss = some s1 →
    (∀ σ1, RS K H s1 σ1 → (∀ own : List Nat, (∀ i ∈ is, i ∈ own) → L2.wipe σ1 own = L2.wipe σ own) → Q σ1 H) → gCh is vs σ H Q ∧ vs.length = is.length
  | [], [], vs, ss, s1, σ, Q, rx, rs, e, q => by
    cases rx.nil_of
    cases e
    exact ⟨⟨rfl, q σ rs fun _ _ => rfl⟩, rfl⟩
  | [], _ :: _, vs, ss, s1, σ, Q, rx, rs, e, q => by cases e
  | _ :: _, [], vs, ss, s1, σ, Q, rx, rs, e, q => by cases e
  | i :: is, x :: xs, vs, ss, s1, σ, Q, rx, rs, e, q => by
    unfold RTs at rx
    obtain ⟨v, r, rfl, h1, h2⟩ := rx
    have z := ch_of (is := is) (Q := Q) h2 (rs.set h1 i) e fun σ1 r1 hw => q σ1 r1 fun own ho => (hw own fun j hj => ho j (List.mem_cons_of_mem _ hj)).trans (wipe_set (ho i List.mem_cons_self))
    exact ⟨⟨v, r, rfl, z.1⟩, by simp [z.2]⟩
theorem gV_of {H : Hp} {g : Tg} {x : T} {v : V} {ss : Sl} {σ : L2.St} {kk : Sl → Prop} {Q : L2.St → Hp → Prop} (rx : RT K H x v) (rs : RS K H ss σ) (w : tgW g x ss kk)
    (q : ∀ s1 σ1, RS K H s1 σ1 → kk s1 → (∀ own : List Nat, (∀ i ∈ g.slots, i ∈ own) → L2.wipe σ1 own = L2.wipe σ own) → Q σ1 H) : gV K g v σ H Q := by
  cases g with
  | nm i => exact q _ _ (rs.set rx i) w fun own ho => wipe_set (ho i (by simp [Tg.slots]))
  | tp is =>
    cases x <;> first | exact False.elim w | skip
    obtain ⟨s1, e, w⟩ := w
    obtain ⟨a, vs, rfl, ha, ra⟩ := of_tup rx
    have z := ch_of (Q := Q) ra rs e fun σ1 r1 hw => q s1 σ1 r1 w hw
    exact ⟨a, vs, rfl, ha, z.2, z.1⟩
end
/-- the context may store into the names of the target -/
structure Sto (X : Cx) (n : Nm) : Prop where
  N : X.N = n.N
  sc : X.env.scope = n.sc
  nd : X.N.Nodup
  calm : X.calm = true
  fn : n.cellOk = true → ∀ x, X.fn x = true
theorem Sto.loc {X : Cx} {n : Nm} (o : Sto X n) {x : Str} (h : locB n x = true) : Loc X.env.scope x ∧ (X.fn x = true ∨ X.env.scope.names.lookup x = some .local) := by
  unfold locB at h
  rw [o.sc]
  split at h
  · rename_i e; exact ⟨.inl e, .inr e⟩
  · rename_i e; exact ⟨.inr e, .inl (o.fn h x)⟩
  · cases h
theorem chs_of {X : Cx} {n : Nm} (o : Sto X n) : ∀ {is : List Nat} {es : List Expr}, chkG.go n is es = true → PGs X es (gCh is) ∧ (assignEach es X.env).length = is.length ∧ (assignEach es X.env).findIdx? (·.1) = none
  | [], [], _ => ⟨pgs_nil, rfl, rfl⟩
  | [], _ :: _, h => by simp [chkG.go] at h
  | _ :: _, [], h => by simp [chkG.go] at h
  | i :: is, e :: es, h => by
    cases e <;> first | (exact absurd h Bool.false_ne_true) | skip
    rename_i x p
    simp only [chkG.go, Bool.and_eq_true, decide_eq_true_eq] at h
    obtain ⟨⟨h1, h2⟩, h3⟩ := h
    obtain ⟨hl, hf⟩ := o.loc h2
    obtain ⟨z1, z2, z3⟩ := chs_of o h3
    refine ⟨pgs_cons (pg_name (i := i) o.nd (by rw [o.N]; exact h1) hl hf) z1 rfl, ?_, ?_⟩
    · show (assignEach es X.env).length + 1 = _
      rw [z2]
      rfl
    · show List.findIdx? _ ((false, assign (.Name x p) X.env) :: assignEach es X.env) = none
      rw [List.findIdx?_cons]
      simp only [Bool.false_eq_true, if_false, z3]
      rfl
theorem tg_of {X : Cx} {n : Nm} (o : Sto X n) {g : Tg} {e : Expr} (h : chkG n g e = true) : PG X e (gV X.K g) := by
  cases g with
  | nm i =>
    cases e <;> first | (exact absurd h Bool.false_ne_true) | skip
    simp only [chkG, Bool.and_eq_true, decide_eq_true_eq] at h
    obtain ⟨hl, hf⟩ := o.loc h.2
    exact pg_name (i := i) o.nd (by rw [o.N]; exact h.1) hl hf
  | tp is =>
    cases e <;> first | (exact absurd h Bool.false_ne_true) | skip
    rename_i elts kk pp
    have h' : chkG.go n is elts = true := by simpa [chkG] using h
    obtain ⟨z1, z2, z3⟩ := chs_of o h'
    exact pg_tup o.calm z1 z2 z3
section
variable {X : Cx} {S : Stc} {M : Gm} {k : Nat} {H0 : Hp} {WT : Sl → XT} {n : Nm}
theorem Ok.sto (ok : Ok X S M k H0 WT n) : Sto X n := ⟨ok.N, ok.sc, ok.nd, ok.calm, ok.fn⟩
abbrev WF : Sl → XT := fun _ _ _ _ => False
/-- within a comprehension -/
abbrev Nm.blk (n : Nm) (scope : Scope) : Nm := { n with sc := relS scope n.sc, cellOk := false }
theorem Ok.blk (ok : Ok X S M k H0 WT n) (s : Shared) (H : Hp) (scope : Scope) (C : Addr) (cl : List (Str × Addr)) (fp : List Addr) : Ok (X.blk s H scope (compEnvC scope cl C X.env) fp) S M k H0 WF (n.blk scope) :=
  ⟨ok.N, by show relS scope X.env.scope = _; rw [ok.sc], ok.nd, ok.calm, ok.room, takes0.imp fun c d σ H ⟨_, _, _, _, _, _, z⟩ => z, fun z => (by cases z), PassesOwn.never, ok.md⟩
theorem foldSet_of {it : It} {e : Expr} (h : chkI it n e = true) : ∀ (env : Env) (x : Value), foldedSetIterable e env x = pure x := by
  intro env x
  cases e <;> first | rfl | (cases it <;> simp [chkI] at h <;> (rename_i c; cases c <;> exact absurd h Bool.false_ne_true))
/-- a clause's tests -/
theorem lc_imp {g : Tg} {own : List Nat} {ce : E} {it : It} {cond : E} (hgs : ∀ i ∈ g.slots, i ∈ own) (σ : L2.St) (H : Hp) (Q : VK) (h : upE S X.K H0 WT (wpE M (.lc ce own g it cond)) σ H Q) :
    tLc (upI S X.K H0 WT (wpI M it)) (gV X.K g) (upT S X.K H0 WF (wpC M cond)) (upE S X.K H0 WF (wpE M ce)) own σ H Q := by
  obtain ⟨ss, G, Q', a, w, c⟩ := h
  simp only [wpE] at w
  refine ⟨ss, G, _, a, w, fun sq G1 J H1 hx sm jo q D hD => ?_⟩
  have q := q D (sm.free hD)
  have a1 := a.next hx sm
  refine ⟨fun i m H2 => m = sq.items.length - i ∧ i ≤ sq.items.length ∧ ∃ G2, HX H1 H2 ∧ Sim S X.K H2 G2 ∧
    lcW sq.stay g own (fun s1 G2 Q2 => wpC M cond s1 G2 (fun _ _ _ => False) Q2) (fun s1 G2 Q2 => wpE M ce s1 G2 (fun _ _ _ => False) Q2) D ss Q' (sq.items.drop i) G2,
    ⟨sq.items.length, rfl, Nat.zero_le _, _, HX.new hD, sm.new hD (show RO S X.K _ (.lst []) (.lst []) from ⟨[], rfl, RTs.nil⟩), q⟩, ?_⟩
  rintro i m H2 ⟨rfl, hi, G2, hx2, sm2, w2⟩
  by_cases hlt : i < sq.items.length
  · rw [List.drop_eq_getElem_cons hlt] at w2
    unfold lcW at w2
    obtain ⟨st, w2⟩ := w2
    refine .inr ⟨jo.go i H2 G2 hx2 sm2 st hlt, fun H3 => ∃ G3, HX H1 H3 ∧ Sim S X.K H3 G3 ∧ lcW sq.stay g own _ _ D ss Q' (sq.items.drop (i + 1)) G3,
      fun H3 ⟨G3, z1, z2, z3⟩ => ⟨sq.items.length - (i + 1), by omega, rfl, hlt, G3, z1, z2, z3⟩, fun x H3 y => ?_⟩
    obtain ⟨rfl, t, e1, rt⟩ := jo.yld i x H2 G2 H3 hx2 sm2 st hlt y
    rw [List.getElem?_eq_getElem hlt] at e1
    cases e1
    have rs2 : RS X.K H3 ss σ := a1.rs.mono hx2
    refine gV_of rt (rs2.wipe own) w2 fun s1 σ1 rs1 w3 hw => ⟨(hw own hgs).trans (wipe_wipe _ _), ?_⟩
    have hxx : HX H0 H3 := a1.hx.trans hx2
    refine ⟨s1, G2, _, ⟨rs1, sm2, hxx⟩, w3, fun t2 G4 H4 hx4 sm4 ⟨b, e, w4⟩ => ⟨b, e, ?_⟩⟩
    cases b with
    | true =>
      rw [if_pos rfl] at w4 ⊢
      refine ⟨s1, G4, _, ⟨rs1.mono hx4, sm4, hxx.trans hx4⟩, w4, fun t5 G5 v5 H5 hx5 r5 sm5 ⟨acc, ea, hl, w5⟩ => ?_⟩
      obtain ⟨vs, hv, rv⟩ := sm5.lst ea
      exact ⟨vs, hv, by rw [← rv.length]; exact lt_line hl, _, ((hx2.trans hx4).trans hx5).trans (HX.put hv trivial), sm5.put hv trivial (show RO S X.K _ (.lst _) (.lst _) from ⟨_, rfl, (rv.append (RTs.one r5)).mono (HX.put hv trivial)⟩), w5⟩
    | false =>
      rw [if_neg Bool.false_ne_true] at w4 ⊢
      exact ⟨G4, hx2.trans hx4, sm4, w4⟩
  · have e : i = sq.items.length := by omega
    subst e
    rw [List.drop_length] at w2
    unfold lcW at w2
    obtain ⟨st, w2⟩ := w2
    exact .inl ⟨jo.stop _ H2 G2 hx2 sm2 st (Nat.le_refl _), c _ _ _ _ (hx.trans hx2) rt_ref sm2 w2⟩
end
end SK

set_option Elab.async false
set_option linter.all false
set_option maxRecDepth 100000
set_option maxHeartbeats 1000000
/-! SK9: expressions are sound. -/
namespace SK
open PySem PySem.Spec PyProof.Rows L2
section
variable {S : Stc} {M : Gm}
theorem keys_pps : ∀ {ks : List String} {keys : List (Option Expr)}, keysOk ks keys = true → keys.all (·.isSome) = true ∧ keys.length = ks.length
  | [], [], _ => ⟨rfl, rfl⟩
  | [], _ :: _, h => by simp [keysOk] at h
  | _ :: _, [], h => by simp [keysOk] at h
  | k :: ks, e :: es, h => by
    cases e with
    | none => simp [keysOk] at h
    | some e =>
      cases e <;> first | (simp [keysOk] at h; done) | skip
      rename_i c _ _
      cases c <;> first | (simp [keysOk] at h; done) | skip
      simp only [keysOk, Bool.and_eq_true, decide_eq_true_eq] at h
      have z := keys_pps h.2
      exact ⟨by rw [List.all_cons, z.1]; rfl, by simp [z.2]⟩
def trsOf (S : Stc) (K : PySem.W.Frag) (M : Gm) (H0 : Hp) (WT : Sl → XT) : List String → Es → List (TE × TE)
  | k :: ks, .cons e r => (tC (.str (Str.ofString k)), upE S K H0 WT (wpE M e)) :: trsOf S K M H0 WT ks r
  | _, _ => []
theorem tp_of {K : PySem.W.Frag} {H0 : Hp} {WT : Sl → XT} : ∀ {ks : List String} {c : Es} {σ : L2.St} {H : Hp} {ss : Sl} {G : Gp} {Q' : List T → Gp → Prop} {R : List (V × V) → Hp → Prop}, ks.length = c.len → At S K H0 ss G σ H → wpEs M c ss G (WT ss) Q' →
    (∀ ts G' vs H', HX H H' → RTs K H' ts vs → Sim S K H' G' → ts.length = ks.length → Q' ts G' → R ((ks.map fun k => V.str (Str.ofString k)).zip vs) H') → tPairs (trsOf S K M H0 WT ks c) σ H R
  | [], .nil, σ, H, ss, G, Q', R, hl, a, w, q => by
    simp only [wpEs] at w
    exact q [] G [] H (HX.refl _) RTs.nil a.sim rfl w
  | [], .cons _ _, _, _, _, _, _, _, hl, _, _, _ => by simp [Es.len] at hl
  | _ :: _, .nil, _, _, _, _, _, _, hl, _, _, _ => by simp [Es.len] at hl
  | k :: ks, .cons e r, σ, H, ss, G, Q', R, hl, a, w, q => by
    simp only [wpEs] at w
    show upE S K H0 WT (wpE M e) σ H fun y H2 => tPairs (trsOf S K M H0 WT ks r) σ H2 fun ps H3 => R ((V.str (Str.ofString k), y) :: ps) H3
    refine ⟨ss, G, _, a, w, fun t G1 v H1 hx rv sm w1 => ?_⟩
    refine tp_of (by simpa [Es.len] using hl) (a.next hx sm) w1 fun ts G2 vs H2 hx2 rs sm2 hl2 w2 => ?_
    exact q (t :: ts) G2 (v :: vs) H2 (hx.trans hx2) (RTs.cons (rv.mono hx2) rs) sm2 (by simp [hl2]) w2
theorem merge_new : ∀ (more kvs : List (Key × V)), (∀ p ∈ more, valV kvs p.1 = none) → (more.map (·.1)).Nodup → mergeK kvs more = kvs ++ more
  | [], kvs, _, _ => by unfold mergeK; simp
  | p :: r, kvs, h, nd => by
    show mergeK (putK kvs p.1 p.2) r = _
    rw [List.map_cons, List.nodup_cons] at nd
    rw [putK_new _ (h p List.mem_cons_self), merge_new r _ (fun q hq => ?_) nd.2]
    · simp
    · rw [valV_snoc _ _ _ _ (h p List.mem_cons_self), if_neg (fun e => nd.1 (by rw [← e]; exact List.mem_map.mpr ⟨q, hq, rfl⟩))]
      exact h q (List.mem_cons_of_mem _ hq)
theorem rk_zip {K : PySem.W.Frag} {H : Hp} : ∀ {ks : List String} {ts : List T} {vs : List V}, RTs K H ts vs → RK K H ((ks.map Sum.inr).zip ts) ((ks.map fun k => (Sum.inr (Str.ofString k) : Key)).zip vs)
  | [], _, _, _ => by simp [RK]
  | _ :: _, [], vs, r => by cases r.nil_of; simp [RK]
  | k :: ks, t :: ts, vs, r => by
    unfold RTs at r
    obtain ⟨v, l, rfl, h1, h2⟩ := r
    show RK K H ((Sum.inr k, t) :: (ks.map Sum.inr).zip ts) (((Sum.inr (Str.ofString k) : Key), v) :: (ks.map fun k => (Sum.inr (Str.ofString k) : Key)).zip l)
    unfold RK
    exact ⟨v, _, rfl, h1, rk_zip h2⟩
theorem zip_pairs : ∀ (ks : List String) (vs : List V), (ks.map fun k => V.str (Str.ofString k)).zip vs = ((ks.map fun k => (Sum.inr (Str.ofString k) : Key)).zip vs).map fun kv => (kV kv.1, kv.2)
  | [], _ => rfl
  | _ :: _, [] => rfl
  | k :: ks, v :: vs => by simp only [List.map_cons, List.zip_cons_cons, zip_pairs ks vs, kV]
theorem dT {X : Cx} {H0 : Hp} {WT : Sl → XT} {n : Nm} {c : E} {e : Expr} (p : PE X e (upE S X.K H0 WT (wpE M c))) (h : chkE c n e = true) (hc : plainB c = true) :
    PE X e (upE S X.K H0 WT (wpE M c)) ∧ (tstB c = true → PT X e (upT S X.K H0 WT (wpE M c))) := ⟨p, fun _ => r_tst p (isTrue_pl h hc _)⟩
mutual
theorem sE : ∀ (c : E) {X : Cx} {k : Nat} {H0 : Hp} {WT : Sl → XT} {n : Nm} {e : Expr}, Ok X S M k H0 WT n → chkE c n e = true → PE X e (upE S X.K H0 WT (wpE M c)) ∧ (tstB c = true → PT X e (upT S X.K H0 WT (wpE M c)))
  | .no, X, k, H0, WT, n, e, ok, h => by cases e <;> exact absurd h Bool.false_ne_true
  | .var i, X, k, H0, WT, n, e, ok, h => by
    cases e <;> first | (exact absurd h Bool.false_ne_true) | exact dT (r_var ok h) h rfl
  | .kc t, X, k, H0, WT, n, e, ok, h => by
    cases e <;> first | (exact absurd h Bool.false_ne_true) | exact dT (r_kc (by simpa [chkE] using h)) h rfl
  | .gl x, X, k, H0, WT, n, e, ok, h => by
    cases e <;> first | (exact absurd h Bool.false_ne_true) | exact dT (r_gl ok h) h rfl
  | .tup es, X, k, H0, WT, n, e, ok, h => by
    cases e <;> first | (exact absurd h Bool.false_ne_true) | skip
    have h0 := h
    simp only [chkE, Bool.and_eq_true, decide_eq_true_eq] at h
    exact dT (r_tup h.2 (sEs es ok h.1)) h0 rfl
  | .lst es, X, k, H0, WT, n, e, ok, h => by
    cases e <;> first | (exact absurd h Bool.false_ne_true) | skip
    have h0 := h
    simp only [chkE, Bool.and_eq_true, decide_eq_true_eq] at h
    exact dT (r_lst h.2 (sEs es ok h.1)) h0 rfl
  | .dct ks es, X, k, H0, WT, n, e, ok, h => by
    cases e <;> first | (exact absurd h Bool.false_ne_true) | skip
    rename_i keys vals pos
    have h0 := h
    simp only [chkE, Bool.and_eq_true, decide_eq_true_eq] at h
    obtain ⟨⟨⟨⟨h1, h2⟩, h3⟩, h4⟩, h5⟩ := h
    cases ks with
    | nil =>
      cases keys with
      | cons _ _ => simp [keysOk] at h1
      | nil =>
        cases es with
        | cons _ _ => simp [Es.len] at h3
        | nil =>
          cases vals with
          | cons _ _ => simp [chkEs] at h2
          | nil => exact dT r_dct0 h0 rfl
    | cons a r => 
      have kk := keys_pps h1
      have hv := chkEs_len h2
      have pp := sPps es (pos := pos) ok h1 h2 h3
      refine dT ((pe_disp pp kk.1 (by rw [kk.2, h3, hv]) (by intro z; rw [z] at kk; simp at kk) (by rw [kk.2]; exact h4)).imp fun σ H Q ⟨ss, G, Q', at0, w, c⟩ => ?_) h0 rfl
      simp only [wpE] at w
      intro p hp
      have a1 := at0.next (HX.new hp) (at0.sim.new hp (show RO S X.K _ (.dct []) (.dK []) from ⟨[], rfl, by unfold RK; rfl⟩))
      refine tp_of h3 a1 (w p (at0.sim.free hp)) fun ts G2 vs H2 hx rs sm hl ⟨e1, _, q⟩ => ?_
      obtain ⟨l, h6, rl⟩ := sm.dct e1
      have el : l = [] := by unfold RK at rl; exact rl
      subst el
      refine ⟨h6, _, zip_pairs (a :: r) vs, ?_, ?_⟩
      · rw [List.length_zip, List.length_map]
        exact Nat.le_trans (Nat.min_le_left _ _) h4
      · have nd : (((a :: r).map fun k => (Sum.inr (Str.ofString k) : Key)).zip vs).map (·.1) |>.Nodup := by
          rw [List.map_fst_zip (by rw [List.length_map, ← rs.length, hl]; exact Nat.le_refl _)]
          exact List.Pairwise.map _ (fun x y hxy e => hxy (ofS_inj (Sum.inr.inj e))) h5
        rw [merge_new _ _ (fun _ _ => valV_nil) nd, List.nil_append]
        exact c _ _ _ _ (((HX.new hp).trans hx).trans (HX.put h6 trivial)) rt_ref (sm.put h6 trivial (show RO S X.K _ (.dct _) (.dK _) from ⟨_, rfl, RK.mono (HX.put h6 trivial) _ _ (rk_zip rs)⟩)) q
  | .bin o a b, X, k, H0, WT, n, e, ok, h => by
    cases e <;> first | (exact absurd h Bool.false_ne_true) | skip
    have h0 := h
    simp only [chkE, Bool.and_eq_true] at h
    exact dT (r_bin ok h.1.1 (sE a ok h.1.2).1 (sE b ok h.2).1) h0 rfl
  | .neg a, X, k, H0, WT, n, e, ok, h => by
    cases e <;> first | (exact absurd h Bool.false_ne_true) | skip
    rename_i op _ _
    cases op <;> first | (exact absurd h Bool.false_ne_true) | skip
    exact dT (r_neg (sE a ok (by simpa [chkE] using h)).1) h rfl
  | .cmp o a b, X, k, H0, WT, n, e, ok, h => by
    cases e <;> first | (exact absurd h Bool.false_ne_true) | skip
    rename_i l ops rs pos
    rcases ops with _ | ⟨op, _ | ⟨_, _⟩⟩ <;> rcases rs with _ | ⟨r, _ | ⟨_, _⟩⟩ <;> first | (exact absurd h Bool.false_ne_true) | skip
    have h0 := h
    simp only [chkE, Bool.and_eq_true] at h
    exact ⟨(r_cmp' ok h.1.1 h.2 (sE a ok h.1.2).1 (sE b ok h.2).1).1, fun _ => (r_cmp' ok h.1.1 h.2 (sE a ok h.1.2).1 (sE b ok h.2).1).2⟩
  | .land es, X, k, H0, WT, n, e, ok, h => by
    cases e <;> first | (exact absurd h Bool.false_ne_true) | skip
    rename_i op xs pos
    cases op <;> first | (exact absurd h Bool.false_ne_true) | skip
    have h0 := h
    simp only [chkE, Bool.and_eq_true, decide_eq_true_eq] at h
    exact ⟨(sAnd es ok h.1 h.2).imp fun σ H Q ⟨ss, G, Q', a, w, c⟩ => ⟨ss, G, Q', a, by simp only [wpE] at w; exact w, c⟩, fun ht => (sAndT es ok h.1 (by simpa [tstB] using ht) h.2).pt.imp fun σ H Q ⟨ss, G, Q', a, w, c⟩ => ⟨ss, G, Q', a, by simp only [wpE] at w; exact w, c⟩⟩
  | .lor es, X, k, H0, WT, n, e, ok, h => by
    cases e <;> first | (exact absurd h Bool.false_ne_true) | skip
    rename_i op xs pos
    cases op <;> first | (exact absurd h Bool.false_ne_true) | skip
    have h0 := h
    simp only [chkE, Bool.and_eq_true, decide_eq_true_eq] at h
    exact ⟨(sOr es ok h.1 h.2).imp fun σ H Q ⟨ss, G, Q', a, w, c⟩ => ⟨ss, G, Q', a, by simp only [wpE] at w; exact w, c⟩, fun ht => (sOrT es ok h.1 (by simpa [tstB] using ht) h.2).pt.imp fun σ H Q ⟨ss, G, Q', a, w, c⟩ => ⟨ss, G, Q', a, by simp only [wpE] at w; exact w, c⟩⟩
  | .lnot a, X, k, H0, WT, n, e, ok, h => by
    cases e <;> first | (exact absurd h Bool.false_ne_true) | skip
    rename_i op _ _
    cases op <;> first | (exact absurd h Bool.false_ne_true) | skip
    have ha := sE a ok (show chkE a n _ = true by simpa [chkE] using h)
    exact ⟨r_not ha.1, fun ht => r_notT (ha.2 (by simpa [tstB] using ht))⟩
  | .ife c a b, X, k, H0, WT, n, e, ok, h => by
    cases e <;> first | (exact absurd h Bool.false_ne_true) | skip
    have h0 := h
    simp only [chkE, Bool.and_eq_true] at h
    exact ⟨r_ife ((sE c ok h.1.1.1).2 h.1.1.2) (sE a ok h.1.2).1 (sE b ok h.2).1, fun ht => by simp [tstB] at ht⟩
  | .ix a i, X, k, H0, WT, n, e, ok, h => by
    cases e <;> first | (exact absurd h Bool.false_ne_true) | skip
    have h0 := h
    simp only [chkE, Bool.and_eq_true] at h
    exact dT (r_ix h.2 (sE a ok h.1).1 (sE i ok h.2).1) h0 rfl
  | .dx a i, X, k, H0, WT, n, e, ok, h => by
    cases e <;> first | (exact absurd h Bool.false_ne_true) | skip
    have h0 := h
    simp only [chkE, Bool.and_eq_true] at h
    exact dT (r_dx ok h.2 (sE a ok h.1).1 (sE i ok h.2).1) h0 rfl
  | .sl a lo hi, X, k, H0, WT, n, e, ok, h => by
    cases e <;> first | (exact absurd h Bool.false_ne_true) | skip
    rename_i o s pos
    cases s <;> first | (exact absurd h Bool.false_ne_true) | skip
    rename_i l u st p
    cases st <;> first | (exact absurd h Bool.false_ne_true) | skip
    have h0 := h
    simp only [chkE, Bool.and_eq_true] at h
    exact dT (r_sl (sE a ok h.1.1).1 (sO lo ok h.1.2) (sO hi ok h.2)) h0 rfl
  | .fld a f, X, k, H0, WT, n, e, ok, h => by
    cases e <;> first | (exact absurd h Bool.false_ne_true) | skip
    have h0 := h
    simp only [chkE, Bool.and_eq_true, decide_eq_true_eq] at h
    exact dT (r_fld ok h.1.1 h.1.2 (sE a ok h.2).1) h0 rfl
  | .call f es, X, k, H0, WT, n, e, ok, h => by
    cases e <;> first | (exact absurd h Bool.false_ne_true) | skip
    rename_i fn args kws pos
    cases fn <;> cases kws <;> first | (exact absurd h Bool.false_ne_true) | skip
    have h0 := h
    simp only [chkE, Bool.and_eq_true, decide_eq_true_eq] at h
    cases args with
    | nil => have z := chkEs_len h.1.2; simp at z; omega
    | cons x xs => exact dT (r_call ok h.1.1 (chkEs_star h.1.2) (sEs es ok h.1.2)) h0 rfl
  | .meth a m es, X, k, H0, WT, n, e, ok, h => by
    cases e <;> first | (exact absurd h Bool.false_ne_true) | skip
    rename_i fn args kws pos
    cases fn <;> cases kws <;> first | (exact absurd h Bool.false_ne_true) | skip
    have h0 := h
    simp only [chkE, Bool.and_eq_true, decide_eq_true_eq] at h
    obtain ⟨⟨⟨⟨⟨h1, h2⟩, h3⟩, h4⟩, h5⟩, h6⟩ := h
    cases args with
    | nil =>
      cases es with
      | nil => exact dT (r_meth0 ok h1 h2 h5 (sE a ok h3).1) h0 rfl
      | cons _ _ => simp [chkEs] at h4
    | cons x xs => exact dT (r_meth ok h1 h2 (chkEs_star h4) h5 h6 (sE a ok h3).1 (sEs es ok h4)) h0 rfl
  | .make C es, X, k, H0, WT, n, e, ok, h => by
    cases e <;> first | (exact absurd h Bool.false_ne_true) | skip
    rename_i fn args kws pos
    cases fn <;> cases kws <;> first | (exact absurd h Bool.false_ne_true) | skip
    have h0 := h
    simp only [chkE, Bool.and_eq_true, decide_eq_true_eq] at h
    cases args with
    | nil =>
      cases es with
      | nil => exact dT (r_make0 ok h.1) h0 rfl
      | cons _ _ => simp [chkEs] at h
    | cons x xs => exact dT (r_make ok h.1 (chkEs_star h.2) (sEs es ok h.2)) h0 rfl
  | .bi f es, X, k, H0, WT, n, e, ok, h => by
    cases e <;> first | (exact absurd h Bool.false_ne_true) | skip
    rename_i fn args kws pos
    cases fn <;> cases kws <;> first | (exact absurd h Bool.false_ne_true) | skip
    have h0 := h
    simp only [chkE, Bool.and_eq_true, decide_eq_true_eq] at h
    cases args with
    | nil => have z := chkEs_len h.1.2; simp at z; omega
    | cons x xs => exact dT (r_bi ok h.1.1 (chkEs_star h.1.2) (sEs es ok h.1.2)) h0 rfl
  | .bm a m es, X, k, H0, WT, n, e, ok, h => by
    cases e <;> first | (exact absurd h Bool.false_ne_true) | skip
    rename_i fn args kws pos
    cases fn <;> cases kws <;> first | (exact absurd h Bool.false_ne_true) | skip
    have h0 := h
    simp only [chkE, Bool.and_eq_true, decide_eq_true_eq] at h
    obtain ⟨⟨⟨⟨⟨⟨h1, h2⟩, h3⟩, h4⟩, h5⟩, h6⟩, h7⟩ := h
    subst h1
    have ho := (sE a ok h3).1
    have hst := chkEs_star h4
    cases m with
    | append =>
      rcases es with _ | ⟨c1, _ | ⟨c2, r⟩⟩ <;> rcases args with _ | ⟨x, _ | ⟨y, l⟩⟩ <;> first | (simp [chkEs] at h4; done) | (simp [bmArity, Es.len] at h7; done) | skip
      simp only [chkEs, Bool.and_eq_true] at h4
      exact dT (r_append h2 (chkE_star h4.1) h5 ho (sE c1 ok h4.1).1) h0 rfl
    | pop =>
      rcases es with _ | ⟨c1, r⟩ <;> rcases args with _ | ⟨x, l⟩ <;> first | (simp [chkEs] at h4; done) | (simp [bmArity, Es.len] at h7; done) | skip
      exact dT (r_pop h2 h5 ho) h0 rfl
    | get =>
      rcases es with _ | ⟨c1, _ | ⟨c2, _ | ⟨c3, r⟩⟩⟩ <;> rcases args with _ | ⟨x, _ | ⟨y, _ | ⟨z, l⟩⟩⟩ <;> first | (simp [chkEs] at h4; done) | (simp [bmArity, Es.len] at h7; done) | skip
      simp only [chkEs, Bool.and_eq_true] at h4
      exact dT (r_get ok h2 (chkE_star h4.1) (chkE_star h4.2.1) h5 ho (sE c1 ok h4.1).1 (sE c2 ok h4.2.1).1) h0 rfl
    | index => simp [bmArity, Es.len] at h7
    | join => simp [bmArity, Es.len] at h7
  | .isi a ty, X, k, H0, WT, n, e, ok, h => by
    cases e <;> first | (exact absurd h Bool.false_ne_true) | skip
    rename_i fn args kws pos
    cases fn <;> first | (exact absurd h Bool.false_ne_true) | skip
    rcases args with _ | ⟨x, _ | ⟨y, r⟩⟩ <;> first | (exact absurd h Bool.false_ne_true) | skip
    cases y <;> first | (exact absurd h Bool.false_ne_true) | skip
    cases r <;> first | (exact absurd h Bool.false_ne_true) | skip
    cases kws <;> first | (exact absurd h Bool.false_ne_true) | skip
    have h0 := h
    simp only [chkE, Bool.and_eq_true] at h
    exact dT (r_isi ok h.1.1 h.1.2 (chkE_star h.2) (sE a ok h.2).1) h0 rfl
  | .isx C, X, k, H0, WT, n, e, ok, h => by cases e <;> exact absurd h Bool.false_ne_true
  | .xf C, X, k, H0, WT, n, e, ok, h => by cases e <;> exact absurd h Bool.false_ne_true
  | .gen _ _ _ _, X, k, H0, WT, n, e, ok, h => by cases e <;> exact absurd h Bool.false_ne_true
  | .lc elt own g it cond, X, k, H0, WT, n, e, ok, h => by
    cases e <;> first | (exact absurd h Bool.false_ne_true) | skip
    rename_i e gs scope pos
    rcases gs with _ | ⟨⟨tg, iter, ifs, asy⟩, _ | ⟨g2, r⟩⟩ <;> first | (exact absurd h Bool.false_ne_true) | skip
    have h0 := h
    simp only [chkE, Bool.and_eq_true, decide_eq_true_eq] at h
    obtain ⟨⟨⟨⟨⟨⟨⟨hz, h1⟩, h2⟩, h3⟩, h4⟩, h5⟩, h6⟩, h7⟩ := h
    subst hz
    have hgs : ∀ i ∈ g.slots, i ∈ own := fun i hi => by
      have z := List.all_eq_true.mp h4 i hi
      simpa using z
    have p := pe_lc (own := ownOf n.N own) (g := gV X.K g) (tt := upT S X.K H0 WF (wpC M cond)) (te := upE S X.K H0 WF (wpE M elt)) ok.calm ok.nd (sI it ok h1) (blkOk_by (by rw [ok.N, ok.sc]; exact h2))
      (fun s H C cl fp => tg_of (ok.blk s H scope C cl fp).sto h5) (fun s H C cl fp => sIf cond (ok.blk s H scope C cl fp) h7) (fun s H C cl fp => (sE elt (ok.blk s H scope C cl fp) h6).1) (foldSet_of h1 X.env) (pos := pos)
    rw [h3] at p
    exact dT (p.imp fun σ H Q w => lc_imp hgs σ H Q w) h0 rfl
theorem sEs : ∀ (c : Es) {X : Cx} {k : Nat} {H0 : Hp} {WT : Sl → XT} {n : Nm} {es : List Expr}, Ok X S M k H0 WT n → chkEs c n es = true → PA X es (upA S X.K H0 WT c.len (wpEs M c))
  | .nil, X, k, H0, WT, n, es, ok, h => by
    cases es <;> first | (exact absurd h Bool.false_ne_true) | exact r_nil
  | .cons e r, X, k, H0, WT, n, es, ok, h => by
    cases es <;> first | (exact absurd h Bool.false_ne_true) | skip
    simp only [chkEs, Bool.and_eq_true] at h
    exact r_cons (chkE_star h.1) (sE e ok h.1).1 (sEs r ok h.2)
theorem sPps : ∀ (c : Es) {ks : List String} {X : Cx} {k : Nat} {H0 : Hp} {WT : Sl → XT} {n : Nm} {keys : List (Option Expr)} {vals : List Expr} {pos : Pos}, Ok X S M k H0 WT n → keysOk ks keys = true → chkEs c n vals = true → ks.length = c.len →
    PPs X pos keys vals (trsOf S X.K M H0 WT ks c)
  | .nil, ks, X, k, H0, WT, n, keys, vals, pos, ok, h1, h2, h3 => by
    cases ks <;> first | (simp [Es.len] at h3; done) | skip
    cases keys <;> first | (simp [keysOk] at h1; done) | skip
    cases vals <;> first | (exact absurd h2 Bool.false_ne_true) | skip
    exact pps_nil
  | .cons e r, ks, X, k, H0, WT, n, keys, vals, pos, ok, h1, h2, h3 => by
    cases ks <;> first | (simp [Es.len] at h3; done) | skip
    rename_i kk ks
    cases vals <;> first | (exact absurd h2 Bool.false_ne_true) | skip
    simp only [chkEs, Bool.and_eq_true] at h2
    cases keys <;> first | (simp [keysOk] at h1; done) | skip
    rename_i ke keys
    cases ke <;> first | (simp [keysOk] at h1; done) | skip
    rename_i ke
    cases ke <;> first | (simp [keysOk] at h1; done) | skip
    rename_i cst _ _
    cases cst <;> first | (simp [keysOk] at h1; done) | skip
    simp only [keysOk, Bool.and_eq_true, decide_eq_true_eq] at h1
    obtain ⟨e1, h1⟩ := h1
    subst e1
    exact pps_cons pe_str (sE e ok h2.1).1 (sPps r ok h1 h2.2 (by simpa [Es.len] using h3))
theorem sAnd : ∀ (c : Es) {X : Cx} {k : Nat} {H0 : Hp} {WT : Sl → XT} {n : Nm} {xs : List Expr} {pos : Pos}, Ok X S M k H0 WT n → chkEs c n xs = true → 0 < c.len → PE X (.BoolOp .And xs pos) (upE S X.K H0 WT (wpAnd M c))
  | .nil, X, k, H0, WT, n, xs, pos, ok, h, h0 => by simp [Es.len] at h0
  | .cons e .nil, X, k, H0, WT, n, xs, pos, ok, h, h0 => by
    rcases xs with _ | ⟨x, _ | ⟨y, r⟩⟩ <;> first | (simp [chkEs] at h; done) | skip
    simp only [chkEs, Bool.and_eq_true] at h
    exact r_and1 (sE e ok h.1).1
  | .cons e (.cons f r), X, k, H0, WT, n, xs, pos, ok, h, h0 => by
    rcases xs with _ | ⟨x, _ | ⟨y, l⟩⟩ <;> first | (simp [chkEs] at h; done) | skip
    have h' := h
    rw [chkEs, Bool.and_eq_true] at h'
    exact r_and2 (sE e ok h'.1).1 (sAnd (.cons f r) ok h'.2 (by simp [Es.len]))
theorem sOr : ∀ (c : Es) {X : Cx} {k : Nat} {H0 : Hp} {WT : Sl → XT} {n : Nm} {xs : List Expr} {pos : Pos}, Ok X S M k H0 WT n → chkEs c n xs = true → 0 < c.len → PE X (.BoolOp .Or xs pos) (upE S X.K H0 WT (wpOr M c))
  | .nil, X, k, H0, WT, n, xs, pos, ok, h, h0 => by simp [Es.len] at h0
  | .cons e .nil, X, k, H0, WT, n, xs, pos, ok, h, h0 => by
    rcases xs with _ | ⟨x, _ | ⟨y, r⟩⟩ <;> first | (simp [chkEs] at h; done) | skip
    simp only [chkEs, Bool.and_eq_true] at h
    exact r_or1 (sE e ok h.1).1
  | .cons e (.cons f r), X, k, H0, WT, n, xs, pos, ok, h, h0 => by
    rcases xs with _ | ⟨x, _ | ⟨y, l⟩⟩ <;> first | (simp [chkEs] at h; done) | skip
    have h' := h
    rw [chkEs, Bool.and_eq_true] at h'
    exact r_or2 (sE e ok h'.1).1 (sOr (.cons f r) ok h'.2 (by simp [Es.len]))
theorem sAndT : ∀ (c : Es) {X : Cx} {k : Nat} {H0 : Hp} {WT : Sl → XT} {n : Nm} {xs : List Expr} {pos : Pos}, Ok X S M k H0 WT n → chkEs c n xs = true → tstB.tstBs c = true → 0 < c.len → PW X (.BoolOp .And xs pos) (upT S X.K H0 WT (wpAnd M c))
  | .nil, X, k, H0, WT, n, xs, pos, ok, h, ht, h0 => by simp [Es.len] at h0
  | .cons e .nil, X, k, H0, WT, n, xs, pos, ok, h, ht, h0 => by
    rcases xs with _ | ⟨x, _ | ⟨y, r⟩⟩ <;> first | (simp [chkEs] at h; done) | skip
    simp only [chkEs, Bool.and_eq_true] at h
    simp only [tstB.tstBs, Bool.and_eq_true] at ht
    exact r_and1T ((sE e ok h.1).2 ht.1)
  | .cons e (.cons f r), X, k, H0, WT, n, xs, pos, ok, h, ht, h0 => by
    rcases xs with _ | ⟨x, _ | ⟨y, l⟩⟩ <;> first | (simp [chkEs] at h; done) | skip
    have h' := h
    rw [chkEs, Bool.and_eq_true] at h'
    rw [tstB.tstBs, Bool.and_eq_true] at ht
    exact r_and2T ((sE e ok h'.1).2 ht.1) (sAndT (.cons f r) ok h'.2 ht.2 (by simp [Es.len]))
theorem sOrT : ∀ (c : Es) {X : Cx} {k : Nat} {H0 : Hp} {WT : Sl → XT} {n : Nm} {xs : List Expr} {pos : Pos}, Ok X S M k H0 WT n → chkEs c n xs = true → tstB.tstBs c = true → 0 < c.len → PW X (.BoolOp .Or xs pos) (upT S X.K H0 WT (wpOr M c))
  | .nil, X, k, H0, WT, n, xs, pos, ok, h, ht, h0 => by simp [Es.len] at h0
  | .cons e .nil, X, k, H0, WT, n, xs, pos, ok, h, ht, h0 => by
    rcases xs with _ | ⟨x, _ | ⟨y, r⟩⟩ <;> first | (simp [chkEs] at h; done) | skip
    simp only [chkEs, Bool.and_eq_true] at h
    simp only [tstB.tstBs, Bool.and_eq_true] at ht
    exact r_or1T ((sE e ok h.1).2 ht.1)
  | .cons e (.cons f r), X, k, H0, WT, n, xs, pos, ok, h, ht, h0 => by
    rcases xs with _ | ⟨x, _ | ⟨y, l⟩⟩ <;> first | (simp [chkEs] at h; done) | skip
    have h' := h
    rw [chkEs, Bool.and_eq_true] at h'
    rw [tstB.tstBs, Bool.and_eq_true] at ht
    exact r_or2T ((sE e ok h'.1).2 ht.1) (sOrT (.cons f r) ok h'.2 ht.2 (by simp [Es.len]))
theorem sIf : ∀ (c : E) {X : Cx} {k : Nat} {H0 : Hp} {WT : Sl → XT} {n : Nm} {es : List Expr}, Ok X S M k H0 WT n → chkIf c n es = true → PTs X es (upT S X.K H0 WT (wpC M c))
  | .no, X, k, H0, WT, n, es, ok, h => by
    cases es <;> first | (exact absurd h Bool.false_ne_true) | skip
    exact ⟨fun pins s σ H Q I ⟨ss, G, Q', a, w, c⟩ => by
      simp only [wpC] at w
      obtain ⟨b, e, q⟩ := c _ G H (HX.refl _) a.sim w
      cases e
      exact pts_nil.run pins s σ H Q I q⟩
  | .var i, X, k, H0, WT, n, es, ok, h => by
    simp only [chkIf, Bool.and_eq_true] at h
    obtain ⟨e, rfl⟩ := one1_of h.1
    have h' : chkE (.var i) n e = true := by rw [← chkVar_eq]; exact h.2
    cases e <;> first | (exact absurd h' Bool.false_ne_true) | skip
    have p := pts_one ((dT (r_var (S := S) (M := M) ok h') h' rfl).2 rfl)
    exact ⟨fun pins s σ H Q I ⟨ss, G, Q', a, w, c⟩ => p.run pins s σ H Q I ⟨ss, G, Q', a, by simp only [wpC] at w; exact w, c⟩⟩
  | .cmp o a b, X, k, H0, WT, n, es, ok, h => by
    simp only [chkIf, Bool.and_eq_true] at h
    obtain ⟨l, op, r, pos, rfl⟩ := cmp1_of h.1.1.1
    have p := pts_one (r_cmp' (S := S) (M := M) (pos := pos) ok h.1.1.2 h.2 (sE a ok h.1.2).1 (sE b ok h.2).1).2
    exact ⟨fun pins s σ H Q I ⟨ss, G, Q', a, w, c⟩ => p.run pins s σ H Q I ⟨ss, G, Q', a, by simp only [wpC] at w; simp only [wpE]; exact w, c⟩⟩
  | .isi a ty, X, k, H0, WT, n, es, ok, h => by
    simp only [chkIf, Bool.and_eq_true] at h
    obtain ⟨fid, fpos, x, yid, ypos, pos, rfl⟩ := isi1_of h.1.1.1
    have h2 : chkE (.isi a ty) n (.Call (.Name fid fpos) [x, .Name yid ypos] [] pos) = true := by
      simp only [chkE, Bool.and_eq_true]
      exact ⟨⟨h.1.1.2, h.1.2⟩, h.2⟩
    have q : PE X (.Call (.Name fid fpos) [x, .Name yid ypos] [] pos) (upE S X.K H0 WT (wpE M (.isi a ty))) := r_isi ok h.1.1.2 h.1.2 (chkE_star h.2) (sE a ok h.2).1
    have p := pts_one (r_tst q (isTrue_pl h2 rfl _))
    exact ⟨fun pins s σ H Q I ⟨ss, G, Q', a, w, c⟩ => p.run pins s σ H Q I ⟨ss, G, Q', a, by simp only [wpC] at w; simp only [wpE]; exact w, c⟩⟩
  | .kc _, _, _, _, _, _, es, _, h => by simp [chkIf] at h
  | .gl _, _, _, _, _, _, es, _, h => by simp [chkIf] at h
  | .tup _, _, _, _, _, _, es, _, h => by simp [chkIf] at h
  | .lst _, _, _, _, _, _, es, _, h => by simp [chkIf] at h
  | .dct _ _, _, _, _, _, _, es, _, h => by simp [chkIf] at h
  | .bin _ _ _, _, _, _, _, _, es, _, h => by simp [chkIf] at h
  | .neg _, _, _, _, _, _, es, _, h => by simp [chkIf] at h
  | .land _, _, _, _, _, _, es, _, h => by simp [chkIf] at h
  | .lor _, _, _, _, _, _, es, _, h => by simp [chkIf] at h
  | .lnot _, _, _, _, _, _, es, _, h => by simp [chkIf] at h
  | .ife _ _ _, _, _, _, _, _, es, _, h => by simp [chkIf] at h
  | .ix _ _, _, _, _, _, _, es, _, h => by simp [chkIf] at h
  | .dx _ _, _, _, _, _, _, es, _, h => by simp [chkIf] at h
  | .sl _ _ _, _, _, _, _, _, es, _, h => by simp [chkIf] at h
  | .fld _ _, _, _, _, _, _, es, _, h => by simp [chkIf] at h
  | .call _ _, _, _, _, _, _, es, _, h => by simp [chkIf] at h
  | .meth _ _ _, _, _, _, _, _, es, _, h => by simp [chkIf] at h
  | .make _ _, _, _, _, _, _, es, _, h => by simp [chkIf] at h
  | .bi _ _, _, _, _, _, _, es, _, h => by simp [chkIf] at h
  | .bm _ _ _, _, _, _, _, _, es, _, h => by simp [chkIf] at h
  | .isx _, _, _, _, _, _, es, _, h => by simp [chkIf] at h
  | .xf _, _, _, _, _, _, es, _, h => by simp [chkIf] at h
  | .lc _ _ _ _ _, _, _, _, _, _, es, _, h => by simp [chkIf] at h
  | .gen _ _ _ _, _, _, _, _, _, es, _, h => by simp [chkIf] at h
theorem sO : ∀ (c : E) {X : Cx} {k : Nat} {H0 : Hp} {WT : Sl → XT} {n : Nm} {e : Option Expr}, Ok X S M k H0 WT n → chkO c n e = true → PO X e (upO S X.K H0 WT (wpO M c))
  | .no, X, k, H0, WT, n, e, ok, h => by
    cases e <;> first | (exact absurd h Bool.false_ne_true) | exact r_oN
  | .var i, X, k, H0, WT, n, e, ok, h => by
    cases e <;> first | (exact absurd h Bool.false_ne_true) | skip
    rename_i e
    have h' : chkE (.var i) n e = true := by simpa [chkO, chkVar_eq] using h
    cases e <;> first | (exact absurd h' Bool.false_ne_true) | skip
    exact r_oS (r_var ok h') fun ss G X' Q w => by
      simp only [wpO] at w
      simp only [wpE]
      obtain ⟨j, e, q⟩ := w
      exact ⟨_, e, j, rfl, q⟩
  | .kc t, X, k, H0, WT, n, e, ok, h => by
    cases e <;> first | (exact absurd h Bool.false_ne_true) | skip
    rename_i e
    have h' : chkE (.kc t) n e = true := by simpa [chkO, chkKc_eq (n := n)] using h
    cases e <;> first | (exact absurd h' Bool.false_ne_true) | skip
    rename_i cc _ _
    have hc : chkC t cc = true := by simpa [chkE] using h'
    exact r_oS (r_kc (M := M) hc) fun ss G X' Q w => by
      simp only [wpO] at w
      simp only [wpE]
      exact w
  | .neg a, X, k, H0, WT, n, e, ok, h => by
    rcases e with _ | e <;> first | (exact absurd h Bool.false_ne_true) | skip
    cases e <;> first | (exact absurd h Bool.false_ne_true) | skip
    rename_i op _ _
    cases op <;> first | (exact absurd h Bool.false_ne_true) | skip
    exact r_oS (r_neg (sE a ok (by simpa [chkO] using h)).1) fun ss G X' Q w => by
      simp only [wpO] at w
      simp only [wpE]
      exact w
  | .bin o a b, X, k, H0, WT, n, e, ok, h => by
    rcases e with _ | e <;> first | (exact absurd h Bool.false_ne_true) | skip
    cases e <;> first | (exact absurd h Bool.false_ne_true) | skip
    simp only [chkO, Bool.and_eq_true] at h
    exact r_oS (r_bin ok h.1.1 (sE a ok h.1.2).1 (sE b ok h.2).1) fun ss G X' Q w => by
      simp only [wpO] at w
      simp only [wpE]
      exact w
  | .ix a b, X, k, H0, WT, n, e, ok, h => by
    rcases e with _ | e <;> first | (exact absurd h Bool.false_ne_true) | skip
    cases e <;> first | (exact absurd h Bool.false_ne_true) | skip
    simp only [chkO, Bool.and_eq_true] at h
    exact r_oS (r_ix h.2 (sE a ok h.1).1 (sE b ok h.2).1) fun ss G X' Q w => by
      simp only [wpO] at w
      simp only [wpE]
      exact w
  | .call f es, X, k, H0, WT, n, e, ok, h => by
    rcases e with _ | e <;> first | (exact absurd h Bool.false_ne_true) | skip
    cases e <;> first | (exact absurd h Bool.false_ne_true) | skip
    rename_i fn args kws pos
    cases fn <;> cases kws <;> first | (exact absurd h Bool.false_ne_true) | skip
    simp only [chkO, Bool.and_eq_true, decide_eq_true_eq] at h
    cases args with
    | nil => have z := chkEs_len h.1.2; simp at z; omega
    | cons x xs =>
      exact r_oS (r_call ok h.1.1 (chkEs_star h.1.2) (sEs es ok h.1.2)) fun ss G X' Q w => by
        simp only [wpO] at w
        simp only [wpE]
        exact w
  | .gl _, _, _, _, _, _, e, _, h => by cases e <;> exact absurd h Bool.false_ne_true
  | .tup _, _, _, _, _, _, e, _, h => by cases e <;> exact absurd h Bool.false_ne_true
  | .lst _, _, _, _, _, _, e, _, h => by cases e <;> exact absurd h Bool.false_ne_true
  | .dct _ _, _, _, _, _, _, e, _, h => by cases e <;> exact absurd h Bool.false_ne_true
  | .cmp _ _ _, _, _, _, _, _, e, _, h => by cases e <;> exact absurd h Bool.false_ne_true
  | .land _, _, _, _, _, _, e, _, h => by cases e <;> exact absurd h Bool.false_ne_true
  | .lor _, _, _, _, _, _, e, _, h => by cases e <;> exact absurd h Bool.false_ne_true
  | .lnot _, _, _, _, _, _, e, _, h => by cases e <;> exact absurd h Bool.false_ne_true
  | .ife _ _ _, _, _, _, _, _, e, _, h => by cases e <;> exact absurd h Bool.false_ne_true
  | .dx _ _, _, _, _, _, _, e, _, h => by cases e <;> exact absurd h Bool.false_ne_true
  | .sl _ _ _, _, _, _, _, _, e, _, h => by cases e <;> exact absurd h Bool.false_ne_true
  | .fld _ _, _, _, _, _, _, e, _, h => by cases e <;> exact absurd h Bool.false_ne_true
  | .meth _ _ _, _, _, _, _, _, e, _, h => by cases e <;> exact absurd h Bool.false_ne_true
  | .make _ _, _, _, _, _, _, e, _, h => by cases e <;> exact absurd h Bool.false_ne_true
  | .bi _ _, _, _, _, _, _, e, _, h => by cases e <;> exact absurd h Bool.false_ne_true
  | .bm _ _ _, _, _, _, _, _, e, _, h => by cases e <;> exact absurd h Bool.false_ne_true
  | .isi _ _, _, _, _, _, _, e, _, h => by cases e <;> exact absurd h Bool.false_ne_true
  | .isx _, _, _, _, _, _, e, _, h => by cases e <;> exact absurd h Bool.false_ne_true
  | .xf _, _, _, _, _, _, e, _, h => by cases e <;> exact absurd h Bool.false_ne_true
  | .lc _ _ _ _ _, _, _, _, _, _, e, _, h => by cases e <;> exact absurd h Bool.false_ne_true
  | .gen _ _ _ _, _, _, _, _, _, e, _, h => by cases e <;> exact absurd h Bool.false_ne_true
theorem sI : ∀ (c : It) {X : Cx} {k : Nat} {H0 : Hp} {WT : Sl → XT} {n : Nm} {e tg : Expr}, Ok X S M k H0 WT n → chkI c n e = true → PI X tg e (upI S X.K H0 WT (wpI M c))
  | .tup c, X, k, H0, WT, n, e, tg, ok, h => r_itup (sE c ok (by simpa [chkI] using h)).1
  | .lst c, X, k, H0, WT, n, e, tg, ok, h => r_ilst (sE c ok (by simpa [chkI] using h)).1
  | .str c, X, k, H0, WT, n, e, tg, ok, h => r_istr (sE c ok (by simpa [chkI] using h)).1
  | .rng es, X, k, H0, WT, n, e, tg, ok, h => by
    cases e <;> first | (exact absurd h Bool.false_ne_true) | skip
    rename_i fn args kws pos
    cases fn <;> cases kws <;> first | (exact absurd h Bool.false_ne_true) | skip
    simp only [chkI, Bool.and_eq_true, decide_eq_true_eq] at h
    exact r_irng ok h.1.1.1 (chkEs_star h.1.1.2) h.1.2 h.2 (chkEs_len h.1.1.2).symm (sEs es ok h.1.1.2)
  | .revl c, X, k, H0, WT, n, e, tg, ok, h => by cases e <;> exact absurd h Bool.false_ne_true
  | .revt c, X, k, H0, WT, n, e, tg, ok, h => by
    cases e <;> first | (exact absurd h Bool.false_ne_true) | skip
    rename_i fn args kws pos
    cases fn <;> first | (exact absurd h Bool.false_ne_true) | skip
    rcases args with _ | ⟨x, _ | ⟨y, r⟩⟩ <;> first | (exact absurd h Bool.false_ne_true) | skip
    cases kws <;> first | (exact absurd h Bool.false_ne_true) | skip
    simp only [chkI, Bool.and_eq_true] at h
    exact r_irevt ok h.1 (chkE_star h.2) (sE c ok h.2).1
  | .revr c, X, k, H0, WT, n, e, tg, ok, h => by
    cases e <;> first | (exact absurd h Bool.false_ne_true) | skip
    rename_i fn args kws pos
    cases fn <;> first | (exact absurd h Bool.false_ne_true) | skip
    rcases args with _ | ⟨x, r1⟩ <;> first | (exact absurd h Bool.false_ne_true) | skip
    cases x <;> first | (exact absurd h Bool.false_ne_true) | skip
    rename_i fn2 args2 kws2 pos2
    cases fn2 <;> first | (exact absurd h Bool.false_ne_true) | skip
    rcases args2 with _ | ⟨y, _ | ⟨z, r⟩⟩ <;> first | (exact absurd h Bool.false_ne_true) | skip
    cases kws2 <;> first | (exact absurd h Bool.false_ne_true) | skip
    cases r1 <;> first | (exact absurd h Bool.false_ne_true) | skip
    cases kws <;> first | (exact absurd h Bool.false_ne_true) | skip
    simp only [chkI, Bool.and_eq_true] at h
    exact r_irevr ok h.1.1 h.1.2 (chkE_star h.2) (sE c ok h.2).1
end
end
end SK

set_option Elab.async false
set_option linter.all false
set_option maxRecDepth 100000
set_option maxHeartbeats 1000000
/-! SK10: statements are sound. -/
namespace SK
open PySem PySem.Spec PyProof.Rows L2
structure ContD (S : Stc) (K : PySem.W.Frag) (H0 H : Hp) (D' : En) (D : Ends) : Prop where
  nx : ∀ ss G σ H', HX H H' → At S K H0 ss G σ H' → D'.nx ss G → D.nx σ H'
  rt : Cont S K H D'.rt D.rt
  bk : ∀ ss G σ H', HX H H' → At S K H0 ss G σ H' → D'.bk ss G → D.bk σ H'
  ct : ∀ ss G σ H', HX H H' → At S K H0 ss G σ H' → D'.ct ss G → D.ct σ H'
theorem ContD.step {S : Stc} {K : PySem.W.Frag} {H0 H H1 : Hp} {D' : En} {D : Ends} (c : ContD S K H0 H D' D) (x : HX H H1) : ContD S K H0 H1 D' D :=
  ⟨fun ss G σ H' y => c.nx ss G σ H' (x.trans y), c.rt.step x, fun ss G σ H' y => c.bk ss G σ H' (x.trans y), fun ss G σ H' y => c.ct ss G σ H' (x.trans y)⟩
def upS (S : Stc) (K : PySem.W.Frag) (H0 : Hp) (WT : Sl → XT) (p : Sl → Gp → En → Prop) : TS := fun D σ H => ∃ ss G D', At S K H0 ss G σ H ∧ D'.ex = WT ∧ p ss G D' ∧ ContD S K H0 H D' D
section
variable {X : Cx} {S : Stc} {M : Gm} {k : Nat} {H0 : Hp} {WT : Sl → XT} {n : Nm}
theorem sw_false {c : E} {v : Expr} (h : chkE c n v = true) (hl : isLc c = false) (t : Option Expr) (l : Nat) (env : Env) : swapsWith v t l env = pure false := by
  cases v <;> first | rfl | (cases c <;> first | (cases hl; done) | (exact absurd h Bool.false_ne_true))
theorem asg_sub {c : E} {o i : Expr} {pos : Pos} {env : Env} (h : chkE c n i = true) : ∀ v, assign (.Subscript o i pos) env v = (do
      let ov ← holding [v] (eval o env)
      let iv ← holding [v, ov] (eval i env)
      standAt pos
      holding [v, ov, iv] (setItem ov iv v)
      release [v, ov, iv] []) := by
  intro v
  cases i <;> first | rfl | (cases c <;> exact absurd h Bool.false_ne_true)
theorem sS_asgW {i : Nat} {e : E} {te : TE} (p : ∀ σ H Q, upE S X.K H0 WT (wpE M e) σ H Q → te σ H Q) (D : Ends) (σ : L2.St) (H : Hp) (w : upS S X.K H0 WT (wpS (.asg i e) M) D σ H) : tAsg te (gName i) D σ H := by
  obtain ⟨ss, G, D', a, rfl, w, c⟩ := w
  unfold wpS at w
  exact p _ _ _ ⟨ss, G, _, a, w, fun t G' v H' hx r sm q => c.nx _ _ _ _ hx ⟨(a.rs.mono hx).set r i, sm, a.hx.trans hx⟩ q⟩
theorem s_asg (ok : Ok X S M k H0 WT n) {i : Nat} {e : E} {st : Stmt} (h : chkS (.asg i e) n st = true) : PS X st (upS S X.K H0 WT (wpS (.asg i e) M)) := by
  cases st <;> first | (exact absurd h Bool.false_ne_true) | skip
  rename_i tgs v pos
  simp only [chkS] at h
  rcases tgs with _ | ⟨tg, _ | ⟨_, _⟩⟩ <;> first | (exact absurd h Bool.false_ne_true) | (cases tg <;> exact absurd h Bool.false_ne_true; done) | skip
  cases tg <;> first | (exact absurd h Bool.false_ne_true) | skip
  rename_i x py
  simp only [chkAsg, Bool.and_eq_true, decide_eq_true_eq] at h
  obtain ⟨⟨⟨h1, h2⟩, h3⟩, h4⟩ := h
  obtain ⟨hl, hf⟩ := ok.loc h2
  by_cases hlc : isLc e = true
  · cases e <;> first | (cases hlc; done) | skip
    rename_i elt own g it cond
    cases v <;> first | (exact absurd h3 Bool.false_ne_true) | skip
    rename_i e gs scope pos'
    rcases gs with _ | ⟨⟨tg, iter, ifs, asy⟩, _ | ⟨g2, r⟩⟩ <;> first | (exact absurd h3 Bool.false_ne_true) | skip
    simp only [chkE, Bool.and_eq_true, decide_eq_true_eq] at h3
    obtain ⟨⟨⟨⟨⟨⟨⟨hz, k1⟩, k2⟩, k3⟩, k4⟩, k5⟩, k6⟩, k7⟩ := h3
    subst hz
    simp only [lcOk, Bool.and_eq_true, decide_eq_true_eq, Bool.not_eq_true'] at h4
    have hgs : ∀ i ∈ g.slots, i ∈ own := fun i hi => by
      have z := List.all_eq_true.mp k4 i hi
      simpa using z
    have p := ps_setLc (i := i) (py := py) (spos := pos) (own := ownOf n.N own) (g := gV X.K g) (tt := upT S X.K H0 WF (wpC M cond)) (te := upE S X.K H0 WF (wpE M elt)) ok.calm ok.nd (by rw [ok.N]; exact h1) (by rw [ok.sc]; exact h4.1.1.2)
      (sw_true (by rw [ok.sc]; exact h4.1.1.1) (by rw [ok.sc]; exact h4.1.1.2) h4.1.2 h4.2) (sI it ok k1) (blkOk_by (by rw [ok.N, ok.sc]; exact k2))
      (fun s H C cl fp => tg_of (ok.blk s H scope C cl fp).sto k5) (fun s H C cl fp => sIf cond (ok.blk s H scope C cl fp) k7) (fun s H C cl fp => (sE elt (ok.blk s H scope C cl fp) k6).1) (foldSet_of k1 X.env) (pos := pos')
    rw [k3] at p
    exact p.imp (sS_asgW fun σ H Q w => lc_imp hgs σ H Q w)
  · exact (ps_set ok.nd (by rw [ok.N]; exact h1) hl (sE e ok h3).1 (sw_false h3 (by simpa using hlc) _ _ _) hf).imp (sS_asgW fun _ _ _ w => w)
theorem s_ast (ok : Ok X S M k H0 WT n) {is : List Nat} {e : E} {st : Stmt} (h : chkS (.ast is e) n st = true) : PS X st (upS S X.K H0 WT (wpS (.ast is e) M)) := by
  cases st <;> first | (exact absurd h Bool.false_ne_true) | skip
  rename_i tgs v pos
  simp only [chkS] at h
  rcases tgs with _ | ⟨tg, _ | ⟨_, _⟩⟩ <;> first | (exact absurd h Bool.false_ne_true) | skip
  simp only [chkAst, Bool.and_eq_true, Bool.not_eq_true'] at h
  obtain ⟨⟨⟨h1, h2⟩, h3⟩, h4⟩ := h
  have hsole : swapsWithSole [tg] v pos.line X.env = pure false := sw_false h2 h3 _ _ _
  have hst : swappedStores [tg] v X.env = pure none := by
    cases v <;> first | (cases h4; done) | (cases tg <;> rfl)
  have has : (assignEach [tg] X.env).map (·.2) = [assign tg X.env] := by
    cases tg <;> first | rfl | (simp [chkG] at h1)
  refine (ps_asg (sE e ok h2).1 (tg_of ok.sto h1) hsole hst has).imp fun D σ H ⟨ss, G, D', a, ex, w, c⟩ => ?_
  subst ex
  unfold wpS at w
  exact ⟨ss, G, _, a, w, fun t G' v H' hx r sm q => gV_of r (a.rs.mono hx) q fun s1 σ1 r1 q1 _ => c.nx _ _ _ _ hx ⟨r1, sm, a.hx.trans hx⟩ q1⟩
theorem s_asf (ok : Ok X S M k H0 WT n) {o e : E} {f : String} {st : Stmt} (h : chkS (.asf o f e) n st = true) : PS X st (upS S X.K H0 WT (wpS (.asf o f e) M)) := by
  cases st <;> first | (exact absurd h Bool.false_ne_true) | skip
  rename_i tgs v pos
  simp only [chkS] at h
  rcases tgs with _ | ⟨tg, _ | ⟨_, _⟩⟩ <;> first | (exact absurd h Bool.false_ne_true) | (cases tg <;> exact absurd h Bool.false_ne_true; done) | skip
  cases tg <;> first | (exact absurd h Bool.false_ne_true) | skip
  rename_i x m py
  simp only [chkAsf, Bool.and_eq_true, decide_eq_true_eq, Bool.not_eq_true'] at h
  obtain ⟨⟨⟨⟨h1, h2⟩, h3⟩, h4⟩, h5⟩ := h
  subst h1
  refine (ps_fld (sE o ok h3).1 (sE e ok h4).1 (sw_false h4 h5 _ _ _)).imp fun D σ H ⟨ss, G, D', a, ex, w, c⟩ => ?_
  subst ex
  unfold wpS at w
  refine ⟨ss, G, _, a, w, fun t G1 v H1 hx r sm q => ⟨ss, G1, _, a.next hx sm, q, ?_⟩⟩
  rintro t2 G2 v2 H2 hx2 r2 sm2 ⟨p, C, fs, rfl, e1, hl, hf, q2⟩
  obtain ⟨ca, dx, l, h6, h7, h8, h9⟩ := sm2.ins e1
  obtain ⟨cl, na⟩ := ok.md.cls C ca h7
  have hn := na f (ok.md.fld C f hf)
  refine ⟨p, ca, dx, l, r2, h6, cl, hn, by rw [← h8.length]; exact hl, ?_⟩
  have rf := h8.put (f := f) (r.mono hx2)
  exact c.nx _ _ _ _ ((hx.trans hx2).trans (HX.put h6 trivial)) (((a.next hx sm).next hx2 sm2).next (HX.put h6 trivial) (sm2.put h6 trivial (show RO S X.K _ (.ins C _) (.ins ca _ _) from ⟨ca, dx, _, rfl, h7, RF.mono (HX.put h6 trivial) _ _ rf, fPut_names (P := fun g => S.fld C g = true) (ok.md.fld C f hf) h9⟩))) q2
theorem s_asi (ok : Ok X S M k H0 WT n) {o i e : E} {st : Stmt} (h : chkS (.asi o i e) n st = true) : PS X st (upS S X.K H0 WT (wpS (.asi o i e) M)) := by
  cases st <;> first | (exact absurd h Bool.false_ne_true) | skip
  rename_i tgs v pos
  simp only [chkS] at h
  rcases tgs with _ | ⟨tg, _ | ⟨_, _⟩⟩ <;> first | (exact absurd h Bool.false_ne_true) | (cases tg <;> exact absurd h Bool.false_ne_true; done) | skip
  cases tg <;> first | (exact absurd h Bool.false_ne_true) | skip
  rename_i x y py
  simp only [chkAsi, Bool.and_eq_true, Bool.not_eq_true'] at h
  obtain ⟨⟨⟨h2, h3⟩, h4⟩, h5⟩ := h
  have hsole : swapsWithSole [.Subscript x y py] v pos.line X.env = pure false := by
    rw [swapsWithSole]
    exact sw_false h4 h5 _ _ _
  have hst : swappedStores [.Subscript x y py] v X.env = pure none := by cases v <;> rfl
  refine (ps_asg (sE e ok h4).1 (pg_sub (sE o ok h2).1 (sE i ok h3).1 set_list (asg_sub h3)) hsole hst).imp fun D σ H ⟨ss, G, D', a, ex, w, c⟩ => ?_
  subst ex
  unfold wpS at w
  refine ⟨ss, G, _, a, w, fun t G1 v H1 hx r sm q => ⟨ss, G1, _, a.next hx sm, q, fun t2 G2 v2 H2 hx2 r2 sm2 q2 => ⟨ss, G2, _, (a.next hx sm).next hx2 sm2, q2, ?_⟩⟩⟩
  rintro t3 G3 v3 H3 hx3 r3 sm3 ⟨p, xs, kk, j, rfl, rfl, e1, hj, q3⟩
  obtain ⟨vs, h6, h8⟩ := sm3.lst e1
  refine ⟨p, vs, kk, j, r2, r3, h6, by rw [← h8.length]; exact hj, ?_⟩
  exact c.nx _ _ _ _ (((hx.trans hx2).trans hx3).trans (HX.put h6 trivial)) ((((a.next hx sm).next hx2 sm2).next hx3 sm3).next (HX.put h6 trivial) (sm3.put h6 trivial (show RO S X.K _ (.lst _) (.lst _) from ⟨_, rfl, (h8.set j (r.mono (hx2.trans hx3))).mono (HX.put h6 trivial)⟩))) q3
theorem s_asd (ok : Ok X S M k H0 WT n) {o i e : E} {st : Stmt} (h : chkS (.asd o i e) n st = true) : PS X st (upS S X.K H0 WT (wpS (.asd o i e) M)) := by
  cases st <;> first | (exact absurd h Bool.false_ne_true) | skip
  rename_i tgs v pos
  simp only [chkS] at h
  rcases tgs with _ | ⟨tg, _ | ⟨_, _⟩⟩ <;> first | (exact absurd h Bool.false_ne_true) | (cases tg <;> exact absurd h Bool.false_ne_true; done) | skip
  cases tg <;> first | (exact absurd h Bool.false_ne_true) | skip
  rename_i x y py
  simp only [chkAsi, Bool.and_eq_true, Bool.not_eq_true'] at h
  obtain ⟨⟨⟨h2, h3⟩, h4⟩, h5⟩ := h
  refine (ps_dput ok.hu1 (sE o ok h2).1 (sE i ok h3).1 (sE e ok h4).1 (sw_false h4 h5 _ _ _)).imp fun D σ H ⟨ss, G, D', a, ex, w, c⟩ => ?_
  subst ex
  unfold wpS at w
  refine ⟨ss, G, _, a, w, fun t G1 v H1 hx r sm q => ⟨ss, G1, _, a.next hx sm, q, fun t2 G2 v2 H2 hx2 r2 sm2 q2 => ⟨ss, G2, _, (a.next hx sm).next hx2 sm2, q2, ?_⟩⟩⟩
  rintro t3 G3 v3 H3 hx3 r3 sm3 ⟨p, kvs, kk, rfl, hk, e1, hl, q3⟩
  obtain ⟨l, h6, h8⟩ := sm3.dct e1
  refine ⟨p, _, r2, .inl ⟨l, kOf kk, h6, keyT_of hk r3, by rw [← h8.length]; exact lt_line hl, rfl⟩, ?_⟩
  exact c.nx _ _ _ _ (((hx.trans hx2).trans hx3).trans (HX.put h6 trivial)) ((((a.next hx sm).next hx2 sm2).next hx3 sm3).next (HX.put h6 trivial) (sm3.put h6 trivial (show RO S X.K _ (.dct _) (.dK _) from ⟨_, rfl, RK.mono (HX.put h6 trivial) _ _ (h8.put (r.mono (hx2.trans hx3)))⟩))) q3
theorem s_ex (ok : Ok X S M k H0 WT n) {e : E} {st : Stmt} (h : chkS (.ex e) n st = true) : PS X st (upS S X.K H0 WT (wpS (.ex e) M)) := by
  cases st <;> first | (exact absurd h Bool.false_ne_true) | skip
  rename_i v pos
  simp only [chkS, Bool.and_eq_true, Bool.not_eq_true'] at h
  refine (ps_expr (sE e ok h.1).1 (sw_false h.1 h.2 _ _ _)).imp fun D σ H ⟨ss, G, D', a, ex, w, c⟩ => ?_
  subst ex
  unfold wpS at w
  exact ⟨ss, G, _, a, w, fun t G' v H' hx r sm q => c.nx _ _ _ _ hx (a.next hx sm) q⟩
theorem s_ret (ok : Ok X S M k H0 WT n) {e : E} {st : Stmt} (h : chkS (.ret e) n st = true) : PS X st (upS S X.K H0 WT (wpS (.ret e) M)) := by
  cases st <;> first | (exact absurd h Bool.false_ne_true) | skip
  rename_i v pos
  cases v <;> first | (exact absurd h Bool.false_ne_true) | skip
  simp only [chkS] at h
  refine (ps_ret (sE e ok h).1).imp fun D σ H ⟨ss, G, D', a, ex, w, c⟩ => ?_
  subst ex
  unfold wpS at w
  exact ⟨ss, G, _, a, w, c.rt⟩
theorem s_retn {st : Stmt} (h : chkS .retn n st = true) : PS X st (upS S X.K H0 WT (wpS .retn M)) := by
  cases st <;> first | (exact absurd h Bool.false_ne_true) | skip
  rename_i v pos
  cases v <;> first | (exact absurd h Bool.false_ne_true) | skip
  refine ps_retN.imp fun D σ H ⟨ss, G, D', a, ex, w, c⟩ => ?_
  unfold wpS at w
  exact c.rt _ _ _ _ (HX.refl _) (by unfold RT; rfl) a.sim w
theorem s_pass {st : Stmt} (h : chkS .pass n st = true) : PS X st (upS S X.K H0 WT (wpS .pass M)) := by
  cases st <;> first | (exact absurd h Bool.false_ne_true) | skip
  refine ps_pass.imp fun D σ H ⟨ss, G, D', a, ex, w, c⟩ => ?_
  unfold wpS at w
  exact c.nx _ _ _ _ (HX.refl _) a w
theorem s_ite {c : E} {a b : Ss} {t : Expr} {x y : List Stmt} {pos : Pos} (hc : PT X t (upT S X.K H0 WT (wpE M c))) (h1 : PSs X x (upS S X.K H0 WT (wpSs a M))) (h2 : PSs X y (upS S X.K H0 WT (wpSs b M))) :
    PS X (.If t x y pos) (upS S X.K H0 WT (wpS (.ite c a b) M)) := by
  refine (ps_if hc h1 h2).imp fun D σ H ⟨ss, G, D', at0, ex, w, c⟩ => ?_
  subst ex
  unfold wpS at w
  refine ⟨ss, G, _, at0, w, fun t G' H' hx sm ⟨b, e, q⟩ => ⟨b, e, ?_⟩⟩
  cases b with
  | true => rw [if_pos rfl] at q ⊢; exact ⟨ss, G', D', at0.next hx sm, rfl, q, c.step hx⟩
  | false => rw [if_neg Bool.false_ne_true] at q ⊢; exact ⟨ss, G', D', at0.next hx sm, rfl, q, c.step hx⟩
theorem s_for (ok : Ok X S M k H0 WT n) {g : Tg} {it : It} {body : Ss} {tg iter : Expr} {b : List Stmt} {pos : Pos} (hg : chkG n g tg = true) (hi : chkI it n iter = true) (hb : PSs X b (upS S X.K H0 WT (wpSs body M))) :
    PS X (.For tg iter b [] pos) (upS S X.K H0 WT (wpS (.for_ g it body) M)) := by
  refine (ps_for ok.pass ok.calm (sI it ok hi) (tg_of ok.sto hg) hb (foldSet_of hi X.env)).imp fun D σ H ⟨ss, G, D', a, ex, w, c⟩ => ?_
  subst ex
  unfold wpS at w
  refine ⟨ss, G, _, a, w, fun sq G1 J H1 hx sm jo q => ?_⟩
  refine ⟨fun i m σ2 H2 => m = sq.items.length - i ∧ i ≤ sq.items.length ∧ ∃ ss2 G2, HX H1 H2 ∧ At S X.K H0 ss2 G2 σ2 H2 ∧ forW sq.stay g (fun s2 G2 D2 => wpSs body M s2 G2 D2) D' (sq.items.drop i) ss2 G2,
    ⟨sq.items.length, rfl, Nat.zero_le _, ss, G1, HX.refl _, a.next hx sm, q⟩, ?_⟩
  rintro i m σ2 H2 ⟨rfl, hi, ss2, G2, hx2, a2, w2⟩
  by_cases hlt : i < sq.items.length
  · rw [List.drop_eq_getElem_cons hlt] at w2
    unfold forW at w2
    obtain ⟨st, w2⟩ := w2
    refine .inr ⟨jo.go i H2 G2 hx2 a2.sim st hlt, fun σ3 H3 => ∃ ss3 G3, HX H1 H3 ∧ At S X.K H0 ss3 G3 σ3 H3 ∧ forW sq.stay g (fun s2 G2 D2 => wpSs body M s2 G2 D2) D' (sq.items.drop (i + 1)) ss3 G3,
      fun σ3 H3 ⟨ss3, G3, z1, z2, z3⟩ => ⟨sq.items.length - (i + 1), by omega, rfl, hlt, ss3, G3, z1, z2, z3⟩, fun x H3 y => ?_⟩
    obtain ⟨rfl, t, e1, rt⟩ := jo.yld i x H2 G2 H3 hx2 a2.sim st hlt y
    rw [List.getElem?_eq_getElem hlt] at e1
    cases e1
    refine gV_of rt a2.rs w2 fun s1 σ1 rs1 w3 _ => ?_
    refine ⟨s1, G2, _, ⟨rs1, a2.sim, a2.hx⟩, ?_, w3, ⟨fun ss4 G4 σ4 H4 y a4 q4 => ⟨ss4, G4, hx2.trans y, a4, q4⟩, c.rt.step (hx.trans hx2), fun ss4 G4 σ4 H4 y a4 q4 => c.nx _ _ _ _ ((hx.trans hx2).trans y) a4 q4, fun ss4 G4 σ4 H4 y a4 q4 => ⟨ss4, G4, hx2.trans y, a4, q4⟩⟩⟩
    rfl
  · have e : i = sq.items.length := by omega
    subst e
    rw [List.drop_length] at w2
    unfold forW at w2
    obtain ⟨st, w2⟩ := w2
    exact .inl ⟨jo.stop _ H2 G2 hx2 a2.sim st (Nat.le_refl _), c.nx _ _ _ _ (hx.trans hx2) a2 w2⟩
theorem s_whl (ok : Ok X S M k H0 WT n) {c : E} {body : Ss} {t : Expr} {b : List Stmt} {pos : Pos} (hc : PT X t (upT S X.K H0 WT (wpE M c))) (hb : PSs X b (upS S X.K H0 WT (wpSs body M))) :
    PS X (.While t b [] pos) (upS S X.K H0 WT (wpS (.whl c body) M)) := by
  refine (ps_while ok.pass hc hb).imp fun D σ H ⟨ss, G, D', a, ex, w, c⟩ => ?_
  subst ex
  unfold wpS whlW at w
  obtain ⟨W, ⟨m0, w0⟩, turn⟩ := w
  refine ⟨fun m σ2 H2 => ∃ ss2 G2, HX H H2 ∧ At S X.K H0 ss2 G2 σ2 H2 ∧ W m ss2 G2, ⟨m0, ss, G, HX.refl _, a, w0⟩, ?_⟩
  rintro m σ2 H2 ⟨ss2, G2, hx2, a2, w2⟩
  refine ⟨ss2, G2, _, a2, turn m ss2 G2 w2, fun t G3 H3 hx3 sm3 ⟨b, e, q⟩ => ⟨b, e, ?_⟩⟩
  cases b with
  | true =>
    rw [if_pos rfl] at q ⊢
    refine ⟨fun σ4 H4 => ∃ ss4 G4, HX H H4 ∧ At S X.K H0 ss4 G4 σ4 H4 ∧ ∃ m', m' < m ∧ W m' ss4 G4, fun σ4 H4 ⟨ss4, G4, z1, z2, m', z3, z4⟩ => ⟨m', z3, ss4, G4, z1, z2, z4⟩, ?_⟩
    refine ⟨ss2, G3, _, a2.next hx3 sm3, ?_, q, ⟨fun ss4 G4 σ4 H4 y a4 q4 => ⟨ss4, G4, (hx2.trans hx3).trans y, a4, q4⟩, c.rt.step (hx2.trans hx3), fun ss4 G4 σ4 H4 y a4 q4 => c.nx _ _ _ _ ((hx2.trans hx3).trans y) a4 q4, fun ss4 G4 σ4 H4 y a4 q4 => ⟨ss4, G4, (hx2.trans hx3).trans y, a4, q4⟩⟩⟩
    rfl
  | false => rw [if_neg Bool.false_ne_true] at q ⊢; exact c.nx _ _ _ _ (hx2.trans hx3) (a2.next hx3 sm3) q
theorem s_cons {s : SK.S} {r : Ss} {st : Stmt} {sts : List Stmt} (h1 : PS X st (upS S X.K H0 WT (wpS s M))) (h2 : PSs X sts (upS S X.K H0 WT (wpSs r M))) : PSs X (st :: sts) (upS S X.K H0 WT (wpSs (.cons s r) M)) := by
  refine (pss_cons h1 h2).imp fun D σ H ⟨ss, G, D', a, ex, w, c⟩ => ?_
  subst ex
  unfold wpSs at w
  refine ⟨ss, G, _, a, ?_, w, ⟨fun ss4 G4 σ4 H4 y a4 q4 => ⟨ss4, G4, D', a4, rfl, q4, c.step y⟩, c.rt, c.bk, c.ct⟩⟩
  rfl
theorem s_nil : PSs X [] (upS S X.K H0 WT (wpSs .nil M)) := by
  refine pss_nil.imp fun D σ H ⟨ss, G, D', a, ex, w, c⟩ => ?_
  unfold wpSs at w
  exact c.nx _ _ _ _ (HX.refl _) a w
end
section
variable {S : Stc} {M : Gm}
mutual
theorem sS : ∀ (c : SK.S) {X : Cx} {k : Nat} {H0 : Hp} {WT : Sl → XT} {n : Nm} {st : Stmt}, Ok X S M k H0 WT n → chkS c n st = true → PS X st (upS S X.K H0 WT (wpS c M))
  | .asg i e, _, _, _, _, _, _, ok, h => s_asg ok h
  | .ast is e, _, _, _, _, _, _, ok, h => s_ast ok h
  | .asf o f e, _, _, _, _, _, _, ok, h => s_asf ok h
  | .asi o i e, _, _, _, _, _, _, ok, h => s_asi ok h
  | .asd o i e, _, _, _, _, _, _, ok, h => s_asd ok h
  | .ex e, _, _, _, _, _, _, ok, h => s_ex ok h
  | .ret e, _, _, _, _, _, _, ok, h => s_ret ok h
  | .retn, _, _, _, _, _, _, ok, h => s_retn h
  | .pass, _, _, _, _, _, _, ok, h => s_pass h
  | .ite c a b, X, _, _, _, n, st, ok, h => by
    cases st <;> first | (exact absurd h Bool.false_ne_true) | skip
    simp only [chkS, Bool.and_eq_true] at h
    exact s_ite ((sE c ok h.1.1.1).2 h.1.1.2) (sSs a ok h.1.2) (sSs b ok h.2)
  | .for_ g it body, X, _, _, _, n, st, ok, h => by
    cases st <;> first | (exact absurd h Bool.false_ne_true) | skip
    rename_i tg iter b o pos
    cases o <;> first | (exact absurd h Bool.false_ne_true) | skip
    simp only [chkS, Bool.and_eq_true] at h
    exact s_for ok h.1.1 h.1.2 (sSs body ok h.2)
  | .whl c body, X, _, _, _, n, st, ok, h => by
    cases st <;> first | (exact absurd h Bool.false_ne_true) | skip
    rename_i t b o pos
    cases o <;> first | (exact absurd h Bool.false_ne_true) | skip
    simp only [chkS, Bool.and_eq_true] at h
    exact s_whl ok ((sE c ok h.1.1).2 h.1.2) (sSs body ok h.2)
  | .raise _ _, _, _, _, _, _, st, _, h => by cases st <;> exact absurd h Bool.false_ne_true
  | .try_ _ _ _ _, _, _, _, _, _, st, _, h => by cases st <;> exact absurd h Bool.false_ne_true
theorem sSs : ∀ (c : Ss) {X : Cx} {k : Nat} {H0 : Hp} {WT : Sl → XT} {n : Nm} {st : List Stmt}, Ok X S M k H0 WT n → chkSs c n st = true → PSs X st (upS S X.K H0 WT (wpSs c M))
  | .nil, _, _, _, _, _, st, ok, h => by
    cases st <;> first | (exact absurd h Bool.false_ne_true) | exact s_nil
  | .cons s r, _, _, _, _, _, st, ok, h => by
    cases st <;> first | (exact absurd h Bool.false_ne_true) | skip
    simp only [chkSs, Bool.and_eq_true] at h
    exact s_cons (sS s ok h.1) (sSs r ok h.2)
end
end
end SK

set_option Elab.async false
set_option linter.all false
set_option maxRecDepth 100000
/-! SK11: defs, modules, the law's end. -/
namespace SK
open PySem PySem.Spec PyProof.Rows L2
section
variable {P : Program} {w : World} {K : PySem.W.Frag} {mg : Str → Option Value} {base : Heap} {S : Stc} {M : Gm} {k : Nat} {use blt : List String}
/-- the frame's slots at the entry -/
def slots0 (n : Nat) (ts : List T) : Sl := ts.map some ++ List.replicate (n - ts.length) none
theorem rs_start {H : Hp} : ∀ {ts : List T} {vs : List V} (N : List Str), RTs K H ts vs → RS K H (slots0 N.length ts) (L2.start N vs) := by
  intro ts vs N h
  unfold slots0 L2.start
  have hl := h.length
  refine ⟨by simp [hl], fun i t e => ?_⟩
  by_cases hi : i < ts.length
  · rw [List.getElem?_append_left (by simpa using hi), List.getElem?_map] at e
    cases e1 : ts[i]? with
    | none => rw [e1] at e; cases e
    | some u =>
      rw [e1] at e
      cases e
      obtain ⟨v, h1, h2⟩ := h.get e1
      refine ⟨v, ?_, h2⟩
      rw [List.getElem?_append_left (by simpa [← hl] using hi), List.getElem?_map, h1]
      rfl
  · rw [List.getElem?_append_right (by simpa using Nat.le_of_not_lt hi), List.getElem?_replicate] at e
    split at e <;> cases e
/-- THE RULE for a def -/
theorem fn_rule {x qual : Str} {st : Stmt} {f : Addr} {fd : FuncData} {N ps : List Str} {code : Ss} {sp : Pr} (F : Fun K x qual st f fd) (sc : FnScope N ps (defScope st))
    (hc : chkSs code ⟨N, defScope st, true, use, blt⟩ (defBody st) = true) (md : MdOk P w K mg base S M k use blt) (len : ∀ ts G Q X, sp ts G Q X → ts.length = ps.length)
    (hb : ∀ ts G Q X, sp ts G Q X → wpSs code M (slots0 N.length ts) G { nx := fun _ G' => Q .non G', rt := Q, ex := fun _ => X }) :
    FnOk P w K mg base (L2.CX P w) (k + 1) f fd ps (upSp S K sp) := by
  refine F.okX sc (fun vs H Q E h => ?_) (fun cdv A outer s H vs Q E hr h => ?_)
  · obtain ⟨ts, G, Q', X', rt, _, h, _⟩ := h
    rw [← rt.length]
    exact len _ _ _ _ h
  · obtain ⟨ts, G, Q', X', rt, sm, h, c, cx⟩ := h
    have tk : Takes (cxOf (L2.CX P w) P w K mg base N qual (defScope st) f cdv A outer s H E) (upX S K H fun _ => X') :=
      (takes_of rfl rfl rfl rfl).imp fun cls d σ H' ⟨ss, c, fs, G', a, er, wx⟩ => cx c fs G' cls d H' a.hx er a.sim wx
    have ok : Ok (cxOf (L2.CX P w) P w K mg base N qual (defScope st) f cdv A outer s H E) S M k H (fun _ => X') ⟨N, defScope st, true, use, blt⟩ :=
      ⟨rfl, rfl, sc.nd, rfl, hr, tk, fun _ _ => rfl, passes_of rfl, md⟩
    refine ⟨_, sSs code ok hc, slots0 N.length ts, G, _, ⟨rs_start N rt, sm, HX.refl H⟩, ?_, hb ts G Q' X' h, ⟨fun ss G' σ H' hx a q => c .non G' .non H' hx (by unfold RT; rfl) a.sim q, c, fun _ _ _ _ _ _ z => z, fun _ _ _ _ _ _ z => z⟩⟩
    rfl

/-! ### a module by a list -/
/-- a def of the module keeps its promise -/
def Dn (P : Program) (w : World) (K : PySem.W.Frag) (mg : Str → Option Value) (base : Heap) (S : Stc) (k : Nat) (f : String) (sp : Pr) : Prop :=
  ∃ fa fd ps, FnOk P w K mg base (L2.CX P w) k fa fd ps (upSp S K sp) ∧ mg (Str.ofString f) = some (.ref fa) ∧ PySem.W.keepIn K (.ref fa) = true ∧ Binds K fd ps []
theorem Dn.mono {j : Nat} {f : String} {sp : Pr} (d : Dn P w K mg base S j f sp) (h : j ≤ k) : Dn P w K mg base S k f sp :=
  let ⟨fa, fd, ps, F, r⟩ := d
  ⟨fa, fd, ps, F.mono h, r⟩
def plainGm (l : List (String × Pr)) : Gm where
  fn := fun C f => if C = "" then l.lookup f else none
  cst := fun _ => none
  sub := fun _ _ => false
  xfs := fun _ => none
  fld := fun _ _ => false
def plainS : Stc := ⟨fun _ => none, fun _ => none, fun _ _ => false, []⟩
theorem look_mem {α : Type} : ∀ {l : List (String × α)} {f : String} {a : α}, l.lookup f = some a → (f, a) ∈ l
  | [], _, _, h => by cases h
  | (g, b) :: r, f, a, h => by
    rw [List.lookup_cons] at h
    by_cases e : f = g
    · subst e
      simp at h
      subst h
      exact List.mem_cons_self
    · have e' : (f == g) = false := by simpa using e
      rw [e'] at h
      exact List.mem_cons_of_mem _ (look_mem h)
theorem plain_md {l : List (String × Pr)} (hi : l.lookup "__init__" = none) (h : ∀ p ∈ l, Dn P w K mg base plainS k p.1 p.2) (hb : ∀ x ∈ blt, mg (Str.ofString x) = none) : MdOk P w K mg base plainS (plainGm l) k use blt where
  fn := fun f sp e => by
    have e' : l.lookup f = some sp := by simpa [plainGm] using e
    exact h _ (look_mem e')
  me := fun C m sp e ca z => by cases z
  cr := fun C sp e => by
    by_cases hC : C = ""
    · subst hC
      have e' : l.lookup "__init__" = some sp := by simpa [plainGm] using e
      rw [hi] at e'
      cases e'
    · simp [plainGm, hC] at e
  cst := fun x t _ e => by cases e
  blt := hb
  fld := fun C f e => by cases e
  cls := fun C ca z => by cases z
/-- what a def's facts give -/
theorem Dn.of {x qual : Str} {f : String} {st : Stmt} {fa : Addr} {fd : FuncData} {N ps : List Str} {code : Ss} {sp : Pr} (F : Fun K x qual st fa fd) (hm : mg (Str.ofString f) = some (.ref fa)) (hb : Binds K fd ps []) (sc : FnScope N ps (defScope st))
    (hc : chkSs code ⟨N, defScope st, true, use, blt⟩ (defBody st) = true) (md : MdOk P w K mg base S M k use blt) (len : ∀ ts G Q X, sp ts G Q X → ts.length = ps.length)
    (hw : ∀ ts G Q X, sp ts G Q X → wpSs code M (slots0 N.length ts) G { nx := fun _ G' => Q .non G', rt := Q, ex := fun _ => X }) : Dn P w K mg base S (k + 1) f sp :=
  ⟨fa, fd, ps, fn_rule F sc hc md len hw, hm, F.kp, hb⟩
end
/-! ### the law's end -/
/-- law's promise: for every script up to n, True comes out, nothing is let out -/
def LawPr (n : Nat) : Pr := fun ts G Q X => ∃ ns : List Int, ts = [.frl (ns.map T.int)] ∧ ns.length ≤ n ∧ (∀ a, G a = none) ∧ ∀ G', Q (.bl true) G'
theorem law_sp {S : Stc} {K : PySem.W.Frag} {n : Nat} (hS : S.tabs = []) {H : Hp} {a : Addr} {ns : List Int} (hl : ns.length ≤ n) (o : Only H) (hs : SqL K H a (ns.map V.int)) :
    upSp S K (LawPr n) [.ref a] H (fun v _ => v = .bl true) fun _ _ _ => False := by
  refine ⟨[.frl (ns.map T.int)], fun _ => none, fun t _ => t = .bl true, fun _ _ _ => False, ?_, ⟨fun a o e => absurd e (by simp), fun p hp => absurd hp (by simp [hS])⟩, ⟨ns, rfl, hl, fun _ => rfl, fun _ => rfl⟩, fun t G' v H' _ r _ e => ?_, fun _ _ _ _ _ _ _ _ _ z => z⟩
  · refine RTs.one ?_
    unfold RT
    refine ⟨a, ns.map V.int, rfl, ?_, RTs.ints ns⟩
    rcases hs with (h | h) | h
    · rcases o a with z | ⟨u, xs, z⟩
      · rw [h] at z
        cases z
      · rw [h] at z
        cases z
    · exact .inl h
    · exact .inr h
  · subst e
    unfold RT at r
    exact r
theorem cx_no {w : World} {P : Program} {H : Hp} {s : Shared} {e : Value} {s' : Shared} (h : L2.CX P w [] H s (fun _ _ _ => False) e s') : False := by
  obtain ⟨_, _, _, _, _, _, _, _, _, _, _, _, z⟩ := h
  exact z
end SK

set_option Elab.async false
set_option linter.all false
set_option maxRecDepth 100000
/-! SK12: the wp by rewriting. -/
namespace SK
open PySem PySem.Spec PyProof.Rows L2
/-- a thing that rewriting leaves as it is -/
inductive Frz {α : Sort u} (a : α) : Type
  | mk
def KB (P : Prop) (f : Frz P := .mk) : Prop := P
theorem KB.of {P : Prop} {f : Frz P} (h : P) : KB P f := h
theorem KBo {P : Prop} {f : Frz P} : KB P f = P := rfl
/-- both ways -/
def cnd (b : Bool) (A B : Prop) (f : Frz A := .mk) (g : Frz B := .mk) : Prop := if b = true then A else B
def PrB (sp : Pr) (ts : List T) (G : Gp) (Q : QT) (X : XT) (f : Frz Q := .mk) : Prop := sp ts G Q X
theorem PrB.of {sp : Pr} {ts : List T} {G : Gp} {Q : QT} {X : XT} {f : Frz Q} (h : sp ts G Q X) : PrB sp ts G Q X f := h
def forB (M : Gm) (st : Gp → Prop) (g : Tg) (body : Ss) (D : En) (xs : List T) (ss : Sl) (G : Gp) (f1 : Frz st := .mk) (f2 : Frz body := .mk) (f : Frz D := .mk) : Prop := forW st g (fun s2 G2 D2 => wpSs body M s2 G2 D2) D xs ss G
def lcB (M : Gm) (st : Gp → Prop) (g : Tg) (own : List Nat) (cond elt : E) (A : Addr) (xs : List T) (ss : Sl) (G : Gp) (Q : QT) (f : Frz Q := .mk) (f1 : Frz st := .mk) : Prop :=
  lcW st g own (fun s1 G2 Q2 => wpC M cond s1 G2 (fun _ _ _ => False) Q2) (fun s1 G2 Q2 => wpE M elt s1 G2 (fun _ _ _ => False) Q2) A ss Q xs G
def whlB (M : Gm) (c : E) (body : Ss) (D : En) (ss : Sl) (G : Gp) (f : Frz D := .mk) : Prop := whlW (fun s2 G2 X Q => wpE M c s2 G2 X Q) (fun s2 G2 D2 => wpSs body M s2 G2 D2) D ss G
def asB (x : T) (K : Bool → Prop) : Prop := ∃ b, x = .bl b ∧ K b
def asI (x : T) (K : Int → Prop) : Prop := ∃ i, x = .int i ∧ K i
def asT (x : T) (K : List T → Prop) : Prop := ∃ i, x = .tup i ∧ K i
def asS (x : T) (K : String → Prop) : Prop := ∃ i, x = .str i ∧ K i
def asR (x : T) (K : Addr → Prop) : Prop := ∃ i, x = .ref i ∧ K i
@[simp ↓] theorem asB1 {b : Bool} {K : Bool → Prop} : asB (.bl b) K = K b := by simp [asB]
@[simp ↓] theorem asI1 {b : Int} {K : Int → Prop} : asI (.int b) K = K b := by simp [asI]
@[simp ↓] theorem asT1 {b : List T} {K : List T → Prop} : asT (.tup b) K = K b := by simp [asT]
@[simp ↓] theorem asS1 {b : String} {K : String → Prop} : asS (.str b) K = K b := by simp [asS]
@[simp ↓] theorem asR1 {b : Addr} {K : Addr → Prop} : asR (.ref b) K = K b := by simp [asR]
theorem cnd_t {A B : Prop} {f : Frz A} {g : Frz B} : cnd true A B f g = A := if_pos rfl
theorem cnd_f {A B : Prop} {f : Frz A} {g : Frz B} : cnd false A B f g = B := if_neg Bool.false_ne_true
theorem cnd_dec {p : Prop} [Decidable p] {A B : Prop} {f : Frz A} {g : Frz B} (h1 : p → A) (h2 : ¬ p → B) : cnd (decide p) A B f g := by
  unfold cnd
  by_cases h : p
  · rw [if_pos (decide_eq_true h)]; exact h1 h
  · rw [if_neg (by simpa using h)]; exact h2 h
theorem cnd_of {b : Bool} {A B : Prop} {f : Frz A} {g : Frz B} (h1 : b = true → A) (h2 : b = false → B) : cnd b A B f g := by
  cases b
  · exact h2 rfl
  · exact h1 rfl

@[simp] theorem cndT {A B : Prop} {f : Frz A} {g : Frz B} : cnd true A B f g = A := cnd_t
@[simp] theorem cndF {A B : Prop} {f : Frz A} {g : Frz B} : cnd false A B f g = B := cnd_f
section
variable {M : Gm} {ss : Sl} {G : Gp} {D : En} {X : XT} {Q : QT} {QL : List T → Gp → Prop} {QO : Option Int → Gp → Prop} {R : Sq → Gp → Prop}
theorem asiEq {M : Gm} {ss : Sl} {G : Gp} {D : En} {o i e : E} : wpS (.asi o i e) M ss G D = wpE M e ss G (D.ex ss) fun x G1 => wpE M o ss G1 (D.ex ss) fun y G2 => wpE M i ss G2 (D.ex ss) fun z G3 => asR y fun a => asI z fun k => ∃ xs, G3 a = some (.lst xs) ∧ ∃ j, ixN xs.length k = some j ∧ KB (D.nx ss (gu G3 a (.lst (xs.set j x)))) := by
  show (wpE M e ss G (D.ex ss) fun x G1 => wpE M o ss G1 (D.ex ss) fun y G2 => wpE M i ss G2 (D.ex ss) fun z G3 => ∃ a xs k j, y = .ref a ∧ z = .int k ∧ G3 a = some (.lst xs) ∧ ixN xs.length k = some j ∧ D.nx ss (gu G3 a (.lst (xs.set j x)))) = _
  congr; funext x G1; congr; funext y G2; congr; funext z G3
  exact propext ⟨fun ⟨a, xs, k, j, h1, h2, h3, h4, h5⟩ => ⟨a, h1, k, h2, xs, h3, j, h4, h5⟩, fun ⟨a, h1, k, h2, xs, h3, j, h4, h5⟩ => ⟨a, xs, k, j, h1, h2, h3, h4, h5⟩⟩
theorem asdEq {M : Gm} {ss : Sl} {G : Gp} {D : En} {o i e : E} : wpS (.asd o i e) M ss G D = wpE M e ss G (D.ex ss) fun x G1 => wpE M o ss G1 (D.ex ss) fun y G2 => wpE M i ss G2 (D.ex ss) fun z G3 => asR y fun a => ∃ k, keyT z = some k ∧ ∃ kvs, G3 a = some (.dct kvs) ∧ kvs.length < line ∧ KB (D.nx ss (gu G3 a (.dct (dPut kvs k x)))) := by
  show (wpE M e ss G (D.ex ss) fun x G1 => wpE M o ss G1 (D.ex ss) fun y G2 => wpE M i ss G2 (D.ex ss) fun z G3 => ∃ a kvs k, y = .ref a ∧ keyT z = some k ∧ G3 a = some (.dct kvs) ∧ kvs.length < line ∧ D.nx ss (gu G3 a (.dct (dPut kvs k x)))) = _
  congr; funext x G1; congr; funext y G2; congr; funext z G3
  exact propext ⟨fun ⟨a, kvs, k, h1, h2, h3, h4, h5⟩ => ⟨a, h1, k, h2, kvs, h3, h4, h5⟩, fun ⟨a, h1, k, h2, kvs, h3, h4, h5⟩ => ⟨a, kvs, k, h1, h2, h3, h4, h5⟩⟩
theorem dxEq {a : Addr} {y : T} {G : Gp} {Q : QT} : dxW (.ref a) y G Q = ∃ k, keyT y = some k ∧ ∃ kvs, G a = some (.dct kvs) ∧ ∃ v, dGet kvs k = some v ∧ KB (Q v G) :=
  propext ⟨fun ⟨kvs, k, v, h1, h2, h3, h4⟩ => ⟨k, h2, kvs, h1, v, h3, h4⟩, fun ⟨k, h2, kvs, h1, v, h3, h4⟩ => ⟨kvs, k, v, h1, h2, h3, h4⟩⟩
theorem getEq {a : Addr} {x y : T} {G : Gp} {Q : QT} : bmW .get (.ref a) [x, y] G Q = ∃ k, keyT x = some k ∧ ∃ kvs, G a = some (.dct kvs) ∧ KB (Q ((dGet kvs k).getD y) G) :=
  propext ⟨fun ⟨kvs, k, h1, h2, h4⟩ => ⟨k, h2, kvs, h1, h4⟩, fun ⟨k, h2, kvs, h1, h4⟩ => ⟨kvs, k, h1, h2, h4⟩⟩
@[simp ↓] theorem Wnil  : wpSs .nil M ss G D = D.nx ss G := propext Iff.rfl
@[simp ↓] theorem Wcons {s : SK.S} {r : Ss} : wpSs (.cons s r) M ss G D = wpS s M ss G ⟨fun s1 G1 => wpSs r M s1 G1 D, D.rt, D.bk, D.ct, D.ex⟩ := propext Iff.rfl
@[simp ↓] theorem Wasg {i : Nat} {e : E} : wpS (.asg i e) M ss G D = wpE M e ss G (D.ex ss) fun x G1 => D.nx (ss.set i (some x)) G1 := propext Iff.rfl
@[simp ↓] theorem Wast {is : List Nat} {e : E} : wpS (.ast is e) M ss G D = wpE M e ss G (D.ex ss) fun x G1 => tgW (.tp is) x ss fun s1 => D.nx s1 G1 := propext Iff.rfl
@[simp ↓] theorem Wasf {o e : E} {f : String} : wpS (.asf o f e) M ss G D = wpE M e ss G (D.ex ss) fun x G1 => wpE M o ss G1 (D.ex ss) fun y G2 => asR y fun a => ∃ C fs, G2 a = some (.ins C fs) ∧ fs.length < 1000 ∧ M.fld C f = true ∧ KB (D.nx ss (gu G2 a (.ins C (fPut f x fs)))) := by simp [wpS, asR, KB]
@[simp ↓] theorem Wasi {o i e : E} : wpS (.asi o i e) M ss G D = wpE M e ss G (D.ex ss) fun x G1 => wpE M o ss G1 (D.ex ss) fun y G2 => wpE M i ss G2 (D.ex ss) fun z G3 => asR y fun a => asI z fun k => ∃ xs, G3 a = some (.lst xs) ∧ ∃ j, ixN xs.length k = some j ∧ KB (D.nx ss (gu G3 a (.lst (xs.set j x)))) := asiEq
@[simp ↓] theorem Wasd {o i e : E} : wpS (.asd o i e) M ss G D = wpE M e ss G (D.ex ss) fun x G1 => wpE M o ss G1 (D.ex ss) fun y G2 => wpE M i ss G2 (D.ex ss) fun z G3 => asR y fun a => ∃ k, keyT z = some k ∧ ∃ kvs, G3 a = some (.dct kvs) ∧ kvs.length < line ∧ KB (D.nx ss (gu G3 a (.dct (dPut kvs k x)))) := asdEq
@[simp ↓] theorem Wex {e : E} : wpS (.ex e) M ss G D = wpE M e ss G (D.ex ss) fun _ G1 => D.nx ss G1 := propext Iff.rfl
@[simp ↓] theorem Wret {e : E} : wpS (.ret e) M ss G D = wpE M e ss G (D.ex ss) D.rt := propext Iff.rfl
@[simp ↓] theorem Wretn  : wpS .retn M ss G D = D.rt .non G := propext Iff.rfl
@[simp ↓] theorem Wpass  : wpS .pass M ss G D = D.nx ss G := propext Iff.rfl
@[simp ↓] theorem Wite {c : E} {a b : Ss} : wpS (.ite c a b) M ss G D = wpE M c ss G (D.ex ss) fun x G1 => asB x fun k => cnd k (wpSs a M ss G1 D) (wpSs b M ss G1 D) := propext Iff.rfl
@[simp ↓] theorem Wfor {g : Tg} {it : It} {body : Ss} : wpS (.for_ g it body) M ss G D = wpI M it ss G (D.ex ss) fun J G1 => forB M J.stay g body D J.items ss G1 := propext Iff.rfl
@[simp ↓] theorem Wwhl {c : E} {body : Ss} : wpS (.whl c body) M ss G D = whlB M c body D ss G := propext Iff.rfl
@[simp ↓] theorem Wvar0 {t : T} {r : Sl} : wpE M (.var 0) (some t :: r) G X Q = Q t G := by simp [wpE]
@[simp ↓] theorem Wovar0 {t : T} {r : Sl} : wpO M (.var 0) (some t :: r) G X QO = asI t fun j => QO (some j) G := by simp [wpO, asI]
@[simp ↓] theorem Wcvar0 {t : T} {r : Sl} : wpC M (.var 0) (some t :: r) G X Q = Q t G := by simp [wpC]
@[simp ↓] theorem Sset0 {y z : Option T} {r : Sl} : List.set (y :: r) 0 z = z :: r := rfl
@[simp ↓] theorem Wvar1 {t : T} {r : Sl} {x0 : Option T} : wpE M (.var 1) (x0 :: some t :: r) G X Q = Q t G := by simp [wpE]
@[simp ↓] theorem Wovar1 {t : T} {r : Sl} {x0 : Option T} : wpO M (.var 1) (x0 :: some t :: r) G X QO = asI t fun j => QO (some j) G := by simp [wpO, asI]
@[simp ↓] theorem Wcvar1 {t : T} {r : Sl} {x0 : Option T} : wpC M (.var 1) (x0 :: some t :: r) G X Q = Q t G := by simp [wpC]
@[simp ↓] theorem Sset1 {y z : Option T} {r : Sl} {x0 : Option T} : List.set (x0 :: y :: r) 1 z = x0 :: z :: r := rfl
@[simp ↓] theorem Wvar2 {t : T} {r : Sl} {x0 x1 : Option T} : wpE M (.var 2) (x0 :: x1 :: some t :: r) G X Q = Q t G := by simp [wpE]
@[simp ↓] theorem Wovar2 {t : T} {r : Sl} {x0 x1 : Option T} : wpO M (.var 2) (x0 :: x1 :: some t :: r) G X QO = asI t fun j => QO (some j) G := by simp [wpO, asI]
@[simp ↓] theorem Wcvar2 {t : T} {r : Sl} {x0 x1 : Option T} : wpC M (.var 2) (x0 :: x1 :: some t :: r) G X Q = Q t G := by simp [wpC]
@[simp ↓] theorem Sset2 {y z : Option T} {r : Sl} {x0 x1 : Option T} : List.set (x0 :: x1 :: y :: r) 2 z = x0 :: x1 :: z :: r := rfl
@[simp ↓] theorem Wvar3 {t : T} {r : Sl} {x0 x1 x2 : Option T} : wpE M (.var 3) (x0 :: x1 :: x2 :: some t :: r) G X Q = Q t G := by simp [wpE]
@[simp ↓] theorem Wovar3 {t : T} {r : Sl} {x0 x1 x2 : Option T} : wpO M (.var 3) (x0 :: x1 :: x2 :: some t :: r) G X QO = asI t fun j => QO (some j) G := by simp [wpO, asI]
@[simp ↓] theorem Wcvar3 {t : T} {r : Sl} {x0 x1 x2 : Option T} : wpC M (.var 3) (x0 :: x1 :: x2 :: some t :: r) G X Q = Q t G := by simp [wpC]
@[simp ↓] theorem Sset3 {y z : Option T} {r : Sl} {x0 x1 x2 : Option T} : List.set (x0 :: x1 :: x2 :: y :: r) 3 z = x0 :: x1 :: x2 :: z :: r := rfl
@[simp ↓] theorem Wvar4 {t : T} {r : Sl} {x0 x1 x2 x3 : Option T} : wpE M (.var 4) (x0 :: x1 :: x2 :: x3 :: some t :: r) G X Q = Q t G := by simp [wpE]
@[simp ↓] theorem Wovar4 {t : T} {r : Sl} {x0 x1 x2 x3 : Option T} : wpO M (.var 4) (x0 :: x1 :: x2 :: x3 :: some t :: r) G X QO = asI t fun j => QO (some j) G := by simp [wpO, asI]
@[simp ↓] theorem Wcvar4 {t : T} {r : Sl} {x0 x1 x2 x3 : Option T} : wpC M (.var 4) (x0 :: x1 :: x2 :: x3 :: some t :: r) G X Q = Q t G := by simp [wpC]
@[simp ↓] theorem Sset4 {y z : Option T} {r : Sl} {x0 x1 x2 x3 : Option T} : List.set (x0 :: x1 :: x2 :: x3 :: y :: r) 4 z = x0 :: x1 :: x2 :: x3 :: z :: r := rfl
@[simp ↓] theorem Wvar5 {t : T} {r : Sl} {x0 x1 x2 x3 x4 : Option T} : wpE M (.var 5) (x0 :: x1 :: x2 :: x3 :: x4 :: some t :: r) G X Q = Q t G := by simp [wpE]
@[simp ↓] theorem Wovar5 {t : T} {r : Sl} {x0 x1 x2 x3 x4 : Option T} : wpO M (.var 5) (x0 :: x1 :: x2 :: x3 :: x4 :: some t :: r) G X QO = asI t fun j => QO (some j) G := by simp [wpO, asI]
@[simp ↓] theorem Wcvar5 {t : T} {r : Sl} {x0 x1 x2 x3 x4 : Option T} : wpC M (.var 5) (x0 :: x1 :: x2 :: x3 :: x4 :: some t :: r) G X Q = Q t G := by simp [wpC]
@[simp ↓] theorem Sset5 {y z : Option T} {r : Sl} {x0 x1 x2 x3 x4 : Option T} : List.set (x0 :: x1 :: x2 :: x3 :: x4 :: y :: r) 5 z = x0 :: x1 :: x2 :: x3 :: x4 :: z :: r := rfl
@[simp ↓] theorem Wvar6 {t : T} {r : Sl} {x0 x1 x2 x3 x4 x5 : Option T} : wpE M (.var 6) (x0 :: x1 :: x2 :: x3 :: x4 :: x5 :: some t :: r) G X Q = Q t G := by simp [wpE]
@[simp ↓] theorem Wovar6 {t : T} {r : Sl} {x0 x1 x2 x3 x4 x5 : Option T} : wpO M (.var 6) (x0 :: x1 :: x2 :: x3 :: x4 :: x5 :: some t :: r) G X QO = asI t fun j => QO (some j) G := by simp [wpO, asI]
@[simp ↓] theorem Wcvar6 {t : T} {r : Sl} {x0 x1 x2 x3 x4 x5 : Option T} : wpC M (.var 6) (x0 :: x1 :: x2 :: x3 :: x4 :: x5 :: some t :: r) G X Q = Q t G := by simp [wpC]
@[simp ↓] theorem Sset6 {y z : Option T} {r : Sl} {x0 x1 x2 x3 x4 x5 : Option T} : List.set (x0 :: x1 :: x2 :: x3 :: x4 :: x5 :: y :: r) 6 z = x0 :: x1 :: x2 :: x3 :: x4 :: x5 :: z :: r := rfl
@[simp ↓] theorem Wvar7 {t : T} {r : Sl} {x0 x1 x2 x3 x4 x5 x6 : Option T} : wpE M (.var 7) (x0 :: x1 :: x2 :: x3 :: x4 :: x5 :: x6 :: some t :: r) G X Q = Q t G := by simp [wpE]
@[simp ↓] theorem Wovar7 {t : T} {r : Sl} {x0 x1 x2 x3 x4 x5 x6 : Option T} : wpO M (.var 7) (x0 :: x1 :: x2 :: x3 :: x4 :: x5 :: x6 :: some t :: r) G X QO = asI t fun j => QO (some j) G := by simp [wpO, asI]
@[simp ↓] theorem Wcvar7 {t : T} {r : Sl} {x0 x1 x2 x3 x4 x5 x6 : Option T} : wpC M (.var 7) (x0 :: x1 :: x2 :: x3 :: x4 :: x5 :: x6 :: some t :: r) G X Q = Q t G := by simp [wpC]
@[simp ↓] theorem Sset7 {y z : Option T} {r : Sl} {x0 x1 x2 x3 x4 x5 x6 : Option T} : List.set (x0 :: x1 :: x2 :: x3 :: x4 :: x5 :: x6 :: y :: r) 7 z = x0 :: x1 :: x2 :: x3 :: x4 :: x5 :: x6 :: z :: r := rfl
@[simp ↓] theorem Wvar8 {t : T} {r : Sl} {x0 x1 x2 x3 x4 x5 x6 x7 : Option T} : wpE M (.var 8) (x0 :: x1 :: x2 :: x3 :: x4 :: x5 :: x6 :: x7 :: some t :: r) G X Q = Q t G := by simp [wpE]
@[simp ↓] theorem Wovar8 {t : T} {r : Sl} {x0 x1 x2 x3 x4 x5 x6 x7 : Option T} : wpO M (.var 8) (x0 :: x1 :: x2 :: x3 :: x4 :: x5 :: x6 :: x7 :: some t :: r) G X QO = asI t fun j => QO (some j) G := by simp [wpO, asI]
@[simp ↓] theorem Wcvar8 {t : T} {r : Sl} {x0 x1 x2 x3 x4 x5 x6 x7 : Option T} : wpC M (.var 8) (x0 :: x1 :: x2 :: x3 :: x4 :: x5 :: x6 :: x7 :: some t :: r) G X Q = Q t G := by simp [wpC]
@[simp ↓] theorem Sset8 {y z : Option T} {r : Sl} {x0 x1 x2 x3 x4 x5 x6 x7 : Option T} : List.set (x0 :: x1 :: x2 :: x3 :: x4 :: x5 :: x6 :: x7 :: y :: r) 8 z = x0 :: x1 :: x2 :: x3 :: x4 :: x5 :: x6 :: x7 :: z :: r := rfl
@[simp ↓] theorem Wvar9 {t : T} {r : Sl} {x0 x1 x2 x3 x4 x5 x6 x7 x8 : Option T} : wpE M (.var 9) (x0 :: x1 :: x2 :: x3 :: x4 :: x5 :: x6 :: x7 :: x8 :: some t :: r) G X Q = Q t G := by simp [wpE]
@[simp ↓] theorem Wovar9 {t : T} {r : Sl} {x0 x1 x2 x3 x4 x5 x6 x7 x8 : Option T} : wpO M (.var 9) (x0 :: x1 :: x2 :: x3 :: x4 :: x5 :: x6 :: x7 :: x8 :: some t :: r) G X QO = asI t fun j => QO (some j) G := by simp [wpO, asI]
@[simp ↓] theorem Wcvar9 {t : T} {r : Sl} {x0 x1 x2 x3 x4 x5 x6 x7 x8 : Option T} : wpC M (.var 9) (x0 :: x1 :: x2 :: x3 :: x4 :: x5 :: x6 :: x7 :: x8 :: some t :: r) G X Q = Q t G := by simp [wpC]
@[simp ↓] theorem Sset9 {y z : Option T} {r : Sl} {x0 x1 x2 x3 x4 x5 x6 x7 x8 : Option T} : List.set (x0 :: x1 :: x2 :: x3 :: x4 :: x5 :: x6 :: x7 :: x8 :: y :: r) 9 z = x0 :: x1 :: x2 :: x3 :: x4 :: x5 :: x6 :: x7 :: x8 :: z :: r := rfl
@[simp ↓] theorem Wvar10 {t : T} {r : Sl} {x0 x1 x2 x3 x4 x5 x6 x7 x8 x9 : Option T} : wpE M (.var 10) (x0 :: x1 :: x2 :: x3 :: x4 :: x5 :: x6 :: x7 :: x8 :: x9 :: some t :: r) G X Q = Q t G := by simp [wpE]
@[simp ↓] theorem Wovar10 {t : T} {r : Sl} {x0 x1 x2 x3 x4 x5 x6 x7 x8 x9 : Option T} : wpO M (.var 10) (x0 :: x1 :: x2 :: x3 :: x4 :: x5 :: x6 :: x7 :: x8 :: x9 :: some t :: r) G X QO = asI t fun j => QO (some j) G := by simp [wpO, asI]
@[simp ↓] theorem Wcvar10 {t : T} {r : Sl} {x0 x1 x2 x3 x4 x5 x6 x7 x8 x9 : Option T} : wpC M (.var 10) (x0 :: x1 :: x2 :: x3 :: x4 :: x5 :: x6 :: x7 :: x8 :: x9 :: some t :: r) G X Q = Q t G := by simp [wpC]
@[simp ↓] theorem Sset10 {y z : Option T} {r : Sl} {x0 x1 x2 x3 x4 x5 x6 x7 x8 x9 : Option T} : List.set (x0 :: x1 :: x2 :: x3 :: x4 :: x5 :: x6 :: x7 :: x8 :: x9 :: y :: r) 10 z = x0 :: x1 :: x2 :: x3 :: x4 :: x5 :: x6 :: x7 :: x8 :: x9 :: z :: r := rfl
@[simp ↓] theorem Wvar11 {t : T} {r : Sl} {x0 x1 x2 x3 x4 x5 x6 x7 x8 x9 x10 : Option T} : wpE M (.var 11) (x0 :: x1 :: x2 :: x3 :: x4 :: x5 :: x6 :: x7 :: x8 :: x9 :: x10 :: some t :: r) G X Q = Q t G := by simp [wpE]
@[simp ↓] theorem Wovar11 {t : T} {r : Sl} {x0 x1 x2 x3 x4 x5 x6 x7 x8 x9 x10 : Option T} : wpO M (.var 11) (x0 :: x1 :: x2 :: x3 :: x4 :: x5 :: x6 :: x7 :: x8 :: x9 :: x10 :: some t :: r) G X QO = asI t fun j => QO (some j) G := by simp [wpO, asI]
@[simp ↓] theorem Wcvar11 {t : T} {r : Sl} {x0 x1 x2 x3 x4 x5 x6 x7 x8 x9 x10 : Option T} : wpC M (.var 11) (x0 :: x1 :: x2 :: x3 :: x4 :: x5 :: x6 :: x7 :: x8 :: x9 :: x10 :: some t :: r) G X Q = Q t G := by simp [wpC]
@[simp ↓] theorem Sset11 {y z : Option T} {r : Sl} {x0 x1 x2 x3 x4 x5 x6 x7 x8 x9 x10 : Option T} : List.set (x0 :: x1 :: x2 :: x3 :: x4 :: x5 :: x6 :: x7 :: x8 :: x9 :: x10 :: y :: r) 11 z = x0 :: x1 :: x2 :: x3 :: x4 :: x5 :: x6 :: x7 :: x8 :: x9 :: x10 :: z :: r := rfl
@[simp ↓] theorem Wvar12 {t : T} {r : Sl} {x0 x1 x2 x3 x4 x5 x6 x7 x8 x9 x10 x11 : Option T} : wpE M (.var 12) (x0 :: x1 :: x2 :: x3 :: x4 :: x5 :: x6 :: x7 :: x8 :: x9 :: x10 :: x11 :: some t :: r) G X Q = Q t G := by simp [wpE]
@[simp ↓] theorem Wovar12 {t : T} {r : Sl} {x0 x1 x2 x3 x4 x5 x6 x7 x8 x9 x10 x11 : Option T} : wpO M (.var 12) (x0 :: x1 :: x2 :: x3 :: x4 :: x5 :: x6 :: x7 :: x8 :: x9 :: x10 :: x11 :: some t :: r) G X QO = asI t fun j => QO (some j) G := by simp [wpO, asI]
@[simp ↓] theorem Wcvar12 {t : T} {r : Sl} {x0 x1 x2 x3 x4 x5 x6 x7 x8 x9 x10 x11 : Option T} : wpC M (.var 12) (x0 :: x1 :: x2 :: x3 :: x4 :: x5 :: x6 :: x7 :: x8 :: x9 :: x10 :: x11 :: some t :: r) G X Q = Q t G := by simp [wpC]
@[simp ↓] theorem Sset12 {y z : Option T} {r : Sl} {x0 x1 x2 x3 x4 x5 x6 x7 x8 x9 x10 x11 : Option T} : List.set (x0 :: x1 :: x2 :: x3 :: x4 :: x5 :: x6 :: x7 :: x8 :: x9 :: x10 :: x11 :: y :: r) 12 z = x0 :: x1 :: x2 :: x3 :: x4 :: x5 :: x6 :: x7 :: x8 :: x9 :: x10 :: x11 :: z :: r := rfl
@[simp ↓] theorem Wvar13 {t : T} {r : Sl} {x0 x1 x2 x3 x4 x5 x6 x7 x8 x9 x10 x11 x12 : Option T} : wpE M (.var 13) (x0 :: x1 :: x2 :: x3 :: x4 :: x5 :: x6 :: x7 :: x8 :: x9 :: x10 :: x11 :: x12 :: some t :: r) G X Q = Q t G := by simp [wpE]
@[simp ↓] theorem Wovar13 {t : T} {r : Sl} {x0 x1 x2 x3 x4 x5 x6 x7 x8 x9 x10 x11 x12 : Option T} : wpO M (.var 13) (x0 :: x1 :: x2 :: x3 :: x4 :: x5 :: x6 :: x7 :: x8 :: x9 :: x10 :: x11 :: x12 :: some t :: r) G X QO = asI t fun j => QO (some j) G := by simp [wpO, asI]
@[simp ↓] theorem Wcvar13 {t : T} {r : Sl} {x0 x1 x2 x3 x4 x5 x6 x7 x8 x9 x10 x11 x12 : Option T} : wpC M (.var 13) (x0 :: x1 :: x2 :: x3 :: x4 :: x5 :: x6 :: x7 :: x8 :: x9 :: x10 :: x11 :: x12 :: some t :: r) G X Q = Q t G := by simp [wpC]
@[simp ↓] theorem Sset13 {y z : Option T} {r : Sl} {x0 x1 x2 x3 x4 x5 x6 x7 x8 x9 x10 x11 x12 : Option T} : List.set (x0 :: x1 :: x2 :: x3 :: x4 :: x5 :: x6 :: x7 :: x8 :: x9 :: x10 :: x11 :: x12 :: y :: r) 13 z = x0 :: x1 :: x2 :: x3 :: x4 :: x5 :: x6 :: x7 :: x8 :: x9 :: x10 :: x11 :: x12 :: z :: r := rfl
@[simp ↓] theorem Wvar14 {t : T} {r : Sl} {x0 x1 x2 x3 x4 x5 x6 x7 x8 x9 x10 x11 x12 x13 : Option T} : wpE M (.var 14) (x0 :: x1 :: x2 :: x3 :: x4 :: x5 :: x6 :: x7 :: x8 :: x9 :: x10 :: x11 :: x12 :: x13 :: some t :: r) G X Q = Q t G := by simp [wpE]
@[simp ↓] theorem Wovar14 {t : T} {r : Sl} {x0 x1 x2 x3 x4 x5 x6 x7 x8 x9 x10 x11 x12 x13 : Option T} : wpO M (.var 14) (x0 :: x1 :: x2 :: x3 :: x4 :: x5 :: x6 :: x7 :: x8 :: x9 :: x10 :: x11 :: x12 :: x13 :: some t :: r) G X QO = asI t fun j => QO (some j) G := by simp [wpO, asI]
@[simp ↓] theorem Wcvar14 {t : T} {r : Sl} {x0 x1 x2 x3 x4 x5 x6 x7 x8 x9 x10 x11 x12 x13 : Option T} : wpC M (.var 14) (x0 :: x1 :: x2 :: x3 :: x4 :: x5 :: x6 :: x7 :: x8 :: x9 :: x10 :: x11 :: x12 :: x13 :: some t :: r) G X Q = Q t G := by simp [wpC]
@[simp ↓] theorem Sset14 {y z : Option T} {r : Sl} {x0 x1 x2 x3 x4 x5 x6 x7 x8 x9 x10 x11 x12 x13 : Option T} : List.set (x0 :: x1 :: x2 :: x3 :: x4 :: x5 :: x6 :: x7 :: x8 :: x9 :: x10 :: x11 :: x12 :: x13 :: y :: r) 14 z = x0 :: x1 :: x2 :: x3 :: x4 :: x5 :: x6 :: x7 :: x8 :: x9 :: x10 :: x11 :: x12 :: x13 :: z :: r := rfl
@[simp ↓] theorem Wvar15 {t : T} {r : Sl} {x0 x1 x2 x3 x4 x5 x6 x7 x8 x9 x10 x11 x12 x13 x14 : Option T} : wpE M (.var 15) (x0 :: x1 :: x2 :: x3 :: x4 :: x5 :: x6 :: x7 :: x8 :: x9 :: x10 :: x11 :: x12 :: x13 :: x14 :: some t :: r) G X Q = Q t G := by simp [wpE]
@[simp ↓] theorem Wovar15 {t : T} {r : Sl} {x0 x1 x2 x3 x4 x5 x6 x7 x8 x9 x10 x11 x12 x13 x14 : Option T} : wpO M (.var 15) (x0 :: x1 :: x2 :: x3 :: x4 :: x5 :: x6 :: x7 :: x8 :: x9 :: x10 :: x11 :: x12 :: x13 :: x14 :: some t :: r) G X QO = asI t fun j => QO (some j) G := by simp [wpO, asI]
@[simp ↓] theorem Wcvar15 {t : T} {r : Sl} {x0 x1 x2 x3 x4 x5 x6 x7 x8 x9 x10 x11 x12 x13 x14 : Option T} : wpC M (.var 15) (x0 :: x1 :: x2 :: x3 :: x4 :: x5 :: x6 :: x7 :: x8 :: x9 :: x10 :: x11 :: x12 :: x13 :: x14 :: some t :: r) G X Q = Q t G := by simp [wpC]
@[simp ↓] theorem Sset15 {y z : Option T} {r : Sl} {x0 x1 x2 x3 x4 x5 x6 x7 x8 x9 x10 x11 x12 x13 x14 : Option T} : List.set (x0 :: x1 :: x2 :: x3 :: x4 :: x5 :: x6 :: x7 :: x8 :: x9 :: x10 :: x11 :: x12 :: x13 :: x14 :: y :: r) 15 z = x0 :: x1 :: x2 :: x3 :: x4 :: x5 :: x6 :: x7 :: x8 :: x9 :: x10 :: x11 :: x12 :: x13 :: x14 :: z :: r := rfl
@[simp ↓] theorem Wkc {t : T} : wpE M (.kc t) ss G X Q = Q t G := propext Iff.rfl
@[simp ↓] theorem Wgl {x : String} : wpE M (.gl x) ss G X Q = ∃ t, M.cst x = some t ∧ KB (Q t G) := propext Iff.rfl
@[simp ↓] theorem Wtup {es : Es} : wpE M (.tup es) ss G X Q = wpEs M es ss G X fun ts G1 => Q (.tup ts) G1 := propext Iff.rfl
@[simp ↓] theorem Wlst {es : Es} : wpE M (.lst es) ss G X Q = wpEs M es ss G X fun ts G1 => ∀ p, G1 p = none → KB (Q (.ref p) (gu G1 p (.lst ts))) := propext Iff.rfl
@[simp ↓] theorem Wdct {ks : List String} {es : Es} : wpE M (.dct ks es) ss G X Q = ∀ p, G p = none → wpEs M es ss (gu G p (.dct [])) X fun ts G1 => G1 p = some (.dct []) ∧ ts.length = ks.length ∧ Q (.ref p) (gu G1 p (.dct ((ks.map Sum.inr).zip ts))) := propext Iff.rfl
@[simp ↓] theorem Wbin {o : Op} {a b : E} : wpE M (.bin o a b) ss G X Q = wpE M a ss G X fun x G1 => wpE M b ss G1 X fun y G2 => binW o x y G2 Q := propext Iff.rfl
@[simp ↓] theorem Wneg {a : E} : wpE M (.neg a) ss G X Q = wpE M a ss G X fun x G1 => asI x fun i => Q (.int (-i)) G1 := propext Iff.rfl
@[simp ↓] theorem Wcmp {o : Cp} {a b : E} : wpE M (.cmp o a b) ss G X Q = wpE M a ss G X fun x G1 => wpE M b ss G1 X fun y G2 => cmpW o x y G2 Q := propext Iff.rfl
@[simp ↓] theorem Wccmp {o : Cp} {a b : E} : wpC M (.cmp o a b) ss G X Q = wpE M a ss G X fun x G1 => wpE M b ss G1 X fun y G2 => cmpW o x y G2 Q := propext Iff.rfl
@[simp ↓] theorem Wcno  : wpC M .no ss G X Q = Q (.bl true) G := propext Iff.rfl
@[simp ↓] theorem Wcisi {a : E} {ty : Ty} : wpC M (.isi a ty) ss G X Q = wpE M a ss G X fun x G1 => isiW ty x G1 Q := propext Iff.rfl
@[simp ↓] theorem Wland {es : Es} : wpE M (.land es) ss G X Q = wpAnd M es ss G X Q := propext Iff.rfl
@[simp ↓] theorem Wlor {es : Es} : wpE M (.lor es) ss G X Q = wpOr M es ss G X Q := propext Iff.rfl
@[simp ↓] theorem Wand1 {e : E} : wpAnd M (.cons e .nil) ss G X Q = wpE M e ss G X Q := propext Iff.rfl
@[simp ↓] theorem Wand2 {e f : E} {r : Es} : wpAnd M (.cons e (.cons f r)) ss G X Q = wpE M e ss G X fun x G1 => asB x fun b => cnd b (wpAnd M (.cons f r) ss G1 X Q) (Q (.bl false) G1) := propext Iff.rfl
@[simp ↓] theorem Wor1 {e : E} : wpOr M (.cons e .nil) ss G X Q = wpE M e ss G X Q := propext Iff.rfl
@[simp ↓] theorem Wor2 {e f : E} {r : Es} : wpOr M (.cons e (.cons f r)) ss G X Q = wpE M e ss G X fun x G1 => asB x fun b => cnd b (Q (.bl true) G1) (wpOr M (.cons f r) ss G1 X Q) := propext Iff.rfl
@[simp ↓] theorem Wnot {a : E} : wpE M (.lnot a) ss G X Q = wpE M a ss G X fun x G1 => asB x fun b => Q (.bl (!b)) G1 := propext Iff.rfl
@[simp ↓] theorem Wife {c a b : E} : wpE M (.ife c a b) ss G X Q = wpE M c ss G X fun x G1 => asB x fun k => cnd k (wpE M a ss G1 X Q) (wpE M b ss G1 X Q) := propext Iff.rfl
@[simp ↓] theorem Wix {a i : E} : wpE M (.ix a i) ss G X Q = wpE M a ss G X fun x G1 => wpE M i ss G1 X fun y G2 => ixW x y G2 Q := propext Iff.rfl
@[simp ↓] theorem Wdx {a i : E} : wpE M (.dx a i) ss G X Q = wpE M a ss G X fun x G1 => wpE M i ss G1 X fun y G2 => dxW x y G2 Q := propext Iff.rfl
@[simp ↓] theorem Wsl {a lo hi : E} : wpE M (.sl a lo hi) ss G X Q = wpE M a ss G X fun x G1 => wpO M lo ss G1 X fun l G2 => wpO M hi ss G2 X fun h G3 => slW x l h G3 Q := propext Iff.rfl
@[simp ↓] theorem Wfld {a : E} {f : String} : wpE M (.fld a f) ss G X Q = wpE M a ss G X fun x G1 => fldW f x G1 Q := propext Iff.rfl
theorem Wcall {sp : Pr} {f : String} {es : Es} (h : M.fn "" f = some sp) : wpE M (.call f es) ss G X Q = wpEs M es ss G X fun ts G1 => PrB sp ts G1 Q X := by
  show (∃ sp, M.fn "" f = some sp ∧ _) = _
  rw [h]
  simp [PrB]
@[simp ↓] theorem Wbi {f : Bi} {es : Es} : wpE M (.bi f es) ss G X Q = wpEs M es ss G X fun ts G1 => biW f ts G1 Q := propext Iff.rfl
@[simp ↓] theorem Wbm {a : E} {m : Bm} {es : Es} : wpE M (.bm a m es) ss G X Q = wpE M a ss G X fun x G1 => bmT m x G1 ∧ wpEs M es ss G1 X fun ts G2 => bmW m x ts G2 Q := propext Iff.rfl
@[simp ↓] theorem Wisi {a : E} {ty : Ty} : wpE M (.isi a ty) ss G X Q = wpE M a ss G X fun x G1 => isiW ty x G1 Q := propext Iff.rfl
@[simp ↓] theorem Wlc {elt cond : E} {own : List Nat} {g : Tg} {it : It} : wpE M (.lc elt own g it cond) ss G X Q = wpI M it ss G X fun J G1 => ∀ A, G1 A = none → lcB M J.stay g own cond elt A J.items ss (gu G1 A (.lst [])) Q := propext Iff.rfl
@[simp ↓] theorem Wono  : wpO M .no ss G X QO = QO none G := propext Iff.rfl
@[simp ↓] theorem Wokc {j : Int} : wpO M (.kc (.int j)) ss G X QO = QO (some j) G := by simp [wpO]
@[simp ↓] theorem Woneg {a : E} : wpO M (.neg a) ss G X QO = wpE M a ss G X fun x G1 => asI x fun i => QO (some (-i)) G1 := by simp [wpO, asI]
@[simp ↓] theorem Wobin {o : Op} {a b : E} : wpO M (.bin o a b) ss G X QO = wpE M a ss G X fun x G1 => wpE M b ss G1 X fun y G2 => binW o x y G2 fun z G3 => asI z fun j => QO (some j) G3 := propext Iff.rfl
@[simp ↓] theorem Woix {a b : E} : wpO M (.ix a b) ss G X QO = wpE M a ss G X fun x G1 => wpE M b ss G1 X fun y G2 => ixW x y G2 fun z G3 => asI z fun j => QO (some j) G3 := propext Iff.rfl
@[simp ↓] theorem Wenil  : wpEs M .nil ss G X QL = QL [] G := propext Iff.rfl
@[simp ↓] theorem Wecons {e : E} {r : Es} : wpEs M (.cons e r) ss G X QL = wpE M e ss G X fun x G1 => wpEs M r ss G1 X fun xs G2 => QL (x :: xs) G2 := propext Iff.rfl
@[simp ↓] theorem Witup {e : E} : wpI M (.tup e) ss G X R = wpE M e ss G X fun x G1 => asT x fun xs => R (.fix xs) G1 := propext Iff.rfl
@[simp ↓] theorem Wilst {e : E} : wpI M (.lst e) ss G X R = wpE M e ss G X fun x G1 => asR x fun a => ∃ xs, G1 a = some (.lst xs) ∧ KB (R (.at_ a xs) G1) := by simp [wpI, asR, KB]
@[simp ↓] theorem Wistr {e : E} : wpI M (.str e) ss G X R = wpE M e ss G X fun x G1 => asS x fun s => R (.fix (s.toList.map fun c => .str (String.singleton c))) G1 := propext Iff.rfl
@[simp ↓] theorem Wirng {es : Es} : wpI M (.rng es) ss G X R = wpEs M es ss G X fun ts G1 => rngW ts G1 R := propext Iff.rfl
@[simp ↓] theorem Wirevt {e : E} : wpI M (.revt e) ss G X R = wpE M e ss G X fun x G1 => asT x fun xs => R (.fix xs.reverse) G1 := propext Iff.rfl
@[simp ↓] theorem Wirevr {e : E} : wpI M (.revr e) ss G X R = wpE M e ss G X fun x G1 => asI x fun n => (0 ≤ n ∧ n < 2 ^ 40) ∧ R (.fix (upto (n - 1) (-1) n.toNat)) G1 := propext Iff.rfl
@[simp ↓] theorem Vadd {i j : Int} : binW .add (.int i) (.int j) G Q = Q (.int (i + j)) G := propext Iff.rfl
@[simp ↓] theorem Vadds {s t : String} : binW .add (.str s) (.str t) G Q = (s.length + t.length ≤ line ∧ Q (.str (s ++ t)) G) := propext Iff.rfl
@[simp ↓] theorem Vaddt {xs ys : List T} : binW .add (.tup xs) (.tup ys) G Q = (xs.length + ys.length ≤ line ∧ Q (.tup (xs ++ ys)) G) := propext Iff.rfl
@[simp ↓] theorem Vaddl {a b : Addr} : binW .add (.ref a) (.ref b) G Q = ∃ xs ys, G a = some (.lst xs) ∧ G b = some (.lst ys) ∧ xs.length + ys.length ≤ line ∧ ∀ p, G p = none → KB (Q (.ref p) (gu G p (.lst (xs ++ ys)))) := propext Iff.rfl
@[simp ↓] theorem Vsub {i j : Int} : binW .sub (.int i) (.int j) G Q = Q (.int (i - j)) G := propext Iff.rfl
@[simp ↓] theorem Vmul {i j : Int} : binW .mul (.int i) (.int j) G Q = (CMul i j ∧ Q (.int (i * j)) G) := propext Iff.rfl
@[simp ↓] theorem Vmult {xs : List T} {k : Int} : binW .mul (.tup xs) (.int k) G Q = (xs ≠ [] ∧ xs.length ≤ 1000 ∧ 2 ≤ k ∧ k ≤ 1000 ∧ Q (.tup (List.replicate k.toNat xs).flatten) G) := propext Iff.rfl
@[simp ↓] theorem Vmull {a : Addr} {k : Int} : binW .mul (.ref a) (.int k) G Q = ∃ xs, G a = some (.lst xs) ∧ -(2 ^ 63) ≤ k ∧ k < 2 ^ 63 ∧ xs.length * k.toNat ≤ line ∧ ∀ p, G p = none → KB (Q (.ref p) (gu G p (.lst (List.replicate k.toNat xs).flatten))) := propext Iff.rfl
@[simp ↓] theorem Vfdv {i j : Int} : binW .fdv (.int i) (.int j) G Q = ((0 < j ∧ j < 1073741824) ∧ Q (.int (i / j)) G) := propext Iff.rfl
@[simp ↓] theorem Vmod {i j : Int} : binW .mod (.int i) (.int j) G Q = (0 < j ∧ Q (.int (i % j)) G) := propext Iff.rfl
@[simp ↓] theorem Vpow {i j : Int} : binW .pow (.int i) (.int j) G Q = ((0 ≤ j ∧ j ≤ 1000000 ∧ i.natAbs < 2 ^ 64) ∧ Q (.int (i ^ j.toNat)) G) := propext Iff.rfl
@[simp ↓] theorem Clt {i j : Int} : cmpW .lt (.int i) (.int j) G Q = Q (.bl (decide (i < j))) G := propext Iff.rfl
@[simp ↓] theorem Cle {i j : Int} : cmpW .le (.int i) (.int j) G Q = Q (.bl (decide (i ≤ j))) G := propext Iff.rfl
@[simp ↓] theorem Cgt {i j : Int} : cmpW .gt (.int i) (.int j) G Q = Q (.bl (decide (j < i))) G := propext Iff.rfl
@[simp ↓] theorem Cge {i j : Int} : cmpW .ge (.int i) (.int j) G Q = Q (.bl (decide (j ≤ i))) G := propext Iff.rfl
@[simp ↓] theorem Ceqi {i j : Int} : cmpW .eq (.int i) (.int j) G Q = Q (.bl (decide (i = j))) G := by simp [cmpW, isD, teq]; exact Iff.rfl
@[simp ↓] theorem Cnei {i j : Int} : cmpW .ne (.int i) (.int j) G Q = Q (.bl (decide (i ≠ j))) G := by simp [cmpW, isD, teq]; exact Iff.rfl
@[simp ↓] theorem Ceqs {a b : String} : cmpW .eq (.str a) (.str b) G Q = Q (.bl (decide (a = b))) G := by simp [cmpW, isD, teq]; exact Iff.rfl
@[simp ↓] theorem Cnes {a b : String} : cmpW .ne (.str a) (.str b) G Q = Q (.bl (decide (a ≠ b))) G := by simp [cmpW, isD, teq]; exact Iff.rfl
@[simp ↓] theorem Ceqb {a b : Bool} : cmpW .eq (.bl a) (.bl b) G Q = Q (.bl (decide (a = b))) G := by simp [cmpW, isD, teq]; exact Iff.rfl
@[simp ↓] theorem CisN {x : T} : cmpW .isN x .non G Q = Q (.bl (isNT x)) G := by simp [cmpW]
@[simp ↓] theorem CntN {x : T} : cmpW .ntN x .non G Q = Q (.bl (!isNT x)) G := by simp [cmpW]
@[simp ↓] theorem CinS {x y : T} : cmpW .inS x y G Q = inW false x y G Q := propext Iff.rfl
@[simp ↓] theorem CniS {x y : T} : cmpW .niS x y G Q = inW true x y G Q := propext Iff.rfl
@[simp ↓] theorem CinD {x y : T} : cmpW .inD x y G Q = inDW false x y G Q := propext Iff.rfl
@[simp ↓] theorem CniD {x y : T} : cmpW .niD x y G Q = inDW true x y G Q := propext Iff.rfl
@[simp] theorem isNT_non  : isNT .non = true := rfl
@[simp] theorem isNT_bl {b : Bool} : isNT (.bl b) = false := rfl
@[simp] theorem isNT_int {i : Int} : isNT (.int i) = false := rfl
@[simp] theorem isNT_str {s : String} : isNT (.str s) = false := rfl
@[simp] theorem isNT_tup {ts : List T} : isNT (.tup ts) = false := rfl
@[simp] theorem isNT_ref {a : Addr} : isNT (.ref a) = false := rfl
@[simp ↓] theorem Xtup {xs : List T} {i : Int} : ixW (.tup xs) (.int i) G Q = ∃ v, tAt xs i = some v ∧ KB (Q v G) := propext Iff.rfl
@[simp ↓] theorem Xfrl {xs : List T} {i : Int} : ixW (.frl xs) (.int i) G Q = ∃ v, tAt xs i = some v ∧ KB (Q v G) := propext Iff.rfl
@[simp ↓] theorem Xref {a : Addr} {i : Int} : ixW (.ref a) (.int i) G Q = ∃ xs, G a = some (.lst xs) ∧ ∃ v, tAt xs i = some v ∧ KB (Q v G) := by simp [ixW, KB]
@[simp ↓] theorem Xdx {a : Addr} {y : T} : dxW (.ref a) y G Q = ∃ k, keyT y = some k ∧ ∃ kvs, G a = some (.dct kvs) ∧ ∃ v, dGet kvs k = some v ∧ KB (Q v G) := dxEq
@[simp ↓] theorem Xslt {xs : List T} {lo hi : Option Int} : slW (.tup xs) lo hi G Q = Q (.tup (cutT xs lo hi)) G := propext Iff.rfl
@[simp ↓] theorem Xslr {a : Addr} {lo hi : Option Int} : slW (.ref a) lo hi G Q = ∃ xs, G a = some (.lst xs) ∧ ∀ p, G p = none → KB (Q (.ref p) (gu G p (.lst (cutT xs lo hi)))) := propext Iff.rfl
@[simp ↓] theorem Xfld {a : Addr} {f : String} : fldW f (.ref a) G Q = ∃ C fs v, G a = some (.ins C fs) ∧ fGet fs f = some v ∧ KB (Q v G) := propext Iff.rfl
@[simp ↓] theorem Bkey1 {i : Int} : keyT (.int i) = some (.inl i) := rfl
@[simp ↓] theorem Bkey2 {s : String} : keyT (.str s) = some (.inr s) := rfl
@[simp ↓] theorem Blens {s : String} : biW .len [.str s] G Q = (s.length ≤ line ∧ Q (.int s.length) G) := propext Iff.rfl
@[simp ↓] theorem Blent {xs : List T} : biW .len [.tup xs] G Q = Q (.int xs.length) G := propext Iff.rfl
@[simp ↓] theorem Blenf {xs : List T} : biW .len [.frl xs] G Q = Q (.int xs.length) G := propext Iff.rfl
@[simp ↓] theorem Blenr {a : Addr} : biW .len [.ref a] G Q = ∃ xs, G a = some (.lst xs) ∧ KB (Q (.int xs.length) G) := propext Iff.rfl
@[simp ↓] theorem Bint {i : Int} : biW .int [.int i] G Q = Q (.int i) G := propext Iff.rfl
@[simp ↓] theorem Bstr {i : Int} : biW .str [.int i] G Q = (i.natAbs.log2 < 1920 ∧ Q (.str (toString i)) G) := propext Iff.rfl
@[simp ↓] theorem Btupt {xs : List T} : biW .tuple [.tup xs] G Q = Q (.tup xs) G := propext Iff.rfl
@[simp ↓] theorem Btupr {a : Addr} : biW .tuple [.ref a] G Q = ∃ xs, G a = some (.lst xs) ∧ KB (Q (.tup xs) G) := propext Iff.rfl
@[simp ↓] theorem Blistt {xs : List T} : biW .list [.tup xs] G Q = ∀ p, G p = none → KB (Q (.ref p) (gu G p (.lst xs))) := propext Iff.rfl
@[simp ↓] theorem Blistr {a : Addr} : biW .list [.ref a] G Q = ∃ xs, G a = some (.lst xs) ∧ ∀ p, G p = none → KB (Q (.ref p) (gu G p (.lst xs))) := propext Iff.rfl
@[simp ↓] theorem Bdictr {a : Addr} : biW .dict [.ref a] G Q = ∃ kvs, G a = some (.dct kvs) ∧ ∀ p, G p = none → KB (Q (.ref p) (gu G p (.dct kvs))) := propext Iff.rfl
@[simp ↓] theorem Bmax {i j : Int} : biW .max [.int i, .int j] G Q = Q (.int (if j > i then j else i)) G := propext Iff.rfl
@[simp ↓] theorem Bmin {i j : Int} : biW .min [.int i, .int j] G Q = Q (.int (if j < i then j else i)) G := propext Iff.rfl
@[simp ↓] theorem Bmaxr {a : Addr} : biW .max [.ref a] G Q = ∃ ns : List Int, G a = some (.lst (ns.map T.int)) ∧ 0 < ns.length ∧ ∀ m, m ∈ ns → (∀ y, y ∈ ns → y ≤ m) → KB (Q (.int m) G) := propext Iff.rfl
@[simp ↓] theorem Bsum {a : Addr} : biW .sum [.ref a] G Q = ∃ ns : List Int, G a = some (.lst (ns.map T.int)) ∧ KB (Q (.int ns.sum) G) := propext Iff.rfl
@[simp ↓] theorem Ball {a : Addr} : biW .all [.ref a] G Q = ∃ bs : List Bool, G a = some (.lst (bs.map T.bl)) ∧ KB (Q (.bl (bs.all id)) G) := propext Iff.rfl
@[simp ↓] theorem Bany {a : Addr} : biW .any [.ref a] G Q = ∃ bs : List Bool, G a = some (.lst (bs.map T.bl)) ∧ KB (Q (.bl (bs.any id)) G) := propext Iff.rfl
@[simp ↓] theorem Mapp {a : Addr} {y : T} : bmW .append (.ref a) [y] G Q = ∃ xs, G a = some (.lst xs) ∧ xs.length < line ∧ KB (Q .non (gu G a (.lst (xs ++ [y])))) := propext Iff.rfl
@[simp ↓] theorem Mpop {a : Addr} : bmW .pop (.ref a) [] G Q = ∃ xs y, G a = some (.lst xs) ∧ xs[xs.length - 1]? = some y ∧ KB (Q y (gu G a (.lst xs.dropLast))) := propext Iff.rfl
@[simp ↓] theorem Mget {a : Addr} {x y : T} : bmW .get (.ref a) [x, y] G Q = ∃ k, keyT x = some k ∧ ∃ kvs, G a = some (.dct kvs) ∧ KB (Q ((dGet kvs k).getD y) G) := getEq
@[simp ↓] theorem Tapp {a : Addr} : bmT .append (.ref a) G = ∃ xs, G a = some (.lst xs) := propext Iff.rfl
@[simp ↓] theorem Tpop {a : Addr} : bmT .pop (.ref a) G = ∃ xs, G a = some (.lst xs) := propext Iff.rfl
@[simp ↓] theorem Tget {a : Addr} : bmT .get (.ref a) G = ∃ kvs, G a = some (.dct kvs) := propext Iff.rfl
@[simp ↓] theorem Itup_non  : isiW .tup .non G Q = Q (.bl false) G := propext Iff.rfl
@[simp ↓] theorem Itup_bl {b : Bool} : isiW .tup (.bl b) G Q = Q (.bl false) G := propext Iff.rfl
@[simp ↓] theorem Itup_int {i : Int} : isiW .tup (.int i) G Q = Q (.bl false) G := propext Iff.rfl
@[simp ↓] theorem Itup_str {s : String} : isiW .tup (.str s) G Q = Q (.bl false) G := propext Iff.rfl
@[simp ↓] theorem Itup_tup {xs : List T} : isiW .tup (.tup xs) G Q = Q (.bl true) G := propext Iff.rfl
@[simp ↓] theorem Ibl_non  : isiW .bl .non G Q = Q (.bl false) G := propext Iff.rfl
@[simp ↓] theorem Ibl_bl {b : Bool} : isiW .bl (.bl b) G Q = Q (.bl true) G := propext Iff.rfl
@[simp ↓] theorem Ibl_int {i : Int} : isiW .bl (.int i) G Q = Q (.bl false) G := propext Iff.rfl
@[simp ↓] theorem Ibl_str {s : String} : isiW .bl (.str s) G Q = Q (.bl false) G := propext Iff.rfl
@[simp ↓] theorem Ibl_tup {xs : List T} : isiW .bl (.tup xs) G Q = Q (.bl false) G := propext Iff.rfl
@[simp ↓] theorem Iint_non  : isiW .int .non G Q = Q (.bl false) G := propext Iff.rfl
@[simp ↓] theorem Iint_bl {b : Bool} : isiW .int (.bl b) G Q = Q (.bl true) G := propext Iff.rfl
@[simp ↓] theorem Iint_int {i : Int} : isiW .int (.int i) G Q = Q (.bl true) G := propext Iff.rfl
@[simp ↓] theorem Iint_str {s : String} : isiW .int (.str s) G Q = Q (.bl false) G := propext Iff.rfl
@[simp ↓] theorem Iint_tup {xs : List T} : isiW .int (.tup xs) G Q = Q (.bl false) G := propext Iff.rfl
@[simp ↓] theorem Istr_non  : isiW .str .non G Q = Q (.bl false) G := propext Iff.rfl
@[simp ↓] theorem Istr_bl {b : Bool} : isiW .str (.bl b) G Q = Q (.bl false) G := propext Iff.rfl
@[simp ↓] theorem Istr_int {i : Int} : isiW .str (.int i) G Q = Q (.bl false) G := propext Iff.rfl
@[simp ↓] theorem Istr_str {s : String} : isiW .str (.str s) G Q = Q (.bl true) G := propext Iff.rfl
@[simp ↓] theorem Istr_tup {xs : List T} : isiW .str (.tup xs) G Q = Q (.bl false) G := propext Iff.rfl
@[simp ↓] theorem Rn1 {n : Int} : rngW [.int n] G R = ((-(2 ^ 62) ≤ n ∧ n < 2 ^ 62) ∧ R (.fix (upto 0 1 n.toNat)) G) := propext Iff.rfl
@[simp ↓] theorem Rn2 {a b : Int} : rngW [.int a, .int b] G R = (((-(2 ^ 62) ≤ a ∧ a < 2 ^ 62) ∧ -(2 ^ 62) ≤ b ∧ b < 2 ^ 62) ∧ R (.fix (upto a 1 (b - a).toNat)) G) := propext Iff.rfl
@[simp ↓] theorem Rn3 {a b : Int} : rngW [.int a, .int b, .int (-1)] G R = (((-(2 ^ 62) ≤ a ∧ a < 2 ^ 62) ∧ -(2 ^ 62) ≤ b ∧ b < 2 ^ 62) ∧ R (.fix (upto a (-1) (a - b).toNat)) G) := propext Iff.rfl
@[simp] theorem Sqi1 {xs : List T} : (Sq.fix xs).items = xs := rfl
@[simp] theorem Sqi2 {a : Addr} {xs : List T} : (Sq.at_ a xs).items = xs := rfl
@[simp] theorem Sqs1 {xs : List T} {G : Gp} : (Sq.fix xs).stay G = True := rfl
@[simp] theorem Sqs2 {a : Addr} {xs : List T} {G : Gp} : (Sq.at_ a xs).stay G = (G a = some (.lst xs)) := rfl
@[simp ↓] theorem Tnm {i : Nat} {x : T} {k : Sl → Prop} : tgW (.nm i) x ss k = k (ss.set i (some x)) := propext Iff.rfl
@[simp ↓] theorem Ttp {is : List Nat} {xs : List T} {k : Sl → Prop} : tgW (.tp is) (.tup xs) ss k = ∃ s1, setTp is xs ss = some s1 ∧ k s1 := propext Iff.rfl
@[simp] theorem Tset0 {ss : Sl} : setTp [] [] ss = some ss := rfl
@[simp] theorem Tset1 {i : Nat} {is : List Nat} {x : T} {xs : List T} {ss : Sl} : setTp (i :: is) (x :: xs) ss = setTp is xs (ss.set i (some x)) := rfl
@[simp ↓] theorem Fnil {st : Gp → Prop} {g : Tg} {body : Ss} {f1 : Frz st} {f2 : Frz body} {f : Frz D} : forB M st g body D [] ss G f1 f2 f = (st G ∧ D.nx ss G) := propext Iff.rfl
theorem Fcons {st : Gp → Prop} {g : Tg} {body : Ss} {x : T} {r : List T} {f1 : Frz st} {f2 : Frz body} {f : Frz D} : forB M st g body D (x :: r) ss G f1 f2 f = (st G ∧ tgW g x ss fun s1 => wpSs body M s1 G ⟨fun s2 G2 => forB M st g body D r s2 G2, D.rt, D.nx, fun s2 G2 => forB M st g body D r s2 G2, D.ex⟩) := rfl
@[simp ↓] theorem Lnil {st : Gp → Prop} {g : Tg} {own : List Nat} {cond elt : E} {A : Addr} {f : Frz Q} {f1 : Frz st} : lcB M st g own cond elt A [] ss G Q f f1 = (st G ∧ Q (.ref A) G) := propext Iff.rfl
theorem Lcons {st : Gp → Prop} {g : Tg} {own : List Nat} {cond elt : E} {A : Addr} {x : T} {r : List T} {f : Frz Q} {f1 : Frz st} : lcB M st g own cond elt A (x :: r) ss G Q f f1 = (st G ∧ tgW g x (wipeT ss own) fun s1 => wpC M cond s1 G (fun _ _ _ => False) fun c G1 => ∃ b, c = .bl b ∧ cnd b (wpE M elt s1 G1 (fun _ _ _ => False) fun y G2 => ∃ acc, G2 A = some (.lst acc) ∧ acc.length < line ∧ lcB M st g own cond elt A r ss (gu G2 A (.lst (acc ++ [y]))) Q) (lcB M st g own cond elt A r ss G1 Q)) := rfl
@[simp] theorem Wipe0 {ss : Sl} : wipeT ss [] = ss := rfl
@[simp] theorem Wipe1 {v : Nat} {vs : List Nat} {ss : Sl} : wipeT ss (v :: vs) = (wipeT ss vs).set v none := rfl
end

theorem gu_gu {G : Gp} {p : Addr} {a b : GO} : gu (gu G p a) p b = gu G p b := by
  funext q
  unfold gu
  split <;> rfl
theorem tAt0 {α : Type} {x : α} {r : List α} : tAt (x :: r) 0 = some x := rfl
theorem tAt1 {α : Type} {x y : α} {r : List α} : tAt (x :: y :: r) 1 = some y := rfl
theorem tAt2 {α : Type} {x y z : α} {r : List α} : tAt (x :: y :: z :: r) 2 = some z := rfl
theorem tAt_get {α : Type} {xs : List α} {k : Int} (h0 : 0 ≤ k) (h : k < xs.length) : ∃ v, tAt xs k = some v ∧ xs[k.toNat]? = some v := by
  have hk : k.toNat < xs.length := by omega
  refine ⟨xs[k.toNat], ?_, List.getElem?_eq_getElem hk⟩
  unfold tAt
  rw [if_pos h0, List.getElem?_eq_getElem hk]
theorem dGet_put {kvs : List (DK × T)} {k k' : DK} {v : T} : dGet (dPut kvs k v) k' = if k' = k then some v else dGet kvs k' := by
  unfold dPut
  split
  · rename_i h
    induction kvs with
    | nil => simp at h
    | cons p r ih =>
      simp only [List.any_cons, Bool.or_eq_true, decide_eq_true_eq] at h
      simp only [List.map_cons]
      unfold dGet at ih ⊢
      by_cases e : p.1 = k
      · subst e
        rw [if_pos rfl]
        by_cases e2 : k' = p.1
        · subst e2; simp
        · rw [if_neg e2]
          have e3 : ¬ p.1 = k' := fun z => e2 z.symm
          simp only [List.find?_cons, e3, decide_false]
          clear ih h
          induction r with
          | nil => rfl
          | cons q r ih2 =>
            simp only [List.map_cons]
            by_cases e4 : q.1 = p.1
            · rw [if_pos e4]
              have e5 : ¬ q.1 = k' := fun z => e3 (e4.symm.trans z)
              simp only [List.find?_cons, e5, decide_false]
              exact ih2
            · rw [if_neg e4]
              by_cases e5 : q.1 = k'
              · simp [List.find?_cons, e5]
              · simp only [List.find?_cons, e5, decide_false]
                exact ih2
      · rw [if_neg e]
        have h' : (r.any fun kv => decide (kv.1 = k)) = true := by
          rcases h with h | h
          · exact absurd h e
          · simpa using h
        by_cases e2 : p.1 = k'
        · have e3 : ¬ k' = k := fun z => e (e2.trans z)
          rw [if_neg e3]
          simp [List.find?_cons, e2]
        · simp only [List.find?_cons, e2, decide_false]
          exact ih h'
  · rename_i h
    unfold dGet
    rw [List.find?_append]
    by_cases e : k' = k
    · subst e
      rw [if_pos rfl]
      have hn : (kvs.find? fun kv => decide (kv.1 = k')) = none := by
        rw [List.find?_eq_none]
        intro x hx hk
        exact h (List.any_eq_true.mpr ⟨x, hx, hk⟩)
      rw [hn]
      simp
    · rw [if_neg e]
      have e2 : ¬ k = k' := fun z => e z.symm
      cases kvs.find? fun kv => decide (kv.1 = k') with
      | none => simp [e2]
      | some p => simp
end SK
set_option Elab.async false
set_option linter.all false
set_option maxRecDepth 100000
namespace SK.K01
open PySem PySem.Spec PyProof.Rows L2 SK
def top (i : Nat) : Stmt := PySem.Challenge.pw_sameticks_k01_sizes.main.body.getD i (.Pass ⟨0, 0, 0, 0⟩)
abbrev s_block_size : Stmt := top 1
abbrev n_block_size : List Str := ["block", "sizes", "total", "statement"]
abbrev p_block_size : List Str := ["block", "sizes"]
abbrev b_block_size : List String := []
def c_block_size_b1 : Ss := (.cons (.ite (.cmp .eq (.ix (.var 3) (.kc (.int 0))) (.kc (.str "start")))
 (.cons (.asg 2 (.bin .add (.bin .add (.var 2) (.kc (.int 1))) (.bm (.var 1) .get (.cons (.ix (.var 3) (.kc (.int 1))) (.cons (.kc (.int 0)) .nil)))))
  .nil)
 (.cons (.ite (.cmp .eq (.ix (.var 3) (.kc (.int 0))) (.kc (.str "try")))
 (.cons (.asg 2 (.bin .add (.bin .add (.bin .add (.var 2) (.kc (.int 2))) (.call "block_size" (.cons (.ix (.var 3) (.kc (.int 1))) (.cons (.var 1) .nil)))) (.call "block_size" (.cons (.ix (.var 3) (.kc (.int 2))) (.cons (.var 1) .nil)))))
  .nil)
 (.cons (.ite (.cmp .eq (.ix (.var 3) (.kc (.int 0))) (.kc (.str "repeat")))
 (.cons (.asg 2 (.bin .add (.bin .add (.var 2) (.kc (.int 2))) (.bin .mul (.ix (.var 3) (.kc (.int 1))) (.bin .add (.kc (.int 1)) (.call "block_size" (.cons (.ix (.var 3) (.kc (.int 2))) (.cons (.var 1) .nil)))))))
  .nil)
 (.cons (.asg 2 (.bin .add (.var 2) (.kc (.int 1))))
  .nil))
  .nil))
  .nil))
  .nil)
def c_block_size : Ss := (.cons (.asg 2 (.kc (.int 1)))
  (.cons (.for_ (.nm 3) (.tup (.var 0)) c_block_size_b1)
  (.cons (.ret (.var 2))
  .nil)))
theorem f_block_size : FnScope n_block_size p_block_size (defScope s_block_size) := ⟨rfl, rfl, rfl, by decide +kernel, rfl, by decide +kernel, by decide +kernel⟩
theorem k_block_size : chkSs c_block_size ⟨n_block_size, defScope s_block_size, true, [], b_block_size⟩ (defBody s_block_size) = true := by decide +kernel

abbrev s_body_sizes : Stmt := top 2
abbrev n_body_sizes : List Str := ["bodies", "sizes", "number"]
abbrev p_body_sizes : List Str := ["bodies"]
abbrev b_body_sizes : List String := ["len", "range", "tuple"]
def c_body_sizes_e1 : E := (.dx (.var 1) (.var 2))
def c_body_sizes_b2 : Ss := (.cons (.asd (.var 1) (.var 2) (.bin .add (.kc (.int 1)) (.call "block_size" (.cons (.ix (.var 0) (.var 2)) (.cons (.var 1) .nil)))))
  .nil)
def c_body_sizes : Ss := (.cons (.asg 1 (.dct [] .nil))
  (.cons (.for_ (.nm 2) (.rng (.cons (.bin .sub (.bi .len (.cons (.var 0) .nil)) (.kc (.int 1))) (.cons (.neg (.kc (.int 1))) (.cons (.neg (.kc (.int 1))) .nil)))) c_body_sizes_b2)
  (.cons (.ret (.bi .tuple (.cons (.lc c_body_sizes_e1 [2] (.nm 2) (.rng (.cons (.bi .len (.cons (.var 0) .nil)) .nil)) .no) .nil)))
  .nil)))
theorem f_body_sizes : FnScope n_body_sizes p_body_sizes (defScope s_body_sizes) := ⟨rfl, rfl, rfl, by decide +kernel, rfl, by decide +kernel, by decide +kernel⟩
theorem k_body_sizes : chkSs c_body_sizes ⟨n_body_sizes, defScope s_body_sizes, true, [], b_body_sizes⟩ (defBody s_body_sizes) = true := by decide +kernel

abbrev s_law_cell : Stmt := top 4
abbrev n_law_cell : List Str := ["_law_script", "_law_k"]
abbrev p_law_cell : List Str := ["_law_script", "_law_k"]
abbrev b_law_cell : List String := ["int", "len"]
def c_law_cell : Ss := (.cons (.ite (.cmp .lt (.var 1) (.bi .len (.cons (.var 0) .nil)))
 (.cons (.ret (.bi .int (.cons (.ix (.var 0) (.var 1)) .nil)))
  .nil)
 .nil)
  (.cons (.ret (.kc (.int 0)))
  .nil))
theorem f_law_cell : FnScope n_law_cell p_law_cell (defScope s_law_cell) := ⟨rfl, rfl, rfl, by decide +kernel, rfl, by decide +kernel, by decide +kernel⟩
theorem k_law_cell : chkSs c_law_cell ⟨n_law_cell, defScope s_law_cell, true, [], b_law_cell⟩ (defBody s_law_cell) = true := by decide +kernel

abbrev s_law_digits : Stmt := top 5
abbrev n_law_digits : List Str := ["_law_cell_here", "_law_at", "_law_digits_here", "_law_turn", "_law_seed"]
abbrev p_law_digits : List Str := ["_law_cell_here", "_law_at"]
abbrev b_law_digits : List String := ["int", "range"]
def c_law_digits_b1 : Ss := (.cons (.ite (.cmp .gt (.var 0) (.kc (.int 0)))
 (.cons (.ex (.bm (.var 2) .append (.cons (.bin .mod (.bi .int (.cons (.var 0) .nil)) (.kc (.int 1000))) .nil)))
  (.cons (.asg 0 (.bin .fdv (.var 0) (.kc (.int 1000))))
  .nil))
 .nil)
  .nil)
def c_law_digits_b2 : Ss := (.cons (.asg 4 (.bin .mod (.bi .int (.cons (.bin .add (.bin .add (.bin .mul (.var 4) (.kc (.int 16807))) (.bin .mul (.kc (.int 7)) (.var 3))) (.kc (.int 1))) .nil)) (.kc (.int 2147483647))))
  (.cons (.ex (.bm (.var 2) .append (.cons (.bin .mod (.bi .int (.cons (.bin .fdv (.var 4) (.kc (.int 997))) .nil)) (.kc (.int 1000))) .nil)))
  .nil))
def c_law_digits : Ss := (.cons (.asg 2 (.lst .nil))
  (.cons (.ite (.cmp .lt (.var 0) (.kc (.int 0)))
 (.cons (.asg 0 (.bin .sub (.kc (.int 1)) (.bin .mul (.kc (.int 2)) (.var 0))))
  .nil)
 .nil)
  (.cons (.ite (.cmp .ge (.var 0) (.bin .pow (.kc (.int 10)) (.kc (.int 18))))
 (.cons (.for_ (.nm 3) (.rng (.cons (.kc (.int 60)) .nil)) c_law_digits_b1)
  .nil)
 (.cons (.asg 4 (.bin .mod (.bi .int (.cons (.bin .add (.bin .add (.bin .mul (.var 0) (.kc (.int 48271))) (.bin .mul (.var 1) (.kc (.int 69621)))) (.kc (.int 11))) .nil)) (.kc (.int 2147483647))))
  (.cons (.for_ (.nm 3) (.rng (.cons (.kc (.int 60)) .nil)) c_law_digits_b2)
  .nil)))
  (.cons (.ret (.var 2))
  .nil))))
theorem f_law_digits : FnScope n_law_digits p_law_digits (defScope s_law_digits) := ⟨rfl, rfl, rfl, by decide +kernel, rfl, by decide +kernel, by decide +kernel⟩
theorem k_law_digits : chkSs c_law_digits ⟨n_law_digits, defScope s_law_digits, true, [], b_law_digits⟩ (defBody s_law_digits) = true := by decide +kernel

abbrev s_law_box : Stmt := top 6
abbrev n_law_box : List Str := ["_law_script", "_law_at"]
abbrev p_law_box : List Str := ["_law_script", "_law_at"]
abbrev b_law_box : List String := []
def c_law_box : Ss := (.cons (.ret (.lst (.cons (.call "_law_digits" (.cons (.call "_law_cell" (.cons (.var 0) (.cons (.var 1) .nil))) (.cons (.var 1) .nil))) (.cons (.kc (.int 0)) .nil))))
  .nil)
theorem f_law_box : FnScope n_law_box p_law_box (defScope s_law_box) := ⟨rfl, rfl, rfl, by decide +kernel, rfl, by decide +kernel, by decide +kernel⟩
theorem k_law_box : chkSs c_law_box ⟨n_law_box, defScope s_law_box, true, [], b_law_box⟩ (defBody s_law_box) = true := by decide +kernel

abbrev s_law_draw : Stmt := top 7
abbrev n_law_draw : List Str := ["_law_box_here", "_law_many", "_law_at"]
abbrev p_law_draw : List Str := ["_law_box_here", "_law_many"]
abbrev b_law_draw : List String := ["int", "len"]
def c_law_draw : Ss := (.cons (.asg 2 (.ix (.var 0) (.kc (.int 1))))
  (.cons (.asi (.var 0) (.kc (.int 1)) (.bin .add (.var 2) (.kc (.int 1))))
  (.cons (.ite (.cmp .lt (.var 2) (.bi .len (.cons (.ix (.var 0) (.kc (.int 0))) .nil)))
 (.cons (.ret (.bin .mod (.bi .int (.cons (.ix (.ix (.var 0) (.kc (.int 0))) (.var 2)) .nil)) (.var 1)))
  .nil)
 .nil)
  (.cons (.ret (.kc (.int 0)))
  .nil))))
theorem f_law_draw : FnScope n_law_draw p_law_draw (defScope s_law_draw) := ⟨rfl, rfl, rfl, by decide +kernel, rfl, by decide +kernel, by decide +kernel⟩
theorem k_law_draw : chkSs c_law_draw ⟨n_law_draw, defScope s_law_draw, true, [], b_law_draw⟩ (defBody s_law_draw) = true := by decide +kernel

abbrev s_law_is_integer : Stmt := top 8
abbrev n_law_is_integer : List Str := ["_law_actual"]
abbrev p_law_is_integer : List Str := ["_law_actual"]
abbrev b_law_is_integer : List String := ["bool", "int", "isinstance"]
def c_law_is_integer : Ss := (.cons (.ret (.land (.cons (.isi (.var 0) .int) (.cons (.lnot (.isi (.var 0) .bl)) .nil))))
  .nil)
theorem f_law_is_integer : FnScope n_law_is_integer p_law_is_integer (defScope s_law_is_integer) := ⟨rfl, rfl, rfl, by decide +kernel, rfl, by decide +kernel, by decide +kernel⟩
theorem k_law_is_integer : chkSs c_law_is_integer ⟨n_law_is_integer, defScope s_law_is_integer, true, [], b_law_is_integer⟩ (defBody s_law_is_integer) = true := by decide +kernel

abbrev s_law_same : Stmt := top 9
abbrev n_law_same : List Str := ["_law_actual", "_law_due", "_law_at"]
abbrev p_law_same : List Str := ["_law_actual", "_law_due"]
abbrev b_law_same : List String := ["all", "bool", "int", "isinstance", "len", "range", "str", "tuple"]
def c_law_same_e1 : E := (.call "_law_same" (.cons (.ix (.var 0) (.var 2)) (.cons (.ix (.var 1) (.var 2)) .nil)))
def c_law_same : Ss := (.cons (.ite (.isi (.var 1) .tup)
 (.cons (.ite (.lor (.cons (.lnot (.isi (.var 0) .tup)) (.cons (.cmp .ne (.bi .len (.cons (.var 0) .nil)) (.bi .len (.cons (.var 1) .nil))) .nil)))
 (.cons (.ret (.kc (.bl false)))
  .nil)
 .nil)
  (.cons (.ret (.bi .all (.cons (.lc c_law_same_e1 [2] (.nm 2) (.rng (.cons (.bi .len (.cons (.var 1) .nil)) .nil)) .no) .nil)))
  .nil))
 .nil)
  (.cons (.ite (.isi (.var 1) .bl)
 (.cons (.ret (.land (.cons (.isi (.var 0) .bl) (.cons (.cmp .eq (.var 0) (.var 1)) .nil))))
  .nil)
 .nil)
  (.cons (.ite (.isi (.var 1) .int)
 (.cons (.ret (.land (.cons (.call "_law_is_integer" (.cons (.var 0) .nil)) (.cons (.cmp .eq (.var 0) (.var 1)) .nil))))
  .nil)
 .nil)
  (.cons (.ite (.isi (.var 1) .str)
 (.cons (.ret (.land (.cons (.isi (.var 0) .str) (.cons (.cmp .eq (.var 0) (.var 1)) .nil))))
  .nil)
 .nil)
  (.cons (.ret (.land (.cons (.cmp .isN (.var 0) (.kc .non)) (.cons (.cmp .isN (.var 1) (.kc .non)) .nil))))
  .nil)))))
theorem f_law_same : FnScope n_law_same p_law_same (defScope s_law_same) := ⟨rfl, rfl, rfl, by decide +kernel, rfl, by decide +kernel, by decide +kernel⟩
theorem k_law_same : chkSs c_law_same ⟨n_law_same, defScope s_law_same, true, [], b_law_same⟩ (defBody s_law_same) = true := by decide +kernel

abbrev s_law_word : Stmt := top 10
abbrev n_law_word : List Str := ["_law_box_here"]
abbrev p_law_word : List Str := ["_law_box_here"]
abbrev b_law_word : List String := []
def c_law_word : Ss := (.cons (.ret (.ix (.tup (.cons (.kc (.str "a")) (.cons (.kc (.str "b")) (.cons (.kc (.str "c")) (.cons (.kc (.str "d")) (.cons (.kc (.str "e0")) (.cons (.kc (.str "x")) (.cons (.kc (.str "9")) (.cons (.kc (.str "longer99")) .nil))))))))) (.call "_law_draw" (.cons (.var 0) (.cons (.kc (.int 8)) .nil)))))
  .nil)
theorem f_law_word : FnScope n_law_word p_law_word (defScope s_law_word) := ⟨rfl, rfl, rfl, by decide +kernel, rfl, by decide +kernel, by decide +kernel⟩
theorem k_law_word : chkSs c_law_word ⟨n_law_word, defScope s_law_word, true, [], b_law_word⟩ (defBody s_law_word) = true := by decide +kernel

abbrev s_law_block : Stmt := top 11
abbrev n_law_block : List Str := ["_law_box_here", "_law_depth", "_law_most", "_law_body", "_law_bodies", "_law_found", "_law_turn", "_law_kind", "_law_name", "_law_first"]
abbrev p_law_block : List Str := ["_law_box_here", "_law_depth", "_law_most", "_law_body", "_law_bodies"]
abbrev b_law_block : List String := ["range", "tuple"]
def c_law_block_b1 : Ss := (.cons (.asg 7 (.call "_law_draw" (.cons (.var 0) (.cons (.kc (.int 16)) .nil))))
  (.cons (.asg 8 (.ix (.tup (.cons (.kc (.str "a")) (.cons (.kc (.str "b")) (.cons (.kc (.str "a")) (.cons (.kc (.str "c")) (.cons (.kc (.str "d")) (.cons (.kc (.str "a")) .nil))))))) (.call "_law_draw" (.cons (.var 0) (.cons (.kc (.int 6)) .nil)))))
  (.cons (.ite (.cmp .lt (.var 7) (.kc (.int 4)))
 (.cons (.ex (.bm (.var 5) .append (.cons (.tup (.cons (.kc (.str "say")) (.cons (.call "_law_word" (.cons (.var 0) .nil)) .nil))) .nil)))
  .nil)
 (.cons (.ite (.cmp .lt (.var 7) (.kc (.int 6)))
 (.cons (.ex (.bm (.var 5) .append (.cons (.tup (.cons (.kc (.str "pause")) .nil)) .nil)))
  .nil)
 (.cons (.ite (.land (.cons (.cmp .lt (.var 7) (.kc (.int 9))) (.cons (.cmp .lt (.bin .add (.var 3) (.kc (.int 1))) (.var 4)) .nil)))
 (.cons (.ex (.bm (.var 5) .append (.cons (.tup (.cons (.kc (.str "start")) (.cons (.bin .add (.bin .add (.var 3) (.kc (.int 1))) (.call "_law_draw" (.cons (.var 0) (.cons (.bin .sub (.bin .sub (.var 4) (.var 3)) (.kc (.int 1))) .nil)))) (.cons (.var 8) .nil)))) .nil)))
  .nil)
 (.cons (.ite (.cmp .lt (.var 7) (.kc (.int 11)))
 (.cons (.ex (.bm (.var 5) .append (.cons (.tup (.cons (.kc (.str "wait")) (.cons (.var 8) .nil))) .nil)))
  .nil)
 (.cons (.ite (.cmp .eq (.var 7) (.kc (.int 11)))
 (.cons (.ex (.bm (.var 5) .append (.cons (.ix (.tup (.cons (.tup (.cons (.kc (.str "adopt")) (.cons (.var 8) .nil))) (.cons (.tup (.cons (.kc (.str "fail")) .nil)) (.cons (.tup (.cons (.kc (.str "return")) .nil)) (.cons (.tup (.cons (.kc (.str "pause")) .nil)) .nil))))) (.call "_law_draw" (.cons (.var 0) (.cons (.kc (.int 4)) .nil)))) .nil)))
  .nil)
 (.cons (.ite (.land (.cons (.cmp .lt (.var 7) (.kc (.int 14))) (.cons (.cmp .gt (.var 1) (.kc (.int 0))) .nil)))
 (.cons (.asg 9 (.call "_law_block" (.cons (.var 0) (.cons (.bin .sub (.var 1) (.kc (.int 1))) (.cons (.kc (.int 3)) (.cons (.var 3) (.cons (.var 4) .nil)))))))
  (.cons (.ex (.bm (.var 5) .append (.cons (.tup (.cons (.kc (.str "try")) (.cons (.var 9) (.cons (.call "_law_block" (.cons (.var 0) (.cons (.bin .sub (.var 1) (.kc (.int 1))) (.cons (.kc (.int 2)) (.cons (.var 3) (.cons (.var 4) .nil)))))) .nil)))) .nil)))
  .nil))
 (.cons (.ite (.cmp .gt (.var 1) (.kc (.int 0)))
 (.cons (.ex (.bm (.var 5) .append (.cons (.tup (.cons (.kc (.str "repeat")) (.cons (.call "_law_draw" (.cons (.var 0) (.cons (.kc (.int 4)) .nil))) (.cons (.call "_law_block" (.cons (.var 0) (.cons (.bin .sub (.var 1) (.kc (.int 1))) (.cons (.kc (.int 3)) (.cons (.var 3) (.cons (.var 4) .nil)))))) .nil)))) .nil)))
  .nil)
 (.cons (.ex (.bm (.var 5) .append (.cons (.tup (.cons (.kc (.str "say")) (.cons (.call "_law_word" (.cons (.var 0) .nil)) .nil))) .nil)))
  .nil))
  .nil))
  .nil))
  .nil))
  .nil))
  .nil))
  .nil))
  .nil)))
def c_law_block : Ss := (.cons (.asg 5 (.lst .nil))
  (.cons (.for_ (.nm 6) (.rng (.cons (.call "_law_draw" (.cons (.var 0) (.cons (.bin .add (.var 2) (.kc (.int 1))) .nil))) .nil)) c_law_block_b1)
  (.cons (.ret (.bi .tuple (.cons (.var 5) .nil)))
  .nil)))
theorem f_law_block : FnScope n_law_block p_law_block (defScope s_law_block) := ⟨rfl, rfl, rfl, by decide +kernel, rfl, by decide +kernel, by decide +kernel⟩
theorem k_law_block : chkSs c_law_block ⟨n_law_block, defScope s_law_block, true, [], b_law_block⟩ (defBody s_law_block) = true := by decide +kernel

abbrev s_law_count : Stmt := top 12
abbrev n_law_count : List Str := ["_law_block_here", "_law_found", "_law_item", "_law_part"]
abbrev p_law_count : List Str := ["_law_block_here"]
abbrev b_law_count : List String := ["isinstance", "tuple"]
def c_law_count_b1 : Ss := (.cons (.ite (.isi (.var 3) .tup)
 (.cons (.asg 1 (.bin .add (.var 1) (.call "_law_count" (.cons (.var 3) .nil))))
  .nil)
 .nil)
  .nil)
def c_law_count_b2 : Ss := (.cons (.asg 1 (.bin .add (.var 1) (.kc (.int 1))))
  (.cons (.for_ (.nm 3) (.tup (.sl (.var 2) (.kc (.int 1)) .no)) c_law_count_b1)
  .nil))
def c_law_count : Ss := (.cons (.asg 1 (.kc (.int 0)))
  (.cons (.for_ (.nm 2) (.tup (.var 0)) c_law_count_b2)
  (.cons (.ret (.var 1))
  .nil)))
theorem f_law_count : FnScope n_law_count p_law_count (defScope s_law_count) := ⟨rfl, rfl, rfl, by decide +kernel, rfl, by decide +kernel, by decide +kernel⟩
theorem k_law_count : chkSs c_law_count ⟨n_law_count, defScope s_law_count, true, [], b_law_count⟩ (defBody s_law_count) = true := by decide +kernel

abbrev s_law_weight : Stmt := top 13
abbrev n_law_weight : List Str := ["_law_block_here", "_law_sizes_here", "_law_total", "_law_statement"]
abbrev p_law_weight : List Str := ["_law_block_here", "_law_sizes_here"]
abbrev b_law_weight : List String := []
def c_law_weight_b1 : Ss := (.cons (.ite (.cmp .eq (.ix (.var 3) (.kc (.int 0))) (.kc (.str "start")))
 (.cons (.asg 2 (.bin .add (.bin .add (.var 2) (.kc (.int 1))) (.bm (.var 1) .get (.cons (.ix (.var 3) (.kc (.int 1))) (.cons (.kc (.int 1)) .nil)))))
  .nil)
 (.cons (.ite (.cmp .eq (.ix (.var 3) (.kc (.int 0))) (.kc (.str "try")))
 (.cons (.asg 2 (.bin .add (.bin .add (.bin .add (.var 2) (.kc (.int 2))) (.call "_law_weight" (.cons (.ix (.var 3) (.kc (.int 1))) (.cons (.var 1) .nil)))) (.call "_law_weight" (.cons (.ix (.var 3) (.kc (.int 2))) (.cons (.var 1) .nil)))))
  .nil)
 (.cons (.ite (.cmp .eq (.ix (.var 3) (.kc (.int 0))) (.kc (.str "repeat")))
 (.cons (.asg 2 (.bin .add (.bin .add (.var 2) (.kc (.int 2))) (.bin .mul (.ix (.var 3) (.kc (.int 1))) (.bin .add (.kc (.int 1)) (.call "_law_weight" (.cons (.ix (.var 3) (.kc (.int 2))) (.cons (.var 1) .nil)))))))
  .nil)
 (.cons (.asg 2 (.bin .add (.var 2) (.kc (.int 1))))
  .nil))
  .nil))
  .nil))
  .nil)
def c_law_weight : Ss := (.cons (.asg 2 (.kc (.int 1)))
  (.cons (.for_ (.nm 3) (.tup (.var 0)) c_law_weight_b1)
  (.cons (.ret (.var 2))
  .nil)))
theorem f_law_weight : FnScope n_law_weight p_law_weight (defScope s_law_weight) := ⟨rfl, rfl, rfl, by decide +kernel, rfl, by decide +kernel, by decide +kernel⟩
theorem k_law_weight : chkSs c_law_weight ⟨n_law_weight, defScope s_law_weight, true, [], b_law_weight⟩ (defBody s_law_weight) = true := by decide +kernel

abbrev s_law_program : Stmt := top 14
abbrev n_law_program : List Str := ["_law_script", "_law_first", "_law_most", "_law_length", "_law_room", "_law_bodies", "_law_found", "_law_body", "_law_sizes_here"]
abbrev p_law_program : List Str := ["_law_script", "_law_first", "_law_most", "_law_length", "_law_room"]
abbrev b_law_program : List String := ["range", "reversed", "tuple"]
def c_law_program_b1 : Ss := (.cons (.ite (.lor (.cons (.cmp .gt (.bin .add (.call "_law_weight" (.cons (.ix (.var 6) (.var 7)) (.cons (.var 8) .nil))) (.kc (.int 1))) (.var 4)) (.cons (.cmp .gt (.call "_law_count" (.cons (.ix (.var 6) (.var 7)) .nil)) (.kc (.int 24))) .nil)))
 (.cons (.asi (.var 6) (.var 7) (.tup (.cons (.tup (.cons (.kc (.str "say")) (.cons (.kc (.str "a")) .nil))) (.cons (.tup (.cons (.kc (.str "pause")) .nil)) .nil))))
  .nil)
 .nil)
  (.cons (.asd (.var 8) (.var 7) (.bin .add (.kc (.int 1)) (.call "_law_weight" (.cons (.ix (.var 6) (.var 7)) (.cons (.var 8) .nil)))))
  .nil))
def c_law_program_b2 : Ss := (.cons (.ex (.bm (.var 6) .append (.cons (.call "_law_block" (.cons (.call "_law_box" (.cons (.var 0) (.cons (.bin .add (.bin .add (.var 1) (.kc (.int 1))) (.var 7)) .nil))) (.cons (.kc (.int 2)) (.cons (.var 3) (.cons (.var 7) (.cons (.var 5) .nil)))))) .nil)))
  .nil)
def c_law_program : Ss := (.cons (.asg 5 (.bin .add (.kc (.int 1)) (.call "_law_draw" (.cons (.call "_law_box" (.cons (.var 0) (.cons (.var 1) .nil))) (.cons (.var 2) .nil)))))
  (.cons (.asg 6 (.lst .nil))
  (.cons (.for_ (.nm 7) (.rng (.cons (.var 5) .nil)) c_law_program_b2)
  (.cons (.asg 8 (.dct [] .nil))
  (.cons (.for_ (.nm 7) (.revr (.var 5)) c_law_program_b1)
  (.cons (.ret (.bi .tuple (.cons (.var 6) .nil)))
  .nil))))))
theorem f_law_program : FnScope n_law_program p_law_program (defScope s_law_program) := ⟨rfl, rfl, rfl, by decide +kernel, rfl, by decide +kernel, by decide +kernel⟩
theorem k_law_program : chkSs c_law_program ⟨n_law_program, defScope s_law_program, true, [], b_law_program⟩ (defBody s_law_program) = true := by decide +kernel

abbrev s_law_measure : Stmt := top 15
abbrev n_law_measure : List Str := ["_law_block_here", "_law_sizes_here", "_law_total", "_law_item"]
abbrev p_law_measure : List Str := ["_law_block_here", "_law_sizes_here"]
abbrev b_law_measure : List String := []
def c_law_measure_b1 : Ss := (.cons (.ite (.cmp .eq (.ix (.var 3) (.kc (.int 0))) (.kc (.str "start")))
 (.cons (.asg 2 (.bin .add (.bin .add (.var 2) (.kc (.int 1))) (.bm (.var 1) .get (.cons (.ix (.var 3) (.kc (.int 1))) (.cons (.kc (.int 0)) .nil)))))
  .nil)
 (.cons (.ite (.cmp .eq (.ix (.var 3) (.kc (.int 0))) (.kc (.str "try")))
 (.cons (.asg 2 (.bin .add (.bin .add (.bin .add (.var 2) (.kc (.int 2))) (.call "_law_measure" (.cons (.ix (.var 3) (.kc (.int 1))) (.cons (.var 1) .nil)))) (.call "_law_measure" (.cons (.ix (.var 3) (.kc (.int 2))) (.cons (.var 1) .nil)))))
  .nil)
 (.cons (.ite (.cmp .eq (.ix (.var 3) (.kc (.int 0))) (.kc (.str "repeat")))
 (.cons (.asg 2 (.bin .add (.bin .add (.var 2) (.kc (.int 2))) (.bin .mul (.ix (.var 3) (.kc (.int 1))) (.bin .add (.kc (.int 1)) (.call "_law_measure" (.cons (.ix (.var 3) (.kc (.int 2))) (.cons (.var 1) .nil)))))))
  .nil)
 (.cons (.asg 2 (.bin .add (.var 2) (.kc (.int 1))))
  .nil))
  .nil))
  .nil))
  .nil)
def c_law_measure : Ss := (.cons (.asg 2 (.kc (.int 1)))
  (.cons (.for_ (.nm 3) (.tup (.var 0)) c_law_measure_b1)
  (.cons (.ret (.var 2))
  .nil)))
theorem f_law_measure : FnScope n_law_measure p_law_measure (defScope s_law_measure) := ⟨rfl, rfl, rfl, by decide +kernel, rfl, by decide +kernel, by decide +kernel⟩
theorem k_law_measure : chkSs c_law_measure ⟨n_law_measure, defScope s_law_measure, true, [], b_law_measure⟩ (defBody s_law_measure) = true := by decide +kernel

abbrev s_law_sizes : Stmt := top 16
abbrev n_law_sizes : List Str := ["_law_bodies", "_law_sizes_here", "_law_body"]
abbrev p_law_sizes : List Str := ["_law_bodies"]
abbrev b_law_sizes : List String := ["len", "range", "reversed"]
def c_law_sizes_e1 : E := (.dx (.var 1) (.var 2))
def c_law_sizes_b2 : Ss := (.cons (.asd (.var 1) (.var 2) (.bin .add (.kc (.int 1)) (.call "_law_measure" (.cons (.ix (.var 0) (.var 2)) (.cons (.var 1) .nil)))))
  .nil)
def c_law_sizes : Ss := (.cons (.asg 1 (.dct [] .nil))
  (.cons (.for_ (.nm 2) (.revr (.bi .len (.cons (.var 0) .nil))) c_law_sizes_b2)
  (.cons (.ret (.lc c_law_sizes_e1 [2] (.nm 2) (.rng (.cons (.bi .len (.cons (.var 0) .nil)) .nil)) .no))
  .nil)))
theorem f_law_sizes : FnScope n_law_sizes p_law_sizes (defScope s_law_sizes) := ⟨rfl, rfl, rfl, by decide +kernel, rfl, by decide +kernel, by decide +kernel⟩
theorem k_law_sizes : chkSs c_law_sizes ⟨n_law_sizes, defScope s_law_sizes, true, [], b_law_sizes⟩ (defBody s_law_sizes) = true := by decide +kernel

abbrev s_law_chain : Stmt := top 17
abbrev n_law_chain : List Str := ["_law_box_here", "_law_found", "_law_sizes_here", "_law_body", "_law_block_here", "_law_k"]
abbrev p_law_chain : List Str := ["_law_box_here"]
abbrev b_law_chain : List String := ["range", "reversed", "tuple"]
def c_law_chain_e1 : E := (.tup (.cons (.kc (.str "start")) (.cons (.bin .add (.bin .add (.var 3) (.kc (.int 1))) (.call "_law_draw" (.cons (.var 0) (.cons (.bin .sub (.kc (.int 7)) (.var 3)) .nil)))) (.cons (.kc (.str "a")) .nil))))
def c_law_chain_b2 : Ss := (.cons (.asg 4 (.tup .nil))
  (.cons (.ite (.cmp .lt (.var 3) (.kc (.int 7)))
 (.cons (.asg 4 (.bi .tuple (.cons (.lc c_law_chain_e1 [5] (.nm 5) (.rng (.cons (.call "_law_draw" (.cons (.var 0) (.cons (.kc (.int 4)) .nil))) .nil)) .no) .nil)))
  .nil)
 .nil)
  (.cons (.ite (.cmp .gt (.bin .add (.kc (.int 1)) (.call "_law_weight" (.cons (.var 4) (.cons (.var 2) .nil)))) (.kc (.int 600)))
 (.cons (.asg 4 (.tup .nil))
  .nil)
 .nil)
  (.cons (.asd (.var 2) (.var 3) (.bin .add (.kc (.int 1)) (.call "_law_weight" (.cons (.var 4) (.cons (.var 2) .nil)))))
  (.cons (.asg 1 (.bin .add (.tup (.cons (.var 4) .nil)) (.var 1)))
  .nil)))))
def c_law_chain : Ss := (.cons (.asg 1 (.tup .nil))
  (.cons (.asg 2 (.dct [] .nil))
  (.cons (.for_ (.nm 3) (.revr (.kc (.int 8))) c_law_chain_b2)
  (.cons (.ret (.var 1))
  .nil))))
theorem f_law_chain : FnScope n_law_chain p_law_chain (defScope s_law_chain) := ⟨rfl, rfl, rfl, by decide +kernel, rfl, by decide +kernel, by decide +kernel⟩
theorem k_law_chain : chkSs c_law_chain ⟨n_law_chain, defScope s_law_chain, true, [], b_law_chain⟩ (defBody s_law_chain) = true := by decide +kernel

abbrev s_law : Stmt := top 18
abbrev n_law : List Str := ["_law_script", "_law_program_here"]
abbrev p_law : List Str := ["_law_script"]
abbrev b_law : List String := ["tuple"]
def c_law_b1 : Ss := (.cons (.ite (.lnot (.call "_law_same" (.cons (.call "body_sizes" (.cons (.var 1) .nil)) (.cons (.bi .tuple (.cons (.call "_law_sizes" (.cons (.var 1) .nil)) .nil)) .nil))))
 (.cons (.ret (.kc (.bl false)))
  .nil)
 .nil)
  .nil)
def c_law : Ss := (.cons (.for_ (.nm 1) (.tup (.tup (.cons (.call "_law_program" (.cons (.var 0) (.cons (.kc (.int 0)) (.cons (.kc (.int 5)) (.cons (.kc (.int 6)) (.cons (.kc (.int 590)) .nil)))))) (.cons (.call "_law_chain" (.cons (.call "_law_box" (.cons (.var 0) (.cons (.kc (.int 9)) .nil))) .nil)) .nil)))) c_law_b1)
  (.cons (.ret (.kc (.bl true)))
  .nil))
theorem f_law : FnScope n_law p_law (defScope s_law) := ⟨rfl, rfl, rfl, by decide +kernel, rfl, by decide +kernel, by decide +kernel⟩
theorem k_law : chkSs c_law ⟨n_law, defScope s_law, true, [], b_law⟩ (defBody s_law) = true := by decide +kernel

end SK.K01

set_option Elab.async false
set_option linter.all false
set_option maxRecDepth 100000
namespace SK.K01
open PySem PySem.Spec PyProof.Rows L2 SK
/-! ### the law's digits, boxes and draws -/
/-- what a def's promise asks of its code -/
def Ob (code : Ss) (n : Nat) (M : Gm) (sp : Pr) : Prop := ∀ ts G Q X, sp ts G Q X → wpSs code M (slots0 n ts) G { nx := fun _ G' => Q .non G', rt := Q, ex := fun _ => X }
def spCell : Pr := fun ts G Q _ => ∃ (ns : List Int) (k : Int), ts = [.frl (ns.map T.int), .int k] ∧ 0 ≤ k ∧ ∀ z, Q (.int z) G
theorem tAt_map {ns : List Int} {k : Int} (h0 : 0 ≤ k) (h : k < ns.length) : ∃ z, tAt (ns.map T.int) k = some (.int z) := by
  have hk : k.toNat < ns.length := by omega
  refine ⟨ns[k.toNat], ?_⟩
  unfold tAt
  rw [if_pos h0, List.getElem?_map, List.getElem?_eq_getElem hk]
  rfl
theorem w_cell {M : Gm} : Ob c_law_cell 2 M spCell := by
  rintro ts G Q X ⟨ns, k, rfl, h0, q⟩
  simp [c_law_cell, slots0]
  refine cnd_dec (fun h => ?_) (fun h => ?_)
  · obtain ⟨z, e⟩ := tAt_map h0 h
    simp [e]
    refine KB.of ?_
    simp
    exact q z
  · simp
    exact q 0
abbrev zsT (ns : List Int) : List T := ns.map T.int
theorem zsT_snoc (ns : List Int) (z : Int) : zsT ns ++ [T.int z] = zsT (ns ++ [z]) := by simp [zsT]
def spDigits : Pr := fun ts G Q _ => ∃ (c k : Int), ts = [.int c, .int k] ∧ -1000 ≤ k ∧ k ≤ 1000 ∧ ∀ p ns, G p = none → Q (.ref p) (gu G p (.lst (zsT ns)))
theorem cm1 {i j : Int} (h : -(2 ^ 64) < j ∧ j < 2 ^ 64) : CMul i j := .inr h
theorem dig1 {M : Gm} {D : En} {G : Gp} {p : Addr} {k : Int} {w : Option T} {st : Gp → Prop} {f1 f2 f3} (hs : ∀ G, st G) (hD : ∀ c v acc, D.nx [some (.int c), some (.int k), some (.ref p), v, w] (gu G p (.lst (zsT acc)))) :
    ∀ (xs : List T) (acc : List Int) (c : Int) (v : Option T), acc.length + xs.length ≤ 1000 → forB M st (.nm 3) c_law_digits_b1 D xs [some (.int c), some (.int k), some (.ref p), v, w] (gu G p (.lst (zsT acc))) f1 f2 f3
  | [], acc, c, v, h => by simp [hs]; exact hD _ _ _
  | x :: xs, acc, c, v, h => by
    simp only [List.length_cons] at h
    rw [Fcons]
    refine ⟨hs _, ?_⟩
    simp [c_law_digits_b1]
    refine cnd_dec (fun h2 => ?_) (fun h2 => ?_)
    · simp
      refine ⟨by unfold line; omega, KB.of ?_⟩
      simp [gu_gu]
      have := dig1 (M := M) (f1 := .mk) (f2 := .mk) (f3 := .mk) hs hD xs (acc ++ [c % 1000]) (c / 1000) (some x) (by simp; omega)
      rw [← zsT_snoc] at this
      exact this
    · simp
      exact dig1 hs hD xs acc c (some x) (by omega)
theorem upto_int {lo st : Int} {n : Nat} : ∀ x ∈ upto lo st n, ∃ z, x = T.int z := fun x h => by
  unfold upto at h
  obtain ⟨i, _, e⟩ := List.mem_map.mp h
  exact ⟨_, e.symm⟩
@[simp] theorem upto_len {lo st : Int} {n : Nat} : (upto lo st n).length = n := by simp [upto]
theorem dig2 {M : Gm} {D : En} {G : Gp} {p : Addr} {k c : Int} {st : Gp → Prop} {f1 f2 f3} (hs : ∀ G, st G) (hD : ∀ v w acc, D.nx [some (.int c), some (.int k), some (.ref p), v, w] (gu G p (.lst (zsT acc)))) :
    ∀ (xs : List T) (acc : List Int) (s : Int) (v : Option T), (∀ x ∈ xs, ∃ z, x = T.int z) → acc.length + xs.length ≤ 1000 → forB M st (.nm 3) c_law_digits_b2 D xs [some (.int c), some (.int k), some (.ref p), v, some (.int s)] (gu G p (.lst (zsT acc))) f1 f2 f3
  | [], acc, s, v, _, h => by simp [hs]; exact hD _ _ _
  | x :: xs, acc, s, v, hx, h => by
    simp only [List.length_cons] at h
    obtain ⟨x, rfl⟩ := hx x List.mem_cons_self
    rw [Fcons]
    refine ⟨hs _, ?_⟩
    simp [c_law_digits_b2]
    refine ⟨.inr (by decide), .inl (by decide), by unfold line; omega, KB.of ?_⟩
    simp [gu_gu]
    have := dig2 (M := M) (f1 := .mk) (f2 := .mk) (f3 := .mk) hs hD xs (acc ++ [(s * 16807 + 7 * x + 1) % 2147483647 / 997 % 1000]) ((s * 16807 + 7 * x + 1) % 2147483647) (some (.int x)) (fun y hy => hx y (List.mem_cons_of_mem _ hy)) (by simp; omega)
    rw [← zsT_snoc] at this
    exact this
theorem w_digits {M : Gm} : Ob c_law_digits 5 M spDigits := by
  rintro ts G Q X ⟨c, k, rfl, hk1, hk2, q⟩
  simp [c_law_digits, slots0]
  intro p hp
  refine KB.of ?_
  simp
  refine cnd_dec (fun _ => ?_) (fun _ => ?_) <;> simp
  · refine ⟨.inl (by decide), ?_⟩
    refine cnd_dec (fun _ => ?_) (fun _ => ?_) <;> simp
    · exact dig1 (acc := []) (fun _ => trivial) (fun c v acc => by simp; exact q p acc hp) _ _ _ (by simp)
    · refine ⟨.inr (by decide), .inr (by decide), ?_⟩
      exact dig2 (acc := []) (fun _ => trivial) (fun c v acc => by simp; exact q p acc hp) _ _ _ upto_int (by simp)
  · refine cnd_dec (fun _ => ?_) (fun _ => ?_) <;> simp
    · exact dig1 (acc := []) (fun _ => trivial) (fun c v acc => by simp; exact q p acc hp) _ _ _ (by simp)
    · refine ⟨.inr (by decide), .inr (by decide), ?_⟩
      exact dig2 (acc := []) (fun _ => trivial) (fun c v acc => by simp; exact q p acc hp) _ _ _ upto_int (by simp)
/-- a box at a, its digits at d -/
structure BoxAt (G : Gp) (a d : Addr) : Prop where
  ne : a ≠ d
  bx : ∃ i : Int, 0 ≤ i ∧ G a = some (.lst [.ref d, .int i])
  dg : ∃ ns : List Int, G d = some (.lst (zsT ns))
def spBox : Pr := fun ts G Q _ => ∃ (ns : List Int) (k : Int), ts = [.frl (ns.map T.int), .int k] ∧ 0 ≤ k ∧ k ≤ 1000 ∧ ∀ a d G', G a = none → G d = none → (∀ p o, G p = some o → G' p = some o) → BoxAt G' a d → Q (.ref a) G'
theorem w_box {M : Gm} (h1 : M.fn "" "_law_cell" = some spCell) (h2 : M.fn "" "_law_digits" = some spDigits) : Ob c_law_box 2 M spBox := by
  rintro ts G Q X ⟨ns, k, rfl, h0, hk, q⟩
  simp [c_law_box, slots0, Wcall h1, Wcall h2]
  refine PrB.of ⟨ns, k, rfl, h0, fun z => ?_⟩
  simp
  refine PrB.of ⟨z, k, rfl, by omega, hk, fun d ns' hd => ?_⟩
  simp
  intro a ha
  refine KB.of ?_
  have had : a ≠ d := fun e => by subst e; rw [gu_same] at ha; cases ha
  refine q a d _ (by rw [gu_ne had] at ha; exact ha) hd (fun p o e => ?_) ⟨had, ⟨0, by decide, gu_same⟩, ns', by rw [gu_ne had.symm, gu_same]⟩
  have hpd : p ≠ d := fun z => by subst z; rw [hd] at e; cases e
  have hpa : p ≠ a := fun z => by subst z; rw [gu_ne had] at ha; rw [ha] at e; cases e
  rw [gu_ne hpa, gu_ne hpd]
  exact e
def spDraw : Pr := fun ts G Q _ => ∃ (a d : Addr) (m : Int), ts = [.ref a, .int m] ∧ BoxAt G a d ∧ 0 < m ∧ ∀ r G', 0 ≤ r → r < m → BoxAt G' a d → (∀ p, p ≠ a → G' p = G p) → Q (.int r) G'
theorem w_draw {M : Gm} : Ob c_law_draw 3 M spDraw := by
  rintro ts G Q X ⟨a, d, m, rfl, ⟨ne, ⟨i, hi, ea⟩, ns, ed⟩, hm, q⟩
  simp [c_law_draw, slots0, ea, tAt1]
  refine KB.of ?_
  simp [ea]
  refine ⟨1, rfl, KB.of ?_⟩
  simp [gu_same, tAt0]
  refine KB.of ?_
  simp [gu_ne ne.symm, ed]
  refine KB.of ?_
  simp
  have hb : BoxAt (gu G a (.lst [.ref d, .int (i + 1)])) a d := ⟨ne, ⟨i + 1, by omega, gu_same⟩, ns, by rw [gu_ne ne.symm]; exact ed⟩
  refine cnd_dec (fun h => ?_) (fun h => ?_) <;> simp
  · simp [tAt0]
    refine KB.of ?_
    obtain ⟨z, e⟩ := tAt_map hi h
    simp [gu_ne ne.symm, ed, e]
    refine KB.of ?_
    simp
    exact ⟨hm, q _ _ (Int.emod_nonneg _ (by omega)) (Int.emod_lt_of_pos _ hm) hb fun p hp => gu_ne hp⟩
  · exact q 0 _ (by decide) hm hb fun p hp => gu_ne hp
end SK.K01

set_option Elab.async false
set_option linter.all false
set_option maxRecDepth 100000
namespace SK.K01
open PySem PySem.Spec PyProof.Rows L2 SK
/-! ### programs and their sizes -/
def St (ok : List T → Prop) (t : T) : Prop := (∃ (i : Int) (w : String), t = .tup [.str "start", .int i, .str w]) ∨ (∃ kd : String, t = .tup [.str kd] ∧ kd ≠ "start" ∧ kd ≠ "try" ∧ kd ≠ "repeat") ∨
  (∃ kd w : String, t = .tup [.str kd, .str w] ∧ kd ≠ "start" ∧ kd ≠ "try" ∧ kd ≠ "repeat") ∨ (∃ p q, t = .tup [.str "try", .tup p, .tup q] ∧ ok p ∧ ok q) ∨ ∃ (m : Int) (q : List T), t = .tup [.str "repeat", .int m, .tup q] ∧ 0 ≤ m ∧ m < 4 ∧ ok q
def IntD (kvs : List (DK × T)) : Prop := ∀ p ∈ kvs, ∃ z, p.2 = T.int z
def gI (k : Int) (kvs : List (DK × T)) (i : Int) : Int := match dGet kvs (.inl i) with
  | some (.int z) => z
  | _ => k
theorem IntD.get {kvs : List (DK × T)} (h : IntD kvs) {k : DK} {v : T} (e : dGet kvs k = some v) : ∃ z, v = T.int z := by
  unfold dGet at e
  cases f : kvs.find? fun kv => decide (kv.1 = k) with
  | none => rw [f] at e; cases e
  | some p =>
    rw [f] at e
    cases e
    exact h p (List.mem_of_find?_eq_some f)
theorem gI_eq {kvs : List (DK × T)} (h : IntD kvs) {k i : Int} : (dGet kvs (.inl i)).getD (.int k) = .int (gI k kvs i) := by
  unfold gI
  cases e : dGet kvs (.inl i) with
  | none => rfl
  | some v =>
    obtain ⟨z, rfl⟩ := h.get e
    rfl
def szS (f : List T → Int) (k : Int) (kvs : List (DK × T)) : T → Int
  | .tup (.str s :: r) => if s = "start" then (match r with | .int i :: _ => 1 + gI k kvs i | _ => 1) else if s = "try" then (match r with | [.tup a, .tup b] => 2 + f a + f b | _ => 1) else
      if s = "repeat" then (match r with | [.int n, .tup b] => 2 + n * (1 + f b) | _ => 1) else 1
  | _ => 1
/-- size of a block under sizes of bodies: the promise -/
def spSz (ok : List T → Prop) (f : List (DK × T) → List T → Int) : Pr := fun ts G Q _ => ∃ (b : List T) (a : Addr) (kvs : List (DK × T)), ts = [.tup b, .ref a] ∧ G a = some (.dct kvs) ∧ IntD kvs ∧ ok b ∧ Q (.int (f kvs b)) G
theorem z_block_size {M : Gm} {D : En} {G : Gp} {a : Addr} {b : List T} {kvs : List (DK × T)} {st : Gp → Prop} {f1 f2 f3} {ok0 : List T → Prop} {f0 : List (DK × T) → List T → Int} {F : Int} (hs : ∀ G, st G) (ea : G a = some (.dct kvs)) (hi : IntD kvs)
    (hf : M.fn "" "block_size" = some (spSz ok0 f0)) (hD : ∀ v, D.nx [some (.tup b), some (.ref a), some (.int F), v] G) :
    ∀ (xs : List T) (t : Int) (v : Option T), (∀ x ∈ xs, St ok0 x) → t + (xs.map (szS (f0 kvs) 0 kvs)).sum = F → forB M st (.nm 3) c_block_size_b1 D xs [some (.tup b), some (.ref a), some (.int t), v] G f1 f2 f3
  | [], t, v, _, h => by
    simp at h
    subst h
    simp [hs]
    exact hD _
  | x :: xs, t, v, hx, h => by
    have ih := fun t' w (h' : t' + (xs.map (szS (f0 kvs) 0 kvs)).sum = F) => z_block_size (M := M) (f1 := .mk) (f2 := .mk) (f3 := .mk) (st := st) (b := b) hs ea hi hf hD xs t' w (fun y hy => hx y (List.mem_cons_of_mem _ hy)) h'
    simp only [List.map_cons, List.sum_cons] at h
    rw [Fcons]
    refine ⟨hs _, ?_⟩
    rcases hx x List.mem_cons_self with ⟨i, w, rfl⟩ | ⟨kd, rfl, h1, h2, h3⟩ | ⟨kd, w, rfl, h1, h2, h3⟩ | ⟨p, q, rfl, hp, hq⟩ | ⟨m, q, rfl, hm, hm4, hq⟩
    · simp [c_block_size_b1, tAt0, tAt1, tAt2]
      repeat (refine KB.of ?_; simp [ea, tAt0, tAt1])
      rw [gI_eq hi]
      simp
      exact ih _ _ (by simp [szS] at h; omega)
    · simp [c_block_size_b1, tAt0]
      repeat (refine KB.of ?_; simp [tAt0, h1, h2, h3])
      exact ih _ _ (by simp [szS, h1, h2, h3] at h; omega)
    · simp [c_block_size_b1, tAt0]
      repeat (refine KB.of ?_; simp [tAt0, h1, h2, h3])
      exact ih _ _ (by simp [szS, h1, h2, h3] at h; omega)
    · simp [c_block_size_b1, tAt0]
      refine KB.of ?_; simp [tAt0]
      refine KB.of ?_; simp [tAt0, tAt1, tAt2, Wcall hf]
      refine KB.of ?_; simp
      refine PrB.of ⟨p, a, kvs, rfl, ea, hi, hp, ?_⟩
      simp [tAt2, Wcall hf]
      refine KB.of ?_; simp
      refine PrB.of ⟨q, a, kvs, rfl, ea, hi, hq, ?_⟩
      simp
      exact ih _ _ (by simp [szS] at h; omega)
    · simp [c_block_size_b1, tAt0]
      refine KB.of ?_; simp [tAt0]
      refine KB.of ?_; simp [tAt0]
      refine KB.of ?_; simp [tAt1]
      refine KB.of ?_; simp [tAt2, Wcall hf]
      refine KB.of ?_; simp
      refine PrB.of ⟨q, a, kvs, rfl, ea, hi, hq, ?_⟩
      simp
      refine ⟨.inl (by omega), ?_⟩
      exact ih _ _ (by simp [szS] at h; omega)
theorem w_block_size {M : Gm} {ok0 : List T → Prop} {f0 : List (DK × T) → List T → Int} (hf : M.fn "" "block_size" = some (spSz ok0 f0)) : Ob c_block_size 4 M (spSz (fun b => ∀ x ∈ b, St ok0 x) fun kvs b => 1 + (b.map (szS (f0 kvs) 0 kvs)).sum) := by
  rintro ts G Q X ⟨b, a, kvs, rfl, ea, hi, hb, q⟩
  simp [c_block_size, slots0]
  refine z_block_size (fun _ => trivial) ea hi hf (fun v => ?_) b 1 none hb rfl
  simp
  exact q
theorem z_law_weight {M : Gm} {D : En} {G : Gp} {a : Addr} {b : List T} {kvs : List (DK × T)} {st : Gp → Prop} {f1 f2 f3} {ok0 : List T → Prop} {f0 : List (DK × T) → List T → Int} {F : Int} (hs : ∀ G, st G) (ea : G a = some (.dct kvs)) (hi : IntD kvs)
    (hf : M.fn "" "_law_weight" = some (spSz ok0 f0)) (hD : ∀ v, D.nx [some (.tup b), some (.ref a), some (.int F), v] G) :
    ∀ (xs : List T) (t : Int) (v : Option T), (∀ x ∈ xs, St ok0 x) → t + (xs.map (szS (f0 kvs) 1 kvs)).sum = F → forB M st (.nm 3) c_law_weight_b1 D xs [some (.tup b), some (.ref a), some (.int t), v] G f1 f2 f3
  | [], t, v, _, h => by
    simp at h
    subst h
    simp [hs]
    exact hD _
  | x :: xs, t, v, hx, h => by
    have ih := fun t' w (h' : t' + (xs.map (szS (f0 kvs) 1 kvs)).sum = F) => z_law_weight (M := M) (f1 := .mk) (f2 := .mk) (f3 := .mk) (st := st) (b := b) hs ea hi hf hD xs t' w (fun y hy => hx y (List.mem_cons_of_mem _ hy)) h'
    simp only [List.map_cons, List.sum_cons] at h
    rw [Fcons]
    refine ⟨hs _, ?_⟩
    rcases hx x List.mem_cons_self with ⟨i, w, rfl⟩ | ⟨kd, rfl, h1, h2, h3⟩ | ⟨kd, w, rfl, h1, h2, h3⟩ | ⟨p, q, rfl, hp, hq⟩ | ⟨m, q, rfl, hm, hm4, hq⟩
    · simp [c_law_weight_b1, tAt0, tAt1, tAt2]
      repeat (refine KB.of ?_; simp [ea, tAt0, tAt1])
      rw [gI_eq hi]
      simp
      exact ih _ _ (by simp [szS] at h; omega)
    · simp [c_law_weight_b1, tAt0]
      repeat (refine KB.of ?_; simp [tAt0, h1, h2, h3])
      exact ih _ _ (by simp [szS, h1, h2, h3] at h; omega)
    · simp [c_law_weight_b1, tAt0]
      repeat (refine KB.of ?_; simp [tAt0, h1, h2, h3])
      exact ih _ _ (by simp [szS, h1, h2, h3] at h; omega)
    · simp [c_law_weight_b1, tAt0]
      refine KB.of ?_; simp [tAt0]
      refine KB.of ?_; simp [tAt0, tAt1, tAt2, Wcall hf]
      refine KB.of ?_; simp
      refine PrB.of ⟨p, a, kvs, rfl, ea, hi, hp, ?_⟩
      simp [tAt2, Wcall hf]
      refine KB.of ?_; simp
      refine PrB.of ⟨q, a, kvs, rfl, ea, hi, hq, ?_⟩
      simp
      exact ih _ _ (by simp [szS] at h; omega)
    · simp [c_law_weight_b1, tAt0]
      refine KB.of ?_; simp [tAt0]
      refine KB.of ?_; simp [tAt0]
      refine KB.of ?_; simp [tAt1]
      refine KB.of ?_; simp [tAt2, Wcall hf]
      refine KB.of ?_; simp
      refine PrB.of ⟨q, a, kvs, rfl, ea, hi, hq, ?_⟩
      simp
      refine ⟨.inl (by omega), ?_⟩
      exact ih _ _ (by simp [szS] at h; omega)
theorem w_law_weight {M : Gm} {ok0 : List T → Prop} {f0 : List (DK × T) → List T → Int} (hf : M.fn "" "_law_weight" = some (spSz ok0 f0)) : Ob c_law_weight 4 M (spSz (fun b => ∀ x ∈ b, St ok0 x) fun kvs b => 1 + (b.map (szS (f0 kvs) 1 kvs)).sum) := by
  rintro ts G Q X ⟨b, a, kvs, rfl, ea, hi, hb, q⟩
  simp [c_law_weight, slots0]
  refine z_law_weight (fun _ => trivial) ea hi hf (fun v => ?_) b 1 none hb rfl
  simp
  exact q
theorem z_law_measure {M : Gm} {D : En} {G : Gp} {a : Addr} {b : List T} {kvs : List (DK × T)} {st : Gp → Prop} {f1 f2 f3} {ok0 : List T → Prop} {f0 : List (DK × T) → List T → Int} {F : Int} (hs : ∀ G, st G) (ea : G a = some (.dct kvs)) (hi : IntD kvs)
    (hf : M.fn "" "_law_measure" = some (spSz ok0 f0)) (hD : ∀ v, D.nx [some (.tup b), some (.ref a), some (.int F), v] G) :
    ∀ (xs : List T) (t : Int) (v : Option T), (∀ x ∈ xs, St ok0 x) → t + (xs.map (szS (f0 kvs) 0 kvs)).sum = F → forB M st (.nm 3) c_law_measure_b1 D xs [some (.tup b), some (.ref a), some (.int t), v] G f1 f2 f3
  | [], t, v, _, h => by
    simp at h
    subst h
    simp [hs]
    exact hD _
  | x :: xs, t, v, hx, h => by
    have ih := fun t' w (h' : t' + (xs.map (szS (f0 kvs) 0 kvs)).sum = F) => z_law_measure (M := M) (f1 := .mk) (f2 := .mk) (f3 := .mk) (st := st) (b := b) hs ea hi hf hD xs t' w (fun y hy => hx y (List.mem_cons_of_mem _ hy)) h'
    simp only [List.map_cons, List.sum_cons] at h
    rw [Fcons]
    refine ⟨hs _, ?_⟩
    rcases hx x List.mem_cons_self with ⟨i, w, rfl⟩ | ⟨kd, rfl, h1, h2, h3⟩ | ⟨kd, w, rfl, h1, h2, h3⟩ | ⟨p, q, rfl, hp, hq⟩ | ⟨m, q, rfl, hm, hm4, hq⟩
    · simp [c_law_measure_b1, tAt0, tAt1, tAt2]
      repeat (refine KB.of ?_; simp [ea, tAt0, tAt1])
      rw [gI_eq hi]
      simp
      exact ih _ _ (by simp [szS] at h; omega)
    · simp [c_law_measure_b1, tAt0]
      repeat (refine KB.of ?_; simp [tAt0, h1, h2, h3])
      exact ih _ _ (by simp [szS, h1, h2, h3] at h; omega)
    · simp [c_law_measure_b1, tAt0]
      repeat (refine KB.of ?_; simp [tAt0, h1, h2, h3])
      exact ih _ _ (by simp [szS, h1, h2, h3] at h; omega)
    · simp [c_law_measure_b1, tAt0]
      refine KB.of ?_; simp [tAt0]
      refine KB.of ?_; simp [tAt0, tAt1, tAt2, Wcall hf]
      refine KB.of ?_; simp
      refine PrB.of ⟨p, a, kvs, rfl, ea, hi, hp, ?_⟩
      simp [tAt2, Wcall hf]
      refine KB.of ?_; simp
      refine PrB.of ⟨q, a, kvs, rfl, ea, hi, hq, ?_⟩
      simp
      exact ih _ _ (by simp [szS] at h; omega)
    · simp [c_law_measure_b1, tAt0]
      refine KB.of ?_; simp [tAt0]
      refine KB.of ?_; simp [tAt0]
      refine KB.of ?_; simp [tAt1]
      refine KB.of ?_; simp [tAt2, Wcall hf]
      refine KB.of ?_; simp
      refine PrB.of ⟨q, a, kvs, rfl, ea, hi, hq, ?_⟩
      simp
      refine ⟨.inl (by omega), ?_⟩
      exact ih _ _ (by simp [szS] at h; omega)
theorem w_law_measure {M : Gm} {ok0 : List T → Prop} {f0 : List (DK × T) → List T → Int} (hf : M.fn "" "_law_measure" = some (spSz ok0 f0)) : Ob c_law_measure 4 M (spSz (fun b => ∀ x ∈ b, St ok0 x) fun kvs b => 1 + (b.map (szS (f0 kvs) 0 kvs)).sum) := by
  rintro ts G Q X ⟨b, a, kvs, rfl, ea, hi, hb, q⟩
  simp [c_law_measure, slots0]
  refine z_law_measure (fun _ => trivial) ea hi hf (fun v => ?_) b 1 none hb rfl
  simp
  exact q
end SK.K01

set_option Elab.async false
set_option linter.all false
set_option maxRecDepth 100000
namespace SK.K01
open PySem PySem.Spec PyProof.Rows L2 SK
theorem cutT_one {x : T} {r : List T} : cutT (x :: r) (some 1) none = r := by
  unfold cutT HT.sIx
  simp
/-! ### counts -/
def spCnt (ok : List T → Prop) : Pr := fun ts G Q _ => ∃ b : List T, ts = [.tup b] ∧ ok b ∧ ∀ z, Q (.int z) G
theorem cnt1 {M : Gm} {D : En} {G : Gp} {b : T} {w : Option T} {st : Gp → Prop} {f1 f2 f3} {ok0 : List T → Prop} (hs : ∀ G, st G) (hf : M.fn "" "_law_count" = some (spCnt ok0)) (hD : ∀ n v, D.nx [some b, some (.int n), w, v] G) :
    ∀ (xs : List T) (n : Int) (v : Option T), (∀ x ∈ xs, (∃ i, x = T.int i) ∨ (∃ s, x = T.str s) ∨ ∃ q, x = T.tup q ∧ ok0 q) → forB M st (.nm 3) c_law_count_b1 D xs [some b, some (.int n), w, v] G f1 f2 f3
  | [], n, v, _ => by simp [hs]; exact hD _ _
  | x :: xs, n, v, hx => by
    have ih := fun n' w' => cnt1 (M := M) (f1 := .mk) (f2 := .mk) (f3 := .mk) (st := st) hs hf hD xs n' w' (fun y hy => hx y (List.mem_cons_of_mem _ hy))
    rw [Fcons]
    refine ⟨hs _, ?_⟩
    rcases hx x List.mem_cons_self with ⟨i, rfl⟩ | ⟨s, rfl⟩ | ⟨q, rfl, hq⟩
    · simp [c_law_count_b1]; exact ih _ _
    · simp [c_law_count_b1]; exact ih _ _
    · simp [c_law_count_b1, Wcall hf]
      refine PrB.of ⟨q, rfl, hq, fun z => ?_⟩
      simp
      exact ih _ _
theorem cnt2 {M : Gm} {D : En} {G : Gp} {b : T} {st : Gp → Prop} {f1 f2 f3} {ok0 : List T → Prop} (hs : ∀ G, st G) (hf : M.fn "" "_law_count" = some (spCnt ok0)) (hD : ∀ n w v, D.nx [some b, some (.int n), w, v] G) :
    ∀ (xs : List T) (n : Int) (w v : Option T), (∀ x ∈ xs, St ok0 x) → forB M st (.nm 2) c_law_count_b2 D xs [some b, some (.int n), w, v] G f1 f2 f3
  | [], n, w, v, _ => by simp [hs]; exact hD _ _ _
  | x :: xs, n, w, v, hx => by
    have ih := fun n' w' v' => cnt2 (M := M) (f1 := .mk) (f2 := .mk) (f3 := .mk) (st := st) hs hf hD xs n' w' v' (fun y hy => hx y (List.mem_cons_of_mem _ hy))
    rw [Fcons]
    refine ⟨hs _, ?_⟩
    obtain ⟨k, r, rfl, hr⟩ : ∃ k r, x = .tup (k :: r) ∧ ∀ y ∈ r, (∃ i, y = T.int i) ∨ (∃ s, y = T.str s) ∨ ∃ q, y = T.tup q ∧ ok0 q := by
      rcases hx x List.mem_cons_self with ⟨i, s, rfl⟩ | ⟨kd, rfl, _⟩ | ⟨kd, s, rfl, _⟩ | ⟨p, q, rfl, hp, hq⟩ | ⟨m, q, rfl, hm, hm4, hq⟩
      · exact ⟨_, _, rfl, by simp⟩
      · exact ⟨_, _, rfl, by simp⟩
      · exact ⟨_, _, rfl, by simp⟩
      · exact ⟨_, _, rfl, by simp; exact ⟨hp, hq⟩⟩
      · exact ⟨_, _, rfl, by simp; exact hq⟩
    simp [c_law_count_b2, cutT_one]
    exact cnt1 (fun _ => trivial) hf (fun n v => by simp; exact ih _ _ _) r _ _ hr
theorem w_count {M : Gm} {ok0 : List T → Prop} (hf : M.fn "" "_law_count" = some (spCnt ok0)) : Ob c_law_count 4 M (spCnt fun b => ∀ x ∈ b, St ok0 x) := by
  rintro ts G Q X ⟨b, rfl, hb, q⟩
  simp [c_law_count, slots0]
  exact cnt2 (fun _ => trivial) hf (fun n w v => by simp; exact q n) b _ _ _ hb
/-! ### the same -/
def Ext (G G' : Gp) : Prop := ∀ p o, G p = some o → G' p = some o
theorem Ext.refl (G : Gp) : Ext G G := fun _ _ h => h
theorem Ext.trans {G G1 G2 : Gp} (a : Ext G G1) (b : Ext G1 G2) : Ext G G2 := fun p o h => b p o (a p o h)
theorem Ext.gu {G G1 : Gp} {p : Addr} {o : GO} (h : G p = none) (a : Ext G G1) : Ext G (SK.gu G1 p o) := fun q u e => by
  have hq : q ≠ p := fun z => by subst z; rw [h] at e; cases e
  rw [gu_ne hq]
  exact a q u e
def Vl (ok : T → Prop) (t : T) : Prop := (∃ i, t = .int i) ∨ (∃ s, t = .str s) ∨ ∃ xs, t = .tup xs ∧ xs.length < 1000000 ∧ ∀ x ∈ xs, ok x
def spSame (ok : T → Prop) : Pr := fun ts G Q _ => ∃ t, ts = [t, t] ∧ ok t ∧ ∀ G', Ext G G' → Q (.bl true) G'
def spIsInt : Pr := fun ts G Q _ => ∃ i, ts = [.int i] ∧ Q (.bl true) G
theorem w_is_integer {M : Gm} : Ob c_law_is_integer 1 M spIsInt := by
  rintro ts G Q X ⟨i, rfl, q⟩
  simp [c_law_is_integer, slots0]
  exact q
theorem same1 {M : Gm} {G0 : Gp} {xs : List T} {A : Addr} {Q : QT} {v : Option T} {ok : T → Prop} {st : Gp → Prop} {f1 f2} (hs : ∀ G, st G) (hf : M.fn "" "_law_same" = some (spSame ok)) (hx : ∀ x ∈ xs, ok x) (hA : G0 A = none)
    (hQ : ∀ (bs : List Bool) G', bs.all id = true → G' A = some (.lst (bs.map T.bl)) → Ext G0 G' → Q (.ref A) G') :
    ∀ (ys : List T) (bs : List Bool) (G : Gp), (∀ y ∈ ys, ∃ i : Int, y = .int i ∧ 0 ≤ i ∧ i < xs.length) → bs.all id = true → bs.length + ys.length ≤ 1000000 → G A = some (.lst (bs.map T.bl)) → Ext G0 G → lcB M st (.nm 2) [2] .no c_law_same_e1 A ys [some (.tup xs), some (.tup xs), v] G Q f1 f2
  | [], bs, G, _, hb, _, ha, he => by simp [hs]; exact hQ bs G hb ha he
  | y :: ys, bs, G, hy, hb, hl, ha, he => by
    obtain ⟨i, rfl, h0, h1⟩ := hy y List.mem_cons_self
    obtain ⟨t, e1, e2⟩ := tAt_get h0 h1
    simp only [List.length_cons] at hl
    rw [Lcons]
    refine ⟨hs _, ?_⟩
    simp [c_law_same_e1, Wcall hf, e1]
    refine KB.of ?_; simp [e1]
    refine KB.of ?_; simp
    refine PrB.of ⟨t, rfl, hx t (List.mem_of_getElem? e2), fun G' hG => ?_⟩
    refine ⟨_, hG _ _ ha, by simp [line]; omega, ?_⟩
    have e3 : bs.map T.bl ++ [T.bl true] = (bs ++ [true]).map T.bl := by simp
    rw [e3]
    exact same1 hs hf hx hA hQ ys (bs ++ [true]) _ (fun z hz => hy z (List.mem_cons_of_mem _ hz)) (by simp [hb]) (by simp; omega) gu_same (Ext.gu hA (he.trans hG))
theorem upto_mem {n : Nat} : ∀ y ∈ upto 0 1 n, ∃ i : Int, y = .int i ∧ 0 ≤ i ∧ i < n := fun y h => by
  unfold upto at h
  obtain ⟨i, hi, e⟩ := List.mem_map.mp h
  have := List.mem_range.mp hi
  exact ⟨0 + (i : Int) * 1, e.symm, by omega, by omega⟩
theorem w_same {M : Gm} {ok : T → Prop} (hf : M.fn "" "_law_same" = some (spSame ok)) (hi : M.fn "" "_law_is_integer" = some spIsInt) : Ob c_law_same 3 M (spSame (Vl ok)) := by
  rintro ts G Q X ⟨t, rfl, ht, q⟩
  rcases ht with ⟨i, rfl⟩ | ⟨s, rfl⟩ | ⟨xs, rfl, hl, hx⟩
  · simp [c_law_same, slots0, Wcall hi]
    refine PrB.of ⟨i, rfl, ?_⟩
    simp
    exact q _ (Ext.refl _)
  · simp [c_law_same, slots0]
    exact q _ (Ext.refl _)
  · simp [c_law_same, slots0]
    refine ⟨by omega, fun A hA => ?_⟩
    refine same1 (fun _ => trivial) hf hx hA (fun bs G' hb ha he => ?_) _ [] _ (by simpa using upto_mem) rfl (by simp; omega) gu_same (Ext.gu hA (Ext.refl _))
    simp [ha]
    refine ⟨bs, rfl, KB.of ?_⟩
    rw [hb]
    exact q _ he
end SK.K01

set_option Elab.async false
set_option linter.all false
set_option maxRecDepth 100000
namespace SK.K01
open PySem PySem.Spec PyProof.Rows L2 SK
/-! ### words and blocks -/
theorem tAt_all {xs : List T} {i : Int} {P : T → Prop} (h : ∀ x ∈ xs, P x) (h0 : 0 ≤ i) (h1 : i < xs.length) : ∃ v, tAt xs i = some v ∧ P v := by
  obtain ⟨v, e1, e2⟩ := tAt_get h0 h1
  exact ⟨v, e1, h v (List.mem_of_getElem? e2)⟩
theorem eqx {α : Type} {x : Option α} {v : α} {P : α → Prop} (e : x = some v) (h : P v) : ∃ u, x = some u ∧ P u := ⟨v, e, h⟩
def spWord : Pr := fun ts G Q _ => ∃ a d, ts = [.ref a] ∧ BoxAt G a d ∧ ∀ w G', BoxAt G' a d → (∀ p, p ≠ a → G' p = G p) → Q (.str w) G'
theorem w_word {M : Gm} (hf : M.fn "" "_law_draw" = some spDraw) : Ob c_law_word 1 M spWord := by
  rintro ts G Q X ⟨a, d, rfl, hb, q⟩
  simp [c_law_word, slots0, Wcall hf]
  refine PrB.of ⟨a, d, 8, rfl, hb, by decide, fun r G' h0 h1 hb' hg => ?_⟩
  simp
  obtain ⟨v, e, w, rfl⟩ := tAt_all (P := fun t => ∃ w, t = T.str w) (xs := [.str "a", .str "b", .str "c", .str "d", .str "e0", .str "x", .str "9", .str "longer99"]) (by simp) h0 (by simpa using h1)
  exact eqx e (KB.of (q w _ hb' hg))
/-- all but the box at a stays -/
def Fr (a : Addr) (G G' : Gp) : Prop := ∀ p o, p ≠ a → G p = some o → G' p = some o
def okB : Nat → List T → Prop
  | 0 => fun _ => False
  | d + 1 => fun b => b.length < 1000 ∧ ∀ x ∈ b, St (okB d) x
def spBlk : Nat → Pr
  | 0 => fun _ _ _ _ => False
  | n + 1 => fun ts G Q _ => ∃ (a d : Addr) (most body bodies : Int), ts = [.ref a, .int n, .int most, .int body, .int bodies] ∧ BoxAt G a d ∧ 0 ≤ most ∧ most ≤ 100 ∧ 0 ≤ body ∧ body < bodies ∧
      ∀ b G', okB (n + 1) b → BoxAt G' a d → Fr a G G' → Q (.tup b) G'
structure BInv (n : Nat) (G0 : Gp) (a d l : Addr) (G : Gp) (xs : List T) : Prop where
  bx : BoxAt G a d
  fr : Fr a G0 G
  la : l ≠ a
  ld : l ≠ d
  l0 : G0 l = none
  lst : G l = some (.lst xs)
  ok : ∀ x ∈ xs, St (okB n) x
theorem BInv.same {n : Nat} {G0 G G' : Gp} {a d l : Addr} {xs : List T} (I : BInv n G0 a d l G xs) (h : BoxAt G' a d) (f : Fr a G G') : BInv n G0 a d l G' xs :=
  ⟨h, fun p o hp e => f p o hp (I.fr p o hp e), I.la, I.ld, I.l0, f _ _ I.la I.lst, I.ok⟩
theorem fr_of {a : Addr} {G G' : Gp} (h : ∀ p, p ≠ a → G' p = G p) : Fr a G G' := fun p o hp e => by rw [h p hp]; exact e
theorem BInv.app {n : Nat} {G0 G : Gp} {a d l : Addr} {xs : List T} (I : BInv n G0 a d l G xs) {x : T} (hx : St (okB n) x) : BInv n G0 a d l (gu G l (.lst (xs ++ [x]))) (xs ++ [x]) := by
  obtain ⟨⟨ne, ⟨i, hi, ea⟩, ns, ed⟩, fr, la, ld, l0, lst, ok⟩ := I
  refine ⟨⟨ne, ⟨i, hi, by rw [gu_ne la.symm]; exact ea⟩, ns, by rw [gu_ne ld.symm]; exact ed⟩, fun p o hp e => ?_, la, ld, l0, gu_same, fun y hy => ?_⟩
  · have hpl : p ≠ l := fun z => by subst z; rw [l0] at e; cases e
    rw [gu_ne hpl]
    exact fr p o hp e
  · rcases List.mem_append.mp hy with h | h
    · exact ok y h
    · simp at h; subst h; exact hx
theorem blk1 {M : Gm} {D : En} {G0 : Gp} {n : Nat} {a d l : Addr} {k most body bodies : Int} {st : Gp → Prop} {f1 f2 f3} (hs : ∀ G, st G) (hk : k = (n : Int)) (hd : M.fn "" "_law_draw" = some spDraw) (hw : M.fn "" "_law_word" = some spWord) (hf : M.fn "" "_law_block" = some (spBlk n)) (hb0 : 0 ≤ body) (hb1 : body < bodies)
    (hD : ∀ G xs v6 v7 v8 v9, BInv n G0 a d l G xs → xs.length ≤ 200 → D.nx [some (.ref a), some (.int k), some (.int most), some (.int body), some (.int bodies), some (.ref l), v6, v7, v8, v9] G) :
    ∀ (ys : List T) (G : Gp) (xs : List T) (v6 v7 v8 v9 : Option T), BInv n G0 a d l G xs → xs.length + ys.length ≤ 200 →
      forB M st (.nm 6) c_law_block_b1 D ys [some (.ref a), some (.int k), some (.int most), some (.int body), some (.int bodies), some (.ref l), v6, v7, v8, v9] G f1 f2 f3
  | [], G, xs, v6, v7, v8, v9, I, hl => by simp [hs]; exact hD G xs _ _ _ _ I (by simpa using hl)
  | y :: ys, G, xs, v6, v7, v8, v9, I, hl => by
    simp only [List.length_cons] at hl
    have ih := fun G' x v6' v7' v8' v9' (I' : BInv n G0 a d l G' xs) (hx : St (okB n) x) => blk1 (M := M) (f1 := .mk) (f2 := .mk) (f3 := .mk) (st := st) (most := most) hs hk hd hw hf hb0 hb1 hD ys _ (xs ++ [x]) v6' v7' v8' v9' (I'.app hx) (by simp; omega)
    have hxl : xs.length < line := by unfold line; omega
    rw [Fcons]
    refine ⟨hs _, ?_⟩
    simp [c_law_block_b1, Wcall hd]
    refine PrB.of ⟨a, d, 16, rfl, I.bx, by decide, fun r G1 h0 h1 b1 g1 => ?_⟩
    have I1 := I.same b1 (fr_of g1)
    simp [Wcall hd]
    refine PrB.of ⟨a, d, 6, rfl, b1, by decide, fun r2 G2 h20 h21 b2 g2 => ?_⟩
    have I2 := I1.same b2 (fr_of g2)
    simp
    obtain ⟨v, e, w, rfl⟩ := tAt_all (P := fun t => ∃ w, t = T.str w) (xs := [.str "a", .str "b", .str "a", .str "c", .str "d", .str "a"]) (by simp) h20 (by simpa using h21)
    refine eqx e (KB.of ?_)
    simp
    refine cnd_dec (fun _ => ?_) (fun _ => ?_)
    · simp [I2.lst, Wcall hw]
      refine PrB.of ⟨a, d, rfl, b2, fun s G3 b3 g3 => ?_⟩
      have I3 := I2.same b3 (fr_of g3)
      simp [I3.lst, hxl]
      refine KB.of ?_
      simp
      exact ih _ _ _ _ _ _ I3 (.inr (.inr (.inl ⟨"say", s, rfl, by decide, by decide, by decide⟩)))
    simp
    refine cnd_dec (fun _ => ?_) (fun _ => ?_)
    · simp [I2.lst, hxl]
      refine KB.of ?_
      simp
      exact ih _ _ _ _ _ _ I2 (.inr (.inl ⟨"pause", rfl, by decide, by decide, by decide⟩))
    simp
    have tri : (r < 9 ∧ body + 1 < bodies) ∨ (r < 9 ∧ ¬ body + 1 < bodies) ∨ ¬ r < 9 := by omega
    rcases tri with ⟨h1, h2⟩ | ⟨h1, h2⟩ | h1
    · simp [h1, h2, I2.lst, Wcall hd]
      refine PrB.of ⟨a, d, _, rfl, b2, by omega, fun s G3 h30 h31 b3 g3 => ?_⟩
      have I3 := I2.same b3 (fr_of g3)
      simp [I3.lst, hxl]
      refine KB.of ?_
      simp
      exact ih _ _ _ _ _ _ I3 (.inl ⟨_, _, rfl⟩)
    all_goals
      first | simp [h1, h2] | simp [h1]
      refine cnd_dec (fun _ => ?_) (fun _ => ?_)
      · simp [I2.lst, hxl]
        refine KB.of ?_
        simp
        exact ih _ _ _ _ _ _ I2 (.inr (.inr (.inl ⟨"wait", w, rfl, by decide, by decide, by decide⟩)))
      simp
      refine cnd_dec (fun _ => ?_) (fun _ => ?_)
      · simp [I2.lst, hxl, Wcall hd]
        refine PrB.of ⟨a, d, 4, rfl, b2, by decide, fun s G3 h30 h31 b3 g3 => ?_⟩
        have I3 := I2.same b3 (fr_of g3)
        simp
        obtain ⟨v', e', hv'⟩ := tAt_all (P := fun t => St (okB n) t) (xs := [.tup [.str "adopt", .str w], .tup [.str "fail"], .tup [.str "return"], .tup [.str "pause"]]) (i := s)
          (by
            simp
            exact ⟨.inr (.inr (.inl ⟨"adopt", w, rfl, by decide, by decide, by decide⟩)), .inr (.inl ⟨"fail", rfl, by decide, by decide, by decide⟩), .inr (.inl ⟨"return", rfl, by decide, by decide, by decide⟩), .inr (.inl ⟨"pause", rfl, by decide, by decide, by decide⟩)⟩) h30 (by simpa using h31)
        refine eqx e' (KB.of ?_)
        simp [I3.lst, hxl]
        refine KB.of ?_
        simp
        exact ih _ _ _ _ _ _ I3 hv'
      simp
      cases n with
      | zero =>
        have hk0 : ¬ (0 < k) := by omega
        by_cases h14 : r < 14
        · simp [h14, hk0, I2.lst, Wcall hw]
          refine PrB.of ⟨a, d, rfl, b2, fun s G3 b3 g3 => ?_⟩
          have I3 := I2.same b3 (fr_of g3)
          simp [I3.lst, hxl]
          refine KB.of ?_
          simp
          exact ih _ _ _ _ _ _ I3 (.inr (.inr (.inl ⟨"say", s, rfl, by decide, by decide, by decide⟩)))
        · simp [h14, hk0, I2.lst, Wcall hw]
          refine PrB.of ⟨a, d, rfl, b2, fun s G3 b3 g3 => ?_⟩
          have I3 := I2.same b3 (fr_of g3)
          simp [I3.lst, hxl]
          refine KB.of ?_
          simp
          exact ih _ _ _ _ _ _ I3 (.inr (.inr (.inl ⟨"say", s, rfl, by decide, by decide, by decide⟩)))
      | succ m =>
        have hk0 : 0 < k := by omega
        have hk1 : k - 1 = (m : Int) := by omega
        by_cases h14 : r < 14
        · simp [h14, hk0, I2.lst, Wcall hf]
          refine PrB.of ⟨a, d, 3, body, bodies, by rw [hk1], b2, by decide, by decide, hb0, hb1, fun p G3 hp b3 f3 => ?_⟩
          have I3 := I2.same b3 f3
          simp [I3.lst, Wcall hf]
          refine PrB.of ⟨a, d, 2, body, bodies, by rw [hk1], b3, by decide, by decide, hb0, hb1, fun q G4 hq b4 f4 => ?_⟩
          have I4 := I3.same b4 f4
          simp [I4.lst, hxl]
          refine KB.of ?_
          exact ih _ _ _ _ _ _ I4 (.inr (.inr (.inr (.inl ⟨p, q, rfl, hp, hq⟩))))
        · simp [h14, hk0, I2.lst, Wcall hf, Wcall hd]
          refine PrB.of ⟨a, d, 4, rfl, b2, by decide, fun s G3 h30 h31 b3 g3 => ?_⟩
          have I3 := I2.same b3 (fr_of g3)
          simp [I3.lst, Wcall hf]
          refine PrB.of ⟨a, d, 3, body, bodies, by rw [hk1], b3, by decide, by decide, hb0, hb1, fun q G4 hq b4 f4 => ?_⟩
          have I4 := I3.same b4 f4
          simp [I4.lst, hxl]
          refine KB.of ?_
          simp
          exact ih _ _ _ _ _ _ I4 (.inr (.inr (.inr (.inr ⟨s, q, rfl, h30, h31, hq⟩))))
theorem w_block {M : Gm} {n : Nat} (hd : M.fn "" "_law_draw" = some spDraw) (hw : M.fn "" "_law_word" = some spWord) (hf : M.fn "" "_law_block" = some (spBlk n)) : Ob c_law_block 10 M (spBlk (n + 1)) := by
  rintro ts G Q X ⟨a, d, most, body, bodies, rfl, hb, hm0, hm1, hb0, hb1, q⟩
  simp [c_law_block, slots0, Wcall hd]
  intro l hl
  refine KB.of ?_
  have la : l ≠ a := fun z => by
    obtain ⟨_, ⟨i, _, e⟩, _⟩ := hb
    subst z
    rw [hl] at e
    cases e
  have ld : l ≠ d := fun z => by
    obtain ⟨_, _, ns, e⟩ := hb
    subst z
    rw [hl] at e
    cases e
  have I0 : BInv n G a d l (gu G l (.lst [])) [] := by
    refine ⟨⟨hb.ne, ?_, ?_⟩, fun p o hp e => ?_, la, ld, hl, gu_same, by simp⟩
    · obtain ⟨i, h0, e⟩ := hb.bx
      exact ⟨i, h0, by rw [gu_ne la.symm]; exact e⟩
    · obtain ⟨ns, e⟩ := hb.dg
      exact ⟨ns, by rw [gu_ne ld.symm]; exact e⟩
    · have hpl : p ≠ l := fun z => by subst z; rw [hl] at e; cases e
      rw [gu_ne hpl]
      exact e
  simp [Wcall hd]
  refine PrB.of ⟨a, d, _, rfl, I0.bx, by omega, fun r G1 h0 h1 b1 g1 => ?_⟩
  have I1 := I0.same b1 (fr_of g1)
  simp
  refine ⟨⟨by omega, by omega⟩, ?_⟩
  refine blk1 (fun _ => trivial) rfl hd hw hf hb0 hb1 (fun G2 xs v6 v7 v8 v9 I2 hl2 => ?_) _ _ [] _ _ _ _ I1 (by simp; omega)
  simp [I2.lst]
  refine KB.of ?_
  exact q xs _ ⟨by omega, I2.ok⟩ I2.bx I2.fr
end SK.K01

set_option Elab.async false
set_option linter.all false
set_option maxRecDepth 100000
namespace SK.K01
open PySem PySem.Spec PyProof.Rows L2 SK
/-! ### sizes of all bodies -/
def stepD (f : List (DK × T) → List T → Int) (bs : List T) (kvs : List (DK × T)) : T → List (DK × T)
  | .int i => match tAt bs i with
    | some (.tup q) => dPut kvs (.inl i) (.int (1 + f kvs q))
    | _ => kvs
  | _ => kvs
def fin (f : List (DK × T) → List T → Int) (bs : List T) : List (DK × T) := (upto ((bs.length : Int) - 1) (-1) bs.length).foldl (stepD f bs) []
def pick (F : List (DK × T)) : T → T
  | .int i => (dGet F (.inl i)).getD .non
  | _ => .non
def szList (f : List (DK × T) → List T → Int) (bs : List T) : List T := (upto 0 1 bs.length).map (pick (fin f bs))
theorem dPut_len {kvs : List (DK × T)} {k : DK} {v : T} : (dPut kvs k v).length ≤ kvs.length + 1 := by
  unfold dPut
  split <;> simp
theorem dPut_int {kvs : List (DK × T)} {k : DK} {z : Int} (h : IntD kvs) : IntD (dPut kvs k (.int z)) := by
  unfold dPut
  split
  · intro p hp
    obtain ⟨q, hq, e⟩ := List.mem_map.mp hp
    subst e
    split
    · exact ⟨z, rfl⟩
    · exact h q hq
  · intro p hp
    rcases List.mem_append.mp hp with hp | hp
    · exact h p hp
    · simp at hp; subst hp; exact ⟨z, rfl⟩
def Bods (ok : List T → Prop) (bs : List T) : Prop := ∀ b ∈ bs, ∃ q, b = T.tup q ∧ ok q
theorem stepD_has {f : List (DK × T) → List T → Int} {bs : List T} {i : Int} {ok : List T → Prop} (hb : Bods ok bs) : ∀ (ys : List T) (kvs : List (DK × T)), (∀ y ∈ ys, ∃ i : Int, y = .int i ∧ 0 ≤ i ∧ i < bs.length) →
    (.int i ∈ ys ∨ (dGet kvs (.inl i)).isSome = true) → (dGet (ys.foldl (stepD f bs) kvs) (.inl i)).isSome = true
  | [], kvs, _, h => by
    rcases h with h | h
    · simp at h
    · exact h
  | y :: ys, kvs, hy, h => by
    rw [List.foldl_cons]
    obtain ⟨j, rfl, h0, h1⟩ := hy y List.mem_cons_self
    obtain ⟨v, e1, e2⟩ := tAt_get h0 h1
    obtain ⟨q, rfl, _⟩ := hb v (List.mem_of_getElem? e2)
    have es : stepD f bs kvs (.int j) = dPut kvs (.inl j) (.int (1 + f kvs q)) := by simp [stepD, e1]
    refine stepD_has hb ys _ (fun z hz => hy z (List.mem_cons_of_mem _ hz)) ?_
    rw [es, dGet_put]
    by_cases e : (Sum.inl i : DK) = .inl j
    · right; rw [if_pos e]; rfl
    · rw [if_neg e]
      rcases h with h | h
      · rcases List.mem_cons.mp h with h | h
        · exact absurd (by cases h; rfl) e
        · exact .inl h
      · exact .inr h
theorem upto_dn {n : Nat} : ∀ y ∈ upto ((n : Int) - 1) (-1) n, ∃ i : Int, y = .int i ∧ 0 ≤ i ∧ i < n := fun y h => by
  unfold upto at h
  obtain ⟨i, hi, e⟩ := List.mem_map.mp h
  have := List.mem_range.mp hi
  exact ⟨_, e.symm, by omega, by omega⟩
theorem fin_has {f : List (DK × T) → List T → Int} {bs : List T} {ok : List T → Prop} (hb : Bods ok bs) {i : Int} (h0 : 0 ≤ i) (h1 : i < bs.length) : ∃ v, dGet (fin f bs) (.inl i) = some v := by
  refine Option.isSome_iff_exists.mp (stepD_has hb _ _ upto_dn (.inl ?_))
  unfold upto
  refine List.mem_map.mpr ⟨(bs.length - 1 - i).toNat, List.mem_range.mpr (by omega), ?_⟩
  congr 1
  omega
theorem fin_int {f : List (DK × T) → List T → Int} {bs : List T} : ∀ (ys : List T) (kvs : List (DK × T)), IntD kvs → IntD (ys.foldl (stepD f bs) kvs)
  | [], kvs, h => h
  | y :: ys, kvs, h => by
    rw [List.foldl_cons]
    refine fin_int ys _ ?_
    cases y <;> try exact h
    rename_i i
    show IntD (match tAt bs i with | some (.tup q) => _ | _ => kvs)
    split
    · exact dPut_int h
    · exact h
theorem szList_ok {f : List (DK × T) → List T → Int} {bs : List T} {ok : List T → Prop} (hb : Bods ok bs) : ∀ x ∈ szList f bs, ∃ i, x = T.int i := fun x hx => by
  unfold szList at hx
  obtain ⟨y, hy, e⟩ := List.mem_map.mp hx
  obtain ⟨i, rfl, h0, h1⟩ := upto_mem y hy
  obtain ⟨v, hv⟩ := fin_has (f := f) hb h0 h1
  obtain ⟨z, rfl⟩ := (fin_int (f := f) (bs := bs) _ [] (fun p hp => absurd hp (by simp))).get hv
  exact ⟨z, by rw [← e]; simp [pick, hv]⟩
@[simp] theorem szList_len {f : List (DK × T) → List T → Int} {bs : List T} : (szList f bs).length = bs.length := by simp [szList]
def spBS (ok : List T → Prop) (f : List (DK × T) → List T → Int) : Pr := fun ts G Q _ => ∃ bs, ts = [.tup bs] ∧ Bods ok bs ∧ bs.length ≤ 500 ∧ ∀ G', Ext G G' → Q (.tup (szList f bs)) G'
def spLS (ok : List T → Prop) (f : List (DK × T) → List T → Int) : Pr := fun ts G Q _ => ∃ bs, ts = [.tup bs] ∧ Bods ok bs ∧ bs.length ≤ 500 ∧ ∀ p G', G' p = some (.lst (szList f bs)) → Ext G G' → Q (.ref p) G'
theorem l_body_sizes {M : Gm} {D : En} {G0 : Gp} {a : Addr} {bs : List T} {st : Gp → Prop} {f1 f2 f3} {ok : List T → Prop} {f : List (DK × T) → List T → Int} {F : List (DK × T)} (hs : ∀ G, st G) (hb : Bods ok bs) (hf : M.fn "" "block_size" = some (spSz ok f)) (ha : G0 a = none)
    (hD : ∀ G v, G a = some (.dct F) → Ext G0 G → D.nx [some (.tup bs), some (.ref a), v] G) :
    ∀ (ys : List T) (kvs : List (DK × T)) (G : Gp) (v : Option T), (∀ y ∈ ys, ∃ i : Int, y = .int i ∧ 0 ≤ i ∧ i < bs.length) → G a = some (.dct kvs) → IntD kvs → kvs.length + ys.length ≤ 1000 → Ext G0 G → ys.foldl (stepD f bs) kvs = F →
      forB M st (.nm 2) c_body_sizes_b2 D ys [some (.tup bs), some (.ref a), v] G f1 f2 f3
  | [], kvs, G, v, _, e, _, _, x, h => by
    simp at h
    subst h
    simp [hs]
    exact hD _ _ e x
  | y :: ys, kvs, G, v, hy, e, hi, hl, x, h => by
    obtain ⟨i, rfl, h0, h1⟩ := hy y List.mem_cons_self
    obtain ⟨t, e1, e2⟩ := tAt_get h0 h1
    obtain ⟨q, rfl, hq⟩ := hb t (List.mem_of_getElem? e2)
    simp only [List.length_cons] at hl
    have es : stepD f bs kvs (.int i) = dPut kvs (.inl i) (.int (1 + f kvs q)) := by simp [stepD, e1]
    rw [List.foldl_cons, es] at h
    rw [Fcons]
    refine ⟨hs _, ?_⟩
    simp [c_body_sizes_b2, Wcall hf, e1]
    refine KB.of ?_; simp
    refine PrB.of ⟨q, a, kvs, rfl, e, hi, hq, ?_⟩
    simp [e]
    refine ⟨by unfold line; omega, KB.of ?_⟩
    simp
    have hl2 := dPut_len (kvs := kvs) (k := .inl i) (v := .int (1 + f kvs q))
    exact l_body_sizes hs hb hf ha hD ys _ _ _ (fun z hz => hy z (List.mem_cons_of_mem _ hz)) gu_same (dPut_int hi) (by omega) (Ext.gu ha x) h
theorem c_body_sizes_lc {M : Gm} {G0 : Gp} {a A : Addr} {bs : List T} {st : Gp → Prop} {v : Option T} {Q : QT} {F : List (DK × T)} {R : List T} {f1 f2} (hs : ∀ G, st G) (hA : G0 A = none) (hQ : ∀ G', G' A = some (.lst R) → Ext G0 G' → Q (.ref A) G') (haA : a ≠ A) :
    ∀ (ys acc : List T) (G : Gp), (∀ y ∈ ys, ∃ i v, y = T.int i ∧ dGet F (.inl i) = some v) → acc.length + ys.length ≤ 2000 → G A = some (.lst acc) → G a = some (.dct F) → Ext G0 G → acc ++ ys.map (pick F) = R →
      lcB M st (.nm 2) [2] .no c_body_sizes_e1 A ys [some (.tup bs), some (.ref a), v] G Q f1 f2
  | [], acc, G, _, _, e, _, x, h => by
    simp at h
    subst h
    simp [hs]
    exact hQ _ e x
  | y :: ys, acc, G, hy, hl, e, ea, x, h => by
    obtain ⟨i, t, rfl, hg⟩ := hy y List.mem_cons_self
    simp only [List.length_cons] at hl
    rw [Lcons]
    refine ⟨hs _, ?_⟩
    simp [c_body_sizes_e1, ea, hg]
    refine KB.of ?_
    refine ⟨acc, e, by unfold line; omega, ?_⟩
    exact c_body_sizes_lc hs hA hQ haA ys (acc ++ [t]) _ (fun z hz => hy z (List.mem_cons_of_mem _ hz)) (by simp; omega) gu_same (by rw [gu_ne haA]; exact ea) (Ext.gu hA x) (by rw [← h]; simp [pick, hg])
theorem l_law_sizes {M : Gm} {D : En} {G0 : Gp} {a : Addr} {bs : List T} {st : Gp → Prop} {f1 f2 f3} {ok : List T → Prop} {f : List (DK × T) → List T → Int} {F : List (DK × T)} (hs : ∀ G, st G) (hb : Bods ok bs) (hf : M.fn "" "_law_measure" = some (spSz ok f)) (ha : G0 a = none)
    (hD : ∀ G v, G a = some (.dct F) → Ext G0 G → D.nx [some (.tup bs), some (.ref a), v] G) :
    ∀ (ys : List T) (kvs : List (DK × T)) (G : Gp) (v : Option T), (∀ y ∈ ys, ∃ i : Int, y = .int i ∧ 0 ≤ i ∧ i < bs.length) → G a = some (.dct kvs) → IntD kvs → kvs.length + ys.length ≤ 1000 → Ext G0 G → ys.foldl (stepD f bs) kvs = F →
      forB M st (.nm 2) c_law_sizes_b2 D ys [some (.tup bs), some (.ref a), v] G f1 f2 f3
  | [], kvs, G, v, _, e, _, _, x, h => by
    simp at h
    subst h
    simp [hs]
    exact hD _ _ e x
  | y :: ys, kvs, G, v, hy, e, hi, hl, x, h => by
    obtain ⟨i, rfl, h0, h1⟩ := hy y List.mem_cons_self
    obtain ⟨t, e1, e2⟩ := tAt_get h0 h1
    obtain ⟨q, rfl, hq⟩ := hb t (List.mem_of_getElem? e2)
    simp only [List.length_cons] at hl
    have es : stepD f bs kvs (.int i) = dPut kvs (.inl i) (.int (1 + f kvs q)) := by simp [stepD, e1]
    rw [List.foldl_cons, es] at h
    rw [Fcons]
    refine ⟨hs _, ?_⟩
    simp [c_law_sizes_b2, Wcall hf, e1]
    refine KB.of ?_; simp
    refine PrB.of ⟨q, a, kvs, rfl, e, hi, hq, ?_⟩
    simp [e]
    refine ⟨by unfold line; omega, KB.of ?_⟩
    simp
    have hl2 := dPut_len (kvs := kvs) (k := .inl i) (v := .int (1 + f kvs q))
    exact l_law_sizes hs hb hf ha hD ys _ _ _ (fun z hz => hy z (List.mem_cons_of_mem _ hz)) gu_same (dPut_int hi) (by omega) (Ext.gu ha x) h
theorem c_law_sizes_lc {M : Gm} {G0 : Gp} {a A : Addr} {bs : List T} {st : Gp → Prop} {v : Option T} {Q : QT} {F : List (DK × T)} {R : List T} {f1 f2} (hs : ∀ G, st G) (hA : G0 A = none) (hQ : ∀ G', G' A = some (.lst R) → Ext G0 G' → Q (.ref A) G') (haA : a ≠ A) :
    ∀ (ys acc : List T) (G : Gp), (∀ y ∈ ys, ∃ i v, y = T.int i ∧ dGet F (.inl i) = some v) → acc.length + ys.length ≤ 2000 → G A = some (.lst acc) → G a = some (.dct F) → Ext G0 G → acc ++ ys.map (pick F) = R →
      lcB M st (.nm 2) [2] .no c_law_sizes_e1 A ys [some (.tup bs), some (.ref a), v] G Q f1 f2
  | [], acc, G, _, _, e, _, x, h => by
    simp at h
    subst h
    simp [hs]
    exact hQ _ e x
  | y :: ys, acc, G, hy, hl, e, ea, x, h => by
    obtain ⟨i, t, rfl, hg⟩ := hy y List.mem_cons_self
    simp only [List.length_cons] at hl
    rw [Lcons]
    refine ⟨hs _, ?_⟩
    simp [c_law_sizes_e1, ea, hg]
    refine KB.of ?_
    refine ⟨acc, e, by unfold line; omega, ?_⟩
    exact c_law_sizes_lc hs hA hQ haA ys (acc ++ [t]) _ (fun z hz => hy z (List.mem_cons_of_mem _ hz)) (by simp; omega) gu_same (by rw [gu_ne haA]; exact ea) (Ext.gu hA x) (by rw [← h]; simp [pick, hg])
theorem w_body_sizes {M : Gm} {ok : List T → Prop} {f : List (DK × T) → List T → Int} (hf : M.fn "" "block_size" = some (spSz ok f)) : Ob c_body_sizes 3 M (spBS ok f) := by
  rintro ts G Q X ⟨bs, rfl, hb, hl, q⟩
  simp [c_body_sizes, slots0, gu_gu]
  intro a ha
  refine ⟨⟨by omega, by omega⟩, ?_⟩
  refine l_body_sizes (fun _ => trivial) hb hf ha (fun G1 v e x => ?_) _ [] _ _ upto_dn gu_same (fun p hp => absurd hp (by simp)) (by simp; omega) (Ext.gu ha (Ext.refl _)) rfl
  simp
  refine ⟨by omega, fun A hA => ?_⟩
  have haA : a ≠ A := fun z => by subst z; rw [hA] at e; cases e
  refine c_body_sizes_lc (R := szList f bs) (F := fin f bs) (fun _ => trivial) hA (fun G' e1 x1 => ?_) haA _ [] _ (fun y hy => ?_) (by simp; omega) gu_same (by rw [gu_ne haA]; exact e) (Ext.gu hA (Ext.refl _)) (by simp [szList])
  · simp [e1]
    refine KB.of ?_
    exact q _ (x.trans x1)
  · obtain ⟨i, rfl, h0, h1⟩ := upto_mem y hy
    obtain ⟨v, hv⟩ := fin_has (f := f) hb h0 h1
    exact ⟨i, v, rfl, hv⟩
theorem w_law_sizes {M : Gm} {ok : List T → Prop} {f : List (DK × T) → List T → Int} (hf : M.fn "" "_law_measure" = some (spSz ok f)) : Ob c_law_sizes 3 M (spLS ok f) := by
  rintro ts G Q X ⟨bs, rfl, hb, hl, q⟩
  simp [c_law_sizes, slots0, gu_gu]
  intro a ha
  refine ⟨by omega, ?_⟩
  refine l_law_sizes (fun _ => trivial) hb hf ha (fun G1 v e x => ?_) _ [] _ _ upto_dn gu_same (fun p hp => absurd hp (by simp)) (by simp; omega) (Ext.gu ha (Ext.refl _)) rfl
  simp
  refine ⟨by omega, fun A hA => ?_⟩
  have haA : a ≠ A := fun z => by subst z; rw [hA] at e; cases e
  refine c_law_sizes_lc (R := szList f bs) (F := fin f bs) (fun _ => trivial) hA (fun G' e1 x1 => ?_) haA _ [] _ (fun y hy => ?_) (by simp; omega) gu_same (by rw [gu_ne haA]; exact e) (Ext.gu hA (Ext.refl _)) (by simp [szList])
  · exact q _ _ e1 (x.trans x1)
  · obtain ⟨i, rfl, h0, h1⟩ := upto_mem y hy
    obtain ⟨v, hv⟩ := fin_has (f := f) hb h0 h1
    exact ⟨i, v, rfl, hv⟩
end SK.K01

set_option Elab.async false
set_option linter.all false
set_option maxRecDepth 100000
namespace SK.K01
open PySem PySem.Spec PyProof.Rows L2 SK
/-! ### programs -/
def szB (k : Int) : Nat → List (DK × T) → List T → Int
  | 0 => fun _ _ => 0
  | d + 1 => fun kvs b => 1 + (b.map (szS (szB k d kvs) k kvs)).sum
theorem Ob.imp {code : Ss} {n : Nat} {M : Gm} {sp sp' : Pr} (h : Ob code n M sp) (i : ∀ ts G Q X, sp' ts G Q X → sp ts G Q X) : Ob code n M sp' := fun ts G Q X w => h ts G Q X (i ts G Q X w)
theorem Fr.ext {a : Addr} {G G1 G2 : Gp} (h : G a = none) (x : Ext G G1) (f : Fr a G1 G2) : Ext G G2 := fun p o e => f p o (fun z => by subst z; rw [h] at e; cases e) (x p o e)
def spProg : Pr := fun ts G Q _ => ∃ (ns : List Int) (first most len room : Int), ts = [.frl (ns.map T.int), .int first, .int most, .int len, .int room] ∧ 0 ≤ first ∧ first ≤ 100 ∧ 1 ≤ most ∧ most ≤ 100 ∧ 0 ≤ len ∧ len ≤ 100 ∧
  ∀ bs G', Bods (okB 3) bs → bs.length ≤ 200 → Ext G G' → Q (.tup bs) G'
theorem prog1 {M : Gm} {D : En} {G0 : Gp} {l : Addr} {ns : List Int} {first most len room n : Int} {st : Gp → Prop} {v8 : Option T} {f1 f2 f3} (hs : ∀ G, st G) (hbx : M.fn "" "_law_box" = some spBox) (hbl : M.fn "" "_law_block" = some (spBlk 3)) (hl0 : G0 l = none) (h1 : 0 ≤ first) (h2 : first ≤ 100) (hl1 : 0 ≤ len) (hl2 : len ≤ 100) (hn : n ≤ 200)
    (hD : ∀ G xs v7, G l = some (.lst xs) → Bods (okB 3) xs → (xs.length : Int) = n → Ext G0 G → D.nx [some (.frl (ns.map T.int)), some (.int first), some (.int most), some (.int len), some (.int room), some (.int n), some (.ref l), v7, v8] G) :
    ∀ (ys : List T) (G : Gp) (xs : List T) (v7 : Option T), (∀ y ∈ ys, ∃ i : Int, y = .int i ∧ 0 ≤ i ∧ i < n) → G l = some (.lst xs) → Bods (okB 3) xs → ((xs.length + ys.length : Nat) : Int) = n → Ext G0 G →
      forB M st (.nm 7) c_law_program_b2 D ys [some (.frl (ns.map T.int)), some (.int first), some (.int most), some (.int len), some (.int room), some (.int n), some (.ref l), v7, v8] G f1 f2 f3
  | [], G, xs, v7, _, e, hb, hlen, x => by
    simp [hs]
    exact hD G xs _ e hb (by simpa using hlen) x
  | y :: ys, G, xs, v7, hy, e, hb, hlen, x => by
    obtain ⟨i, rfl, h0, hi⟩ := hy y List.mem_cons_self
    simp only [List.length_cons] at hlen
    rw [Fcons]
    refine ⟨hs _, ?_⟩
    simp [c_law_program_b2, e, Wcall hbx, Wcall hbl]
    refine PrB.of ⟨ns, _, rfl, by omega, by omega, fun a d G1 ha hd x1 b1 => ?_⟩
    simp
    refine PrB.of ⟨a, d, len, i, n, rfl, b1, hl1, hl2, h0, hi, fun b G2 hok b2 fr => ?_⟩
    have la : l ≠ a := fun z => by subst z; rw [ha] at e; cases e
    have e2 := fr _ _ la (x1 _ _ e)
    simp [e2]
    refine ⟨by unfold line; omega, KB.of ?_⟩
    simp
    refine prog1 hs hbx hbl hl0 h1 h2 hl1 hl2 hn hD ys _ (xs ++ [.tup b]) _ (fun z hz => hy z (List.mem_cons_of_mem _ hz)) gu_same (fun z hz => ?_) (by simp; omega) (Ext.gu hl0 (x.trans (Fr.ext ha x1 fr)))
    rcases List.mem_append.mp hz with h | h
    · exact hb z h
    · simp at h
      exact ⟨b, h, hok⟩
theorem ok_say : okB 3 [.tup [.str "say", .str "a"], .tup [.str "pause"]] := by
  refine ⟨by decide, ?_⟩
  intro x hx
  simp at hx
  rcases hx with rfl | rfl
  · exact .inr (.inr (.inl ⟨"say", "a", rfl, by decide, by decide, by decide⟩))
  · exact .inr (.inl ⟨"pause", rfl, by decide, by decide, by decide⟩)
theorem prog2 {M : Gm} {D : En} {G0 : Gp} {l s : Addr} {v0 v1 v2 v3 : Option T} {room n : Int} {st : Gp → Prop} {f1 f2 f3} (hs : ∀ G, st G) (hw : M.fn "" "_law_weight" = some (spSz (okB 3) (szB 1 3))) (hc : M.fn "" "_law_count" = some (spCnt (okB 3))) (hl0 : G0 l = none) (hs0 : G0 s = none) (hn : n ≤ 200)
    (hD : ∀ G xs v7, G l = some (.lst xs) → Bods (okB 3) xs → (xs.length : Int) = n → Ext G0 G → D.nx [v0, v1, v2, v3, some (.int room), some (.int n), some (.ref l), v7, some (.ref s)] G) :
    ∀ (ys : List T) (G : Gp) (xs : List T) (kvs : List (DK × T)) (v7 : Option T), (∀ y ∈ ys, ∃ i : Int, y = .int i ∧ 0 ≤ i ∧ i < n) → G l = some (.lst xs) → G s = some (.dct kvs) → IntD kvs → kvs.length + ys.length ≤ 1000 → Bods (okB 3) xs → (xs.length : Int) = n → Ext G0 G →
      forB M st (.nm 7) c_law_program_b1 D ys [v0, v1, v2, v3, some (.int room), some (.int n), some (.ref l), v7, some (.ref s)] G f1 f2 f3
  | [], G, xs, kvs, v7, _, e, _, _, _, hb, hlen, x => by
    simp [hs]
    exact hD G xs _ e hb hlen x
  | y :: ys, G, xs, kvs, v7, hy, e, es, hi, hk, hb, hlen, x => by
    obtain ⟨i, rfl, h0, h1⟩ := hy y List.mem_cons_self
    simp only [List.length_cons] at hk
    have rest : ∀ xs' G', G' l = some (.lst xs') → G' s = some (.dct kvs) → Bods (okB 3) xs' → (xs'.length : Int) = n → Ext G0 G' →
        wpSs (.cons (.asd (.var 8) (.var 7) (.bin .add (.kc (.int 1)) (.call "_law_weight" (.cons (.ix (.var 6) (.var 7)) (.cons (.var 8) .nil))))) .nil) M [v0, v1, v2, v3, some (.int room), some (.int n), some (.ref l), some (.int i), some (.ref s)] G'
          ⟨fun s2 G2 => forB M st (.nm 7) c_law_program_b1 D ys s2 G2, D.rt, D.nx, fun s2 G2 => forB M st (.nm 7) c_law_program_b1 D ys s2 G2, D.ex⟩ := by
      intro xs' G' e' es' hb' hlen' x'
      obtain ⟨t, e1, e2⟩ := tAt_get h0 (show i < (xs'.length : Int) by omega)
      obtain ⟨q, rfl, hq⟩ := hb' t (List.mem_of_getElem? e2)
      simp [e', e1, Wcall hw]
      refine KB.of ?_
      simp
      refine PrB.of ⟨q, s, kvs, rfl, es', hi, hq, ?_⟩
      simp [es']
      refine ⟨by unfold line; omega, KB.of ?_⟩
      simp
      have hl2 := dPut_len (kvs := kvs) (k := .inl i) (v := .int (1 + szB 1 3 kvs q))
      have ls : l ≠ s := fun z => by subst z; rw [e'] at es'; cases es'
      exact prog2 hs hw hc hl0 hs0 hn hD ys _ xs' _ _ (fun z hz => hy z (List.mem_cons_of_mem _ hz)) (by rw [gu_ne ls]; exact e') gu_same (dPut_int hi) (by omega) hb' hlen' (Ext.gu hs0 x')
    obtain ⟨t, e1, e2⟩ := tAt_get h0 (show i < (xs.length : Int) by omega)
    obtain ⟨q, rfl, hq⟩ := hb t (List.mem_of_getElem? e2)
    have ls : s ≠ l := fun z => by subst z; rw [e] at es; cases es
    have repl : ∀ D', D' = (⟨fun s1 G1 => wpSs (.cons (.asd (.var 8) (.var 7) (.bin .add (.kc (.int 1)) (.call "_law_weight" (.cons (.ix (.var 6) (.var 7)) (.cons (.var 8) .nil))))) .nil) M s1 G1
          ⟨fun s2 G2 => forB M st (.nm 7) c_law_program_b1 D ys s2 G2, D.rt, D.nx, fun s2 G2 => forB M st (.nm 7) c_law_program_b1 D ys s2 G2, D.ex⟩, D.rt, D.nx, fun s2 G2 => forB M st (.nm 7) c_law_program_b1 D ys s2 G2, D.ex⟩ : En) →
        wpSs (.cons (.asi (.var 6) (.var 7) (.tup (.cons (.tup (.cons (.kc (.str "say")) (.cons (.kc (.str "a")) .nil))) (.cons (.tup (.cons (.kc (.str "pause")) .nil)) .nil)))) .nil) M [v0, v1, v2, v3, some (.int room), some (.int n), some (.ref l), some (.int i), some (.ref s)] G D' := by
      intro D' hD'
      subst hD'
      simp [e]
      refine ⟨i.toNat, ?_, KB.of ?_⟩
      · unfold ixN
        rw [if_pos h0, if_pos (by omega)]
      · refine rest _ _ gu_same (by rw [gu_ne ls]; exact es) (fun z hz => ?_) (by simpa using hlen) (Ext.gu hl0 x)
        rcases List.mem_or_eq_of_mem_set hz with h | h
        · exact hb z h
        · exact ⟨_, h, ok_say⟩
    rw [Fcons]
    refine ⟨hs _, ?_⟩
    simp [c_law_program_b1, e, e1, Wcall hw]
    refine KB.of ?_
    simp
    refine PrB.of ⟨q, s, kvs, rfl, es, hi, hq, ?_⟩
    simp
    refine cnd_dec (fun _ => ?_) (fun _ => ?_)
    · simp only [asB1, cndT]
      exact repl _ rfl
    · simp [e, e1, Wcall hc]
      refine KB.of ?_
      simp
      refine PrB.of ⟨q, rfl, hq, fun z => ?_⟩
      simp
      refine cnd_dec (fun _ => ?_) (fun _ => ?_)
      · exact repl _ rfl
      · simp only [Wnil]
        exact rest xs G e es hb hlen x
theorem w_program {M : Gm} (hbx : M.fn "" "_law_box" = some spBox) (hd : M.fn "" "_law_draw" = some spDraw) (hbl : M.fn "" "_law_block" = some (spBlk 3)) (hw : M.fn "" "_law_weight" = some (spSz (okB 3) (szB 1 3))) (hc : M.fn "" "_law_count" = some (spCnt (okB 3))) : Ob c_law_program 9 M spProg := by
  rintro ts G Q X ⟨ns, first, most, len, room, rfl, h1, h2, h3, h4, h5, h6, q⟩
  simp [c_law_program, slots0, Wcall hbx, Wcall hd]
  refine PrB.of ⟨ns, first, rfl, h1, by omega, fun a d G1 ha hd x1 b1 => ?_⟩
  simp
  refine PrB.of ⟨a, d, most, rfl, b1, by omega, fun r G2 h20 h21 b2 g2 => ?_⟩
  have x2 : Ext G G2 := Fr.ext ha x1 (fr_of g2)
  simp
  intro l hl
  refine KB.of ?_
  simp
  refine ⟨⟨by omega, by omega⟩, ?_⟩
  have hl0 : G l = none := by
    cases e : G l with
    | none => rfl
    | some o => rw [x2 _ _ e] at hl; cases hl
  refine prog1 (fun _ => trivial) hbx hbl hl h1 h2 h5 h6 (by omega) (fun G3 xs v7 e hb hlen x3 => ?_) _ _ [] _ (fun y hy => ?_) gu_same (fun z hz => absurd hz (by simp)) (by simp; omega) (Ext.gu hl (Ext.refl _))
  · simp [gu_gu]
    intro s hs
    refine ⟨⟨by omega, by omega⟩, ?_⟩
    have ls : l ≠ s := fun z => by subst z; rw [hs] at e; cases e
    have hs0 : G s = none := by
      cases e : G s with
      | none => rfl
      | some o => rw [x3 _ _ (x2 _ _ e)] at hs; cases hs
    refine prog2 (fun _ => trivial) hw hc hl0 hs0 (by omega) (fun G4 xs' v7 e' hb' hlen' x4 => ?_) _ _ xs [] _ (fun y hy => ?_) (by rw [gu_ne ls]; exact e) gu_same (fun p hp => absurd hp (by simp)) (by simp; omega) hb hlen (Ext.gu hs0 (x2.trans x3))
    · simp [e']
      refine KB.of ?_
      exact q xs' _ hb' (by omega) x4
    · unfold upto at hy
      obtain ⟨j, hj, ej⟩ := List.mem_map.mp hy
      have := List.mem_range.mp hj
      exact ⟨_, ej.symm, by omega, by omega⟩
  · obtain ⟨i, e, k1, k2⟩ := upto_mem y hy
    exact ⟨i, e, k1, by omega⟩
end SK.K01

set_option Elab.async false
set_option linter.all false
set_option maxRecDepth 100000
namespace SK.K01
open PySem PySem.Spec PyProof.Rows L2 SK
/-! ### the chain, the law -/
def spChain : Pr := fun ts G Q _ => ∃ a d, ts = [.ref a] ∧ BoxAt G a d ∧ ∀ bs G', Bods (okB 3) bs → bs.length ≤ 200 → Fr a G G' → Q (.tup bs) G'
theorem ch_lc {M : Gm} {G0 : Gp} {a d A : Addr} {body : Int} {v1 v2 v4 v5 : Option T} {Q : QT} {st : Gp → Prop} {f1 f2} (hs : ∀ G, st G) (hd : M.fn "" "_law_draw" = some spDraw) (hb : body < 7) (hA : G0 A = none) (hAa : A ≠ a) (hAd : A ≠ d)
    (hQ : ∀ acc G', G' A = some (.lst acc) → acc.length ≤ 500 → (∀ x ∈ acc, St (okB 2) x) → BoxAt G' a d → Fr a G0 G' → Q (.ref A) G') :
    ∀ (ys acc : List T) (G : Gp), acc.length + ys.length ≤ 500 → G A = some (.lst acc) → (∀ x ∈ acc, St (okB 2) x) → BoxAt G a d → Fr a G0 G →
      (∀ y ∈ ys, ∃ i : Int, y = .int i ∧ 0 ≤ i ∧ i < 500) → lcB M st (.nm 5) [5] .no c_law_chain_e1 A ys [some (.ref a), v1, v2, some (.int body), v4, v5] G Q f1 f2
  | [], acc, G, hl, e, ok, b, f, _ => by
    simp [hs]
    exact hQ acc G e (by simpa using hl) ok b f
  | y :: ys, acc, G, hl, e, ok, b, f, hy => by
    obtain ⟨i, rfl, _, _⟩ := hy y List.mem_cons_self
    simp only [List.length_cons] at hl
    rw [Lcons]
    refine ⟨hs _, ?_⟩
    simp [c_law_chain_e1, Wcall hd]
    refine PrB.of ⟨a, d, _, rfl, b, by omega, fun r G1 h0 h1 b1 g1 => ?_⟩
    simp
    refine ⟨acc, by rw [g1 A hAa]; exact e, by unfold line; omega, ?_⟩
    refine ch_lc hs hd hb hA hAa hAd hQ ys _ _ (by simp; omega) gu_same (fun x hx => ?_) ⟨b1.ne, ?_, ?_⟩ (fun p o hp h => ?_) (fun z hz => hy z (List.mem_cons_of_mem _ hz))
    · rcases List.mem_append.mp hx with h | h
      · exact ok x h
      · simp at h
        exact .inl ⟨_, _, h⟩
    · obtain ⟨j, hj, ej⟩ := b1.bx
      exact ⟨j, hj, by rw [gu_ne hAa.symm]; exact ej⟩
    · obtain ⟨ns, en⟩ := b1.dg
      exact ⟨ns, by rw [gu_ne hAd.symm]; exact en⟩
    · have hpA : p ≠ A := fun z => by subst z; rw [hA] at h; cases h
      rw [gu_ne hpA, g1 p hp]
      exact f p o hp h
theorem ok_nil {n : Nat} : okB (n + 1) [] := ⟨by decide, fun x hx => absurd hx (by simp)⟩
theorem ch_loop {M : Gm} {D : En} {G0 : Gp} {a d s : Addr} {st : Gp → Prop} {f1 f2 f3} (hs : ∀ G, st G) (hd : M.fn "" "_law_draw" = some spDraw) (hw : M.fn "" "_law_weight" = some (spSz (okB 3) (szB 1 3))) (hs0 : G0 s = none) (hsa : s ≠ a)  (hsd : s ≠ d)
    (hD : ∀ G bs v3 v4 v5, Bods (okB 3) bs → bs.length ≤ 200 → Fr a G0 G → D.nx [some (.ref a), some (.tup bs), some (.ref s), v3, v4, v5] G) :
    ∀ (ys : List T) (G : Gp) (bs : List T) (kvs : List (DK × T)) (v3 v4 v5 : Option T), (∀ y ∈ ys, ∃ i : Int, y = .int i ∧ 0 ≤ i ∧ i < 8) → BoxAt G a d → G s = some (.dct kvs) → IntD kvs → kvs.length + ys.length ≤ 200 → Bods (okB 3) bs → bs.length + ys.length ≤ 200 → Fr a G0 G →
      forB M st (.nm 3) c_law_chain_b2 D ys [some (.ref a), some (.tup bs), some (.ref s), v3, v4, v5] G f1 f2 f3
  | [], G, bs, kvs, v3, v4, v5, _, b, e, _, _, hb, hl, f => by
    simp [hs]
    exact hD G bs _ _ _ hb (by simpa using hl) f
  | y :: ys, G, bs, kvs, v3, v4, v5, hy, b, e, hi, hk, hb, hl, f => by
    obtain ⟨i, rfl, h0, h1⟩ := hy y List.mem_cons_self
    simp only [List.length_cons] at hk hl
    have rest : ∀ q G' v5, okB 3 q → BoxAt G' a d → G' s = some (.dct kvs) → Fr a G0 G' →
        wpSs (.cons (.asd (.var 2) (.var 3) (.bin .add (.kc (.int 1)) (.call "_law_weight" (.cons (.var 4) (.cons (.var 2) .nil)))))
          (.cons (.asg 1 (.bin .add (.tup (.cons (.var 4) .nil)) (.var 1))) .nil)) M [some (.ref a), some (.tup bs), some (.ref s), some (.int i), some (.tup q), v5] G'
          ⟨fun s2 G2 => forB M st (.nm 3) c_law_chain_b2 D ys s2 G2, D.rt, D.nx, fun s2 G2 => forB M st (.nm 3) c_law_chain_b2 D ys s2 G2, D.ex⟩ := by
      intro q G' v5 hq b' e' f'
      simp [Wcall hw]
      refine PrB.of ⟨q, s, kvs, rfl, e', hi, hq, ?_⟩
      simp [e']
      refine ⟨by unfold line; omega, KB.of ?_⟩
      simp
      have hl2 := dPut_len (kvs := kvs) (k := .inl i) (v := .int (1 + szB 1 3 kvs q))
      refine ⟨by unfold line; omega, ?_⟩
      refine ch_loop hs hd hw hs0 hsa hsd hD ys _ (.tup q :: bs) _ _ _ _ (fun z hz => hy z (List.mem_cons_of_mem _ hz)) ⟨b'.ne, ?_, ?_⟩ gu_same (dPut_int hi) (by omega) (fun z hz => ?_) (by simp; omega) (fun p o hp h => ?_)
      · obtain ⟨j, hj, ej⟩ := b'.bx
        exact ⟨j, hj, by rw [gu_ne hsa.symm]; exact ej⟩
      · obtain ⟨ns, en⟩ := b'.dg
        exact ⟨ns, by rw [gu_ne hsd.symm]; exact en⟩
      · rcases List.mem_cons.mp hz with h | h
        · exact ⟨q, h, hq⟩
        · exact hb z h
      · have hps : p ≠ s := fun z => by subst z; rw [hs0] at h; cases h
        rw [gu_ne hps]
        exact f' p o hp h
    have rest2 : ∀ q G' v5, okB 3 q → BoxAt G' a d → G' s = some (.dct kvs) → Fr a G0 G' →
        wpSs (.cons (.ite (.cmp .gt (.bin .add (.kc (.int 1)) (.call "_law_weight" (.cons (.var 4) (.cons (.var 2) .nil)))) (.kc (.int 600)))
 (.cons (.asg 4 (.tup .nil)) .nil) .nil) (.cons (.asd (.var 2) (.var 3) (.bin .add (.kc (.int 1)) (.call "_law_weight" (.cons (.var 4) (.cons (.var 2) .nil)))))
          (.cons (.asg 1 (.bin .add (.tup (.cons (.var 4) .nil)) (.var 1))) .nil))) M [some (.ref a), some (.tup bs), some (.ref s), some (.int i), some (.tup q), v5] G'
          ⟨fun s2 G2 => forB M st (.nm 3) c_law_chain_b2 D ys s2 G2, D.rt, D.nx, fun s2 G2 => forB M st (.nm 3) c_law_chain_b2 D ys s2 G2, D.ex⟩ := by
      intro q G' v5 hq b' e' f'
      simp [Wcall hw]
      refine PrB.of ⟨q, s, kvs, rfl, e', hi, hq, ?_⟩
      simp
      refine cnd_dec (fun _ => ?_) (fun _ => ?_)
      · simp only [Wcons, Wasg, Wtup, Wenil, Wnil, Sset4]
        exact rest [] _ _ ok_nil b' e' f'
      · simp only [Wnil]
        exact rest q _ _ hq b' e' f'
    rw [Fcons]
    refine ⟨hs _, ?_⟩
    simp [c_law_chain_b2]
    refine cnd_dec (fun h7 => ?_) (fun _ => ?_)
    · simp [Wcall hd]
      refine PrB.of ⟨a, d, 4, rfl, b, by decide, fun r G1 k0 k1 b1 g1 => ?_⟩
      simp
      refine ⟨⟨by omega, by omega⟩, fun A hA => ?_⟩
      have hAa : A ≠ a := fun z => by
        obtain ⟨j, _, ej⟩ := b1.bx
        subst z; rw [hA] at ej; cases ej
      have hAd : A ≠ d := fun z => by
        obtain ⟨j, ej⟩ := b1.dg
        subst z; rw [hA] at ej; cases ej
      refine ch_lc (G0 := G1) (fun _ => trivial) hd h7 hA hAa hAd (fun acc G2 e2 hl2 ok2 b2 f2 => ?_) _ [] _ (by simp; omega) gu_same (fun x hx => absurd hx (by simp)) ⟨b1.ne, ?_, ?_⟩ (fun p o hp h => ?_) (fun y hy => ?_)
      · refine ⟨acc, e2, ?_⟩
        have e3 : G1 s = some (.dct kvs) := by rw [g1 s hsa]; exact e
        exact rest2 acc _ _ ⟨by omega, ok2⟩ b2 (f2 _ _ hsa e3) (fun p o hp h => f2 p o hp (by rw [g1 p hp]; exact f p o hp h))
      · obtain ⟨j, hj, ej⟩ := b1.bx
        exact ⟨j, hj, by rw [gu_ne hAa.symm]; exact ej⟩
      · obtain ⟨ns, en⟩ := b1.dg
        exact ⟨ns, by rw [gu_ne hAd.symm]; exact en⟩
      · have hpA : p ≠ A := fun z => by subst z; rw [hA] at h; cases h
        rw [gu_ne hpA]
        exact h
      · obtain ⟨i, e, q0, q1⟩ := upto_mem y hy
        exact ⟨i, e, q0, by omega⟩
    · simp only [Wnil]
      exact rest2 [] _ _ ok_nil b e f
theorem w_chain {M : Gm} (hd : M.fn "" "_law_draw" = some spDraw) (hw : M.fn "" "_law_weight" = some (spSz (okB 3) (szB 1 3))) : Ob c_law_chain 6 M spChain := by
  rintro ts G Q X ⟨a, d, rfl, b, q⟩
  simp [c_law_chain, slots0, gu_gu]
  intro s hs
  have hsa : s ≠ a := fun z => by
    obtain ⟨j, _, ej⟩ := b.bx
    subst z; rw [hs] at ej; cases ej
  have hsd : s ≠ d := fun z => by
    obtain ⟨j, ej⟩ := b.dg
    subst z; rw [hs] at ej; cases ej
  refine ch_loop (fun _ => trivial) hd hw hs hsa hsd (fun G1 bs v3 v4 v5 hb hl f => ?_) _ _ [] [] _ _ _ (fun y hy => ?_) ⟨b.ne, ?_, ?_⟩ gu_same (fun p hp => absurd hp (by simp)) (by simp) (fun z hz => absurd hz (by simp)) (by simp) (fun p o hp h => ?_)
  · simp
    exact q bs _ hb hl f
  · unfold upto at hy
    obtain ⟨j, hj, ej⟩ := List.mem_map.mp hy
    have := List.mem_range.mp hj
    exact ⟨_, ej.symm, by omega, by omega⟩
  · obtain ⟨j, hj, ej⟩ := b.bx
    exact ⟨j, hj, by rw [gu_ne hsa.symm]; exact ej⟩
  · obtain ⟨ns, en⟩ := b.dg
    exact ⟨ns, by rw [gu_ne hsd.symm]; exact en⟩
  · have hps : p ≠ s := fun z => by subst z; rw [hs] at h; cases h
    rw [gu_ne hps]
    exact h
/-- the values compared here: tuples of ints -/
def okS (t : T) : Prop := ∃ i : Int, t = .int i
theorem w_law {M : Gm} (hbx : M.fn "" "_law_box" = some spBox) (hp : M.fn "" "_law_program" = some spProg) (hch : M.fn "" "_law_chain" = some spChain) (hbs : M.fn "" "body_sizes" = some (spBS (okB 3) (szB 0 3))) (hls : M.fn "" "_law_sizes" = some (spLS (okB 3) (szB 0 3)))
    (hsm : M.fn "" "_law_same" = some (spSame (Vl okS))) : Ob c_law 2 M (LawPr 63) := by
  rintro ts G Q X ⟨ns, rfl, hl, hG, q⟩
  have step : ∀ (D : En) (p : List T) (G : Gp), Bods (okB 3) p → p.length ≤ 200 → (∀ G', D.nx [some (.frl (ns.map T.int)), some (.tup p)] G') → wpSs c_law_b1 M [some (.frl (ns.map T.int)), some (.tup p)] G D := by
    intro D p G hb hl hD
    simp [c_law_b1, Wcall hsm, Wcall hbs]
    refine PrB.of ⟨p, rfl, hb, by omega, fun G1 x1 => ?_⟩
    simp [Wcall hls]
    refine PrB.of ⟨p, rfl, hb, by omega, fun r G2 e x2 => ?_⟩
    simp [e]
    refine KB.of ?_
    refine PrB.of ⟨_, rfl, .inr (.inr ⟨_, rfl, by simp; omega, szList_ok hb⟩), fun G3 x3 => ?_⟩
    simp
    exact hD _
  simp [c_law, slots0, Wcall hp]
  refine PrB.of ⟨ns, 0, 5, 6, 590, rfl, by decide, by decide, by decide, by decide, by decide, by decide, fun p G1 hp1 hp2 x1 => ?_⟩
  simp [Wcall hbx, Wcall hch]
  refine PrB.of ⟨ns, 9, rfl, by decide, by decide, fun a d G2 ha hd x2 b2 => ?_⟩
  simp
  refine PrB.of ⟨a, d, rfl, b2, fun p2 G3 hq1 hq2 f3 => ?_⟩
  simp
  rw [Fcons]
  refine ⟨trivial, ?_⟩
  simp
  refine step _ p _ hp1 hp2 fun G4 => ?_
  simp
  rw [Fcons]
  refine ⟨trivial, ?_⟩
  simp
  refine step _ p2 _ hq1 hq2 fun G5 => ?_
  simp
  exact q _
end SK.K01

set_option Elab.async false
set_option linter.all false
set_option maxRecDepth 100000
namespace SK
open PySem PySem.Spec PyProof.Rows L2
/-- a def of the module as the top has made it -/
def Df (K : PySem.W.Frag) (mg : Str → Option Value) (nm : Str) (st : Stmt) (ps : List Str) : Prop := ∃ fa fd, Fun K nm nm st fa fd ∧ mg nm = some (.ref fa) ∧ Binds K fd ps []
theorem df_mk {K : PySem.W.Frag} {h : Heap} {mg : Str → Option Value} (X : K.In h) (G : h.Ns mainGlobals mg) {nm : Str} {st : Stmt} {ps : List Str} {f : Addr} {oc : Value} {od an : Option Addr} {sl : Array (Option Value)} {kV dc pm cd ct : Value}
    (hb : ∀ (kV doc pm : Value) (an : Option Addr) (cdv ct : Value) (us : List Value), us.length = ps.length → bindArgs (PySem.W.fnOf nm nm (defArgs st) (defBody st) (defScope st) .none kV doc pm an cdv ct) ⟨us, []⟩ = pure (ps.zip us))
    (a : PySem.W.nsIn K mainGlobals nm = some (some (.ref f))) (l : K.lookup f = some ⟨oc, od, .func (PySem.W.fnOf nm nm (defArgs st) (defBody st) (defScope st) .none kV dc pm an cd ct), sl⟩) (c : PySem.W.codeIn K cd nm = true) (k : PySem.W.keepIn K (.ref f) = true) : Df K mg nm st ps := by
  have F := fun_mk (st := st) l c k
  exact ⟨f, _, F, PySem.W.mg_of X G a, F.binds hb⟩
section
variable {P : Program} {w : World} {K : PySem.W.Frag} {mg : Str → Option Value} {base : Heap} {k : Nat} {use blt : List String}
theorem dn {M : Gm} {f : String} {st : Stmt} {N ps : List Str} {code : Ss} {sp : Pr} (d : Df K mg (Str.ofString f) st ps) (sc : FnScope N ps (defScope st)) (hc : chkSs code ⟨N, defScope st, true, use, blt⟩ (defBody st) = true) (md : MdOk P w K mg base plainS M k use blt)
    (len : ∀ ts G Q X, sp ts G Q X → ts.length = ps.length) (hw : ∀ ts G Q X, sp ts G Q X → wpSs code M (slots0 N.length ts) G { nx := fun _ G' => Q .non G', rt := Q, ex := fun _ => X }) : Dn P w K mg base plainS (k + 1) f sp :=
  let ⟨_, _, F, hm, hb⟩ := d
  Dn.of F hm hb sc hc md len hw
theorem dn0 {f : String} {st : Stmt} {ps : List Str} {sp : Pr} (d : Df K mg (Str.ofString f) st ps) (no : ∀ ts G Q X, ¬ sp ts G Q X) : Dn P w K mg base plainS k f sp :=
  let ⟨fa, fd, F, hm, hb⟩ := d
  ⟨fa, fd, ps, ⟨fun vs H Q E ⟨_, _, _, _, _, _, h, _⟩ => (no _ _ _ _ h).elim, fun A outer s H args us vs Q E hr e0 bb r ⟨_, _, _, _, _, _, h, _⟩ => (no _ _ _ _ h).elim⟩, hm, F.kp, hb⟩
theorem Dn.imp {f : String} {sp sp' : Pr} (d : Dn P w K mg base plainS k f sp) (h : ∀ ts G Q X, sp' ts G Q X → sp ts G Q X) : Dn P w K mg base plainS k f sp' :=
  let ⟨fa, fd, ps, F, hm, kp, hb⟩ := d
  ⟨fa, fd, ps, F.imp fun vs H Q E ⟨ts, G, Q', X', h1, h2, h3, h4, h5⟩ => ⟨ts, G, Q', X', h1, h2, h _ _ _ _ h3, h4, h5⟩, hm, kp, hb⟩
end
end SK
namespace SK.K01
open PySem PySem.Spec PyProof.Rows L2 SK
theorem a_block_size : ∀ (kV doc pm : Value) (an : Option Addr) (cdv ct : Value) (us : List Value), us.length = p_block_size.length → bindArgs (PySem.W.fnOf (Str.ofString "block_size") (Str.ofString "block_size") (defArgs s_block_size) (defBody s_block_size) (defScope s_block_size) .none kV doc pm an cdv ct) ⟨us, []⟩ = pure (p_block_size.zip us) := fun _ _ _ _ _ _ us hl => match us, hl with | [_, _], _ => rfl
theorem a_body_sizes : ∀ (kV doc pm : Value) (an : Option Addr) (cdv ct : Value) (us : List Value), us.length = p_body_sizes.length → bindArgs (PySem.W.fnOf (Str.ofString "body_sizes") (Str.ofString "body_sizes") (defArgs s_body_sizes) (defBody s_body_sizes) (defScope s_body_sizes) .none kV doc pm an cdv ct) ⟨us, []⟩ = pure (p_body_sizes.zip us) := fun _ _ _ _ _ _ us hl => match us, hl with | [_], _ => rfl
theorem a_law_cell : ∀ (kV doc pm : Value) (an : Option Addr) (cdv ct : Value) (us : List Value), us.length = p_law_cell.length → bindArgs (PySem.W.fnOf (Str.ofString "_law_cell") (Str.ofString "_law_cell") (defArgs s_law_cell) (defBody s_law_cell) (defScope s_law_cell) .none kV doc pm an cdv ct) ⟨us, []⟩ = pure (p_law_cell.zip us) := fun _ _ _ _ _ _ us hl => match us, hl with | [_, _], _ => rfl
theorem a_law_digits : ∀ (kV doc pm : Value) (an : Option Addr) (cdv ct : Value) (us : List Value), us.length = p_law_digits.length → bindArgs (PySem.W.fnOf (Str.ofString "_law_digits") (Str.ofString "_law_digits") (defArgs s_law_digits) (defBody s_law_digits) (defScope s_law_digits) .none kV doc pm an cdv ct) ⟨us, []⟩ = pure (p_law_digits.zip us) := fun _ _ _ _ _ _ us hl => match us, hl with | [_, _], _ => rfl
theorem a_law_box : ∀ (kV doc pm : Value) (an : Option Addr) (cdv ct : Value) (us : List Value), us.length = p_law_box.length → bindArgs (PySem.W.fnOf (Str.ofString "_law_box") (Str.ofString "_law_box") (defArgs s_law_box) (defBody s_law_box) (defScope s_law_box) .none kV doc pm an cdv ct) ⟨us, []⟩ = pure (p_law_box.zip us) := fun _ _ _ _ _ _ us hl => match us, hl with | [_, _], _ => rfl
theorem a_law_draw : ∀ (kV doc pm : Value) (an : Option Addr) (cdv ct : Value) (us : List Value), us.length = p_law_draw.length → bindArgs (PySem.W.fnOf (Str.ofString "_law_draw") (Str.ofString "_law_draw") (defArgs s_law_draw) (defBody s_law_draw) (defScope s_law_draw) .none kV doc pm an cdv ct) ⟨us, []⟩ = pure (p_law_draw.zip us) := fun _ _ _ _ _ _ us hl => match us, hl with | [_, _], _ => rfl
theorem a_law_is_integer : ∀ (kV doc pm : Value) (an : Option Addr) (cdv ct : Value) (us : List Value), us.length = p_law_is_integer.length → bindArgs (PySem.W.fnOf (Str.ofString "_law_is_integer") (Str.ofString "_law_is_integer") (defArgs s_law_is_integer) (defBody s_law_is_integer) (defScope s_law_is_integer) .none kV doc pm an cdv ct) ⟨us, []⟩ = pure (p_law_is_integer.zip us) := fun _ _ _ _ _ _ us hl => match us, hl with | [_], _ => rfl
theorem a_law_same : ∀ (kV doc pm : Value) (an : Option Addr) (cdv ct : Value) (us : List Value), us.length = p_law_same.length → bindArgs (PySem.W.fnOf (Str.ofString "_law_same") (Str.ofString "_law_same") (defArgs s_law_same) (defBody s_law_same) (defScope s_law_same) .none kV doc pm an cdv ct) ⟨us, []⟩ = pure (p_law_same.zip us) := fun _ _ _ _ _ _ us hl => match us, hl with | [_, _], _ => rfl
theorem a_law_word : ∀ (kV doc pm : Value) (an : Option Addr) (cdv ct : Value) (us : List Value), us.length = p_law_word.length → bindArgs (PySem.W.fnOf (Str.ofString "_law_word") (Str.ofString "_law_word") (defArgs s_law_word) (defBody s_law_word) (defScope s_law_word) .none kV doc pm an cdv ct) ⟨us, []⟩ = pure (p_law_word.zip us) := fun _ _ _ _ _ _ us hl => match us, hl with | [_], _ => rfl
theorem a_law_block : ∀ (kV doc pm : Value) (an : Option Addr) (cdv ct : Value) (us : List Value), us.length = p_law_block.length → bindArgs (PySem.W.fnOf (Str.ofString "_law_block") (Str.ofString "_law_block") (defArgs s_law_block) (defBody s_law_block) (defScope s_law_block) .none kV doc pm an cdv ct) ⟨us, []⟩ = pure (p_law_block.zip us) := fun _ _ _ _ _ _ us hl => match us, hl with | [_, _, _, _, _], _ => rfl
theorem a_law_count : ∀ (kV doc pm : Value) (an : Option Addr) (cdv ct : Value) (us : List Value), us.length = p_law_count.length → bindArgs (PySem.W.fnOf (Str.ofString "_law_count") (Str.ofString "_law_count") (defArgs s_law_count) (defBody s_law_count) (defScope s_law_count) .none kV doc pm an cdv ct) ⟨us, []⟩ = pure (p_law_count.zip us) := fun _ _ _ _ _ _ us hl => match us, hl with | [_], _ => rfl
theorem a_law_weight : ∀ (kV doc pm : Value) (an : Option Addr) (cdv ct : Value) (us : List Value), us.length = p_law_weight.length → bindArgs (PySem.W.fnOf (Str.ofString "_law_weight") (Str.ofString "_law_weight") (defArgs s_law_weight) (defBody s_law_weight) (defScope s_law_weight) .none kV doc pm an cdv ct) ⟨us, []⟩ = pure (p_law_weight.zip us) := fun _ _ _ _ _ _ us hl => match us, hl with | [_, _], _ => rfl
theorem a_law_program : ∀ (kV doc pm : Value) (an : Option Addr) (cdv ct : Value) (us : List Value), us.length = p_law_program.length → bindArgs (PySem.W.fnOf (Str.ofString "_law_program") (Str.ofString "_law_program") (defArgs s_law_program) (defBody s_law_program) (defScope s_law_program) .none kV doc pm an cdv ct) ⟨us, []⟩ = pure (p_law_program.zip us) := fun _ _ _ _ _ _ us hl => match us, hl with | [_, _, _, _, _], _ => rfl
theorem a_law_measure : ∀ (kV doc pm : Value) (an : Option Addr) (cdv ct : Value) (us : List Value), us.length = p_law_measure.length → bindArgs (PySem.W.fnOf (Str.ofString "_law_measure") (Str.ofString "_law_measure") (defArgs s_law_measure) (defBody s_law_measure) (defScope s_law_measure) .none kV doc pm an cdv ct) ⟨us, []⟩ = pure (p_law_measure.zip us) := fun _ _ _ _ _ _ us hl => match us, hl with | [_, _], _ => rfl
theorem a_law_sizes : ∀ (kV doc pm : Value) (an : Option Addr) (cdv ct : Value) (us : List Value), us.length = p_law_sizes.length → bindArgs (PySem.W.fnOf (Str.ofString "_law_sizes") (Str.ofString "_law_sizes") (defArgs s_law_sizes) (defBody s_law_sizes) (defScope s_law_sizes) .none kV doc pm an cdv ct) ⟨us, []⟩ = pure (p_law_sizes.zip us) := fun _ _ _ _ _ _ us hl => match us, hl with | [_], _ => rfl
theorem a_law_chain : ∀ (kV doc pm : Value) (an : Option Addr) (cdv ct : Value) (us : List Value), us.length = p_law_chain.length → bindArgs (PySem.W.fnOf (Str.ofString "_law_chain") (Str.ofString "_law_chain") (defArgs s_law_chain) (defBody s_law_chain) (defScope s_law_chain) .none kV doc pm an cdv ct) ⟨us, []⟩ = pure (p_law_chain.zip us) := fun _ _ _ _ _ _ us hl => match us, hl with | [_], _ => rfl
theorem a_law : ∀ (kV doc pm : Value) (an : Option Addr) (cdv ct : Value) (us : List Value), us.length = p_law.length → bindArgs (PySem.W.fnOf (Str.ofString "law") (Str.ofString "law") (defArgs s_law) (defBody s_law) (defScope s_law) .none kV doc pm an cdv ct) ⟨us, []⟩ = pure (p_law.zip us) := fun _ _ _ _ _ _ us hl => match us, hl with | [_], _ => rfl
structure Defs (K : PySem.W.Frag) (mg : Str → Option Value) : Prop where
  d_block_size : Df K mg (Str.ofString "block_size") s_block_size p_block_size
  d_body_sizes : Df K mg (Str.ofString "body_sizes") s_body_sizes p_body_sizes
  d_law_cell : Df K mg (Str.ofString "_law_cell") s_law_cell p_law_cell
  d_law_digits : Df K mg (Str.ofString "_law_digits") s_law_digits p_law_digits
  d_law_box : Df K mg (Str.ofString "_law_box") s_law_box p_law_box
  d_law_draw : Df K mg (Str.ofString "_law_draw") s_law_draw p_law_draw
  d_law_is_integer : Df K mg (Str.ofString "_law_is_integer") s_law_is_integer p_law_is_integer
  d_law_same : Df K mg (Str.ofString "_law_same") s_law_same p_law_same
  d_law_word : Df K mg (Str.ofString "_law_word") s_law_word p_law_word
  d_law_block : Df K mg (Str.ofString "_law_block") s_law_block p_law_block
  d_law_count : Df K mg (Str.ofString "_law_count") s_law_count p_law_count
  d_law_weight : Df K mg (Str.ofString "_law_weight") s_law_weight p_law_weight
  d_law_program : Df K mg (Str.ofString "_law_program") s_law_program p_law_program
  d_law_measure : Df K mg (Str.ofString "_law_measure") s_law_measure p_law_measure
  d_law_sizes : Df K mg (Str.ofString "_law_sizes") s_law_sizes p_law_sizes
  d_law_chain : Df K mg (Str.ofString "_law_chain") s_law_chain p_law_chain
  d_law : Df K mg (Str.ofString "law") s_law p_law
  blt : ∀ x ∈ ["all", "bool", "int", "isinstance", "len", "range", "reversed", "str", "tuple"], mg (Str.ofString x) = none
def lawTab : List (String × Pr) := [("_law_box", spBox), ("_law_program", spProg), ("_law_chain", spChain), ("body_sizes", spBS (okB 3) (szB 0 3)), ("_law_sizes", spLS (okB 3) (szB 0 3)), ("_law_same", spSame (Vl okS))]
section
variable {P : Program} {w : World} {K : PySem.W.Frag} {mg : Str → Option Value} {base : Heap}
theorem law_md (D : Defs K mg) : MdOk P w K mg base plainS (plainGm lawTab) 6 [] b_law := by
  have hcell : Dn P w K mg base plainS 1 "_law_cell" (spCell) := by
    refine dn D.d_law_cell f_law_cell k_law_cell (plain_md (l := []) (k := 0) rfl ?m (fun x hx => D.blt x (by revert x; decide))) ?l ?w
    case m => exact fun p hp => absurd hp (by simp)
    case l => exact fun _ _ _ _ ⟨_, _, e, _⟩ => by subst e; rfl
    case w => exact w_cell
  have hdig : Dn P w K mg base plainS 1 "_law_digits" (spDigits) := by
    refine dn D.d_law_digits f_law_digits k_law_digits (plain_md (l := []) (k := 0) rfl ?m (fun x hx => D.blt x (by revert x; decide))) ?l ?w
    case m => exact fun p hp => absurd hp (by simp)
    case l => exact fun _ _ _ _ ⟨_, _, e, _⟩ => by subst e; rfl
    case w => exact w_digits
  have hdraw : Dn P w K mg base plainS 1 "_law_draw" (spDraw) := by
    refine dn D.d_law_draw f_law_draw k_law_draw (plain_md (l := []) (k := 0) rfl ?m (fun x hx => D.blt x (by revert x; decide))) ?l ?w
    case m => exact fun p hp => absurd hp (by simp)
    case l => exact fun _ _ _ _ ⟨_, _, _, e, _⟩ => by subst e; rfl
    case w => exact w_draw
  have hint : Dn P w K mg base plainS 1 "_law_is_integer" (spIsInt) := by
    refine dn D.d_law_is_integer f_law_is_integer k_law_is_integer (plain_md (l := []) (k := 0) rfl ?m (fun x hx => D.blt x (by revert x; decide))) ?l ?w
    case m => exact fun p hp => absurd hp (by simp)
    case l => exact fun _ _ _ _ ⟨_, e, _⟩ => by subst e; rfl
    case w => exact w_is_integer
  have hbox : Dn P w K mg base plainS 2 "_law_box" (spBox) := by
    refine dn D.d_law_box f_law_box k_law_box (plain_md (l := [("_law_cell", spCell), ("_law_digits", spDigits)]) (k := 1) rfl ?m (fun x hx => D.blt x (by revert x; decide))) ?l ?w
    case m =>
      intro p hp
      simp only [List.mem_cons, List.mem_nil_iff, or_false] at hp
      rcases hp with rfl | rfl
      · exact hcell.mono (by decide)
      · exact hdig.mono (by decide)
    case l => exact fun _ _ _ _ ⟨_, _, e, _⟩ => by subst e; rfl
    case w => exact w_box (by rfl) (by rfl)
  have hword : Dn P w K mg base plainS 2 "_law_word" (spWord) := by
    refine dn D.d_law_word f_law_word k_law_word (plain_md (l := [("_law_draw", spDraw)]) (k := 1) rfl ?m (fun x hx => D.blt x (by revert x; decide))) ?l ?w
    case m =>
      intro p hp
      simp only [List.mem_cons, List.mem_nil_iff, or_false] at hp
      rcases hp with rfl
      · exact hdraw.mono (by decide)
    case l => exact fun _ _ _ _ ⟨_, _, e, _⟩ => by subst e; rfl
    case w => exact w_word (by rfl)
  have hb0 : Dn P w K mg base plainS 2 "_law_block" (spBlk 0) := dn0 D.d_law_block fun _ _ _ _ h => h
  have hb1 : Dn P w K mg base plainS 3 "_law_block" (spBlk 1) := by
    refine dn D.d_law_block f_law_block k_law_block (plain_md (l := [("_law_draw", spDraw), ("_law_word", spWord), ("_law_block", spBlk 0)]) (k := 2) rfl ?m (fun x hx => D.blt x (by revert x; decide))) ?l ?w
    case m =>
      intro p hp
      simp only [List.mem_cons, List.mem_nil_iff, or_false] at hp
      rcases hp with rfl | rfl | rfl
      · exact hdraw.mono (by decide)
      · exact hword.mono (by decide)
      · exact hb0.mono (by decide)
    case l => exact fun _ _ _ _ ⟨_, _, _, _, _, e, _⟩ => by subst e; rfl
    case w => exact w_block (n := 0) (by rfl) (by rfl) (by rfl)
  have hb2 : Dn P w K mg base plainS 4 "_law_block" (spBlk 2) := by
    refine dn D.d_law_block f_law_block k_law_block (plain_md (l := [("_law_draw", spDraw), ("_law_word", spWord), ("_law_block", spBlk 1)]) (k := 3) rfl ?m (fun x hx => D.blt x (by revert x; decide))) ?l ?w
    case m =>
      intro p hp
      simp only [List.mem_cons, List.mem_nil_iff, or_false] at hp
      rcases hp with rfl | rfl | rfl
      · exact hdraw.mono (by decide)
      · exact hword.mono (by decide)
      · exact hb1.mono (by decide)
    case l => exact fun _ _ _ _ ⟨_, _, _, _, _, e, _⟩ => by subst e; rfl
    case w => exact w_block (n := 1) (by rfl) (by rfl) (by rfl)
  have hb3 : Dn P w K mg base plainS 5 "_law_block" (spBlk 3) := by
    refine dn D.d_law_block f_law_block k_law_block (plain_md (l := [("_law_draw", spDraw), ("_law_word", spWord), ("_law_block", spBlk 2)]) (k := 4) rfl ?m (fun x hx => D.blt x (by revert x; decide))) ?l ?w
    case m =>
      intro p hp
      simp only [List.mem_cons, List.mem_nil_iff, or_false] at hp
      rcases hp with rfl | rfl | rfl
      · exact hdraw.mono (by decide)
      · exact hword.mono (by decide)
      · exact hb2.mono (by decide)
    case l => exact fun _ _ _ _ ⟨_, _, _, _, _, e, _⟩ => by subst e; rfl
    case w => exact w_block (n := 2) (by rfl) (by rfl) (by rfl)
  have hs0 : Dn P w K mg base plainS 0 "block_size" (spSz (okB 0) (szB 0 0)) := dn0 D.d_block_size fun _ _ _ _ ⟨_, _, _, _, _, _, h, _⟩ => h
  have hs1 : Dn P w K mg base plainS 1 "block_size" (spSz (okB 1) (szB 0 1)) := by
    refine dn D.d_block_size f_block_size k_block_size (plain_md (l := [("block_size", spSz (okB 0) (szB 0 0))]) (k := 0) rfl ?m (fun x hx => D.blt x (by revert x; decide))) ?l ?w
    case m =>
      intro p hp
      simp only [List.mem_cons, List.mem_nil_iff, or_false] at hp
      rcases hp with rfl
      · exact hs0.mono (by decide)
    case l => exact fun _ _ _ _ ⟨_, _, _, e, _⟩ => by subst e; rfl
    case w => exact (w_block_size (ok0 := okB 0) (f0 := szB 0 0) (by rfl)).imp fun _ _ _ _ ⟨b, a, kvs, e, h1, h2, h3, h4⟩ => ⟨b, a, kvs, e, h1, h2, h3.2, h4⟩
  have hs2 : Dn P w K mg base plainS 2 "block_size" (spSz (okB 2) (szB 0 2)) := by
    refine dn D.d_block_size f_block_size k_block_size (plain_md (l := [("block_size", spSz (okB 1) (szB 0 1))]) (k := 1) rfl ?m (fun x hx => D.blt x (by revert x; decide))) ?l ?w
    case m =>
      intro p hp
      simp only [List.mem_cons, List.mem_nil_iff, or_false] at hp
      rcases hp with rfl
      · exact hs1.mono (by decide)
    case l => exact fun _ _ _ _ ⟨_, _, _, e, _⟩ => by subst e; rfl
    case w => exact (w_block_size (ok0 := okB 1) (f0 := szB 0 1) (by rfl)).imp fun _ _ _ _ ⟨b, a, kvs, e, h1, h2, h3, h4⟩ => ⟨b, a, kvs, e, h1, h2, h3.2, h4⟩
  have hs3 : Dn P w K mg base plainS 3 "block_size" (spSz (okB 3) (szB 0 3)) := by
    refine dn D.d_block_size f_block_size k_block_size (plain_md (l := [("block_size", spSz (okB 2) (szB 0 2))]) (k := 2) rfl ?m (fun x hx => D.blt x (by revert x; decide))) ?l ?w
    case m =>
      intro p hp
      simp only [List.mem_cons, List.mem_nil_iff, or_false] at hp
      rcases hp with rfl
      · exact hs2.mono (by decide)
    case l => exact fun _ _ _ _ ⟨_, _, _, e, _⟩ => by subst e; rfl
    case w => exact (w_block_size (ok0 := okB 2) (f0 := szB 0 2) (by rfl)).imp fun _ _ _ _ ⟨b, a, kvs, e, h1, h2, h3, h4⟩ => ⟨b, a, kvs, e, h1, h2, h3.2, h4⟩
  have hg0 : Dn P w K mg base plainS 0 "_law_weight" (spSz (okB 0) (szB 1 0)) := dn0 D.d_law_weight fun _ _ _ _ ⟨_, _, _, _, _, _, h, _⟩ => h
  have hg1 : Dn P w K mg base plainS 1 "_law_weight" (spSz (okB 1) (szB 1 1)) := by
    refine dn D.d_law_weight f_law_weight k_law_weight (plain_md (l := [("_law_weight", spSz (okB 0) (szB 1 0))]) (k := 0) rfl ?m (fun x hx => D.blt x (by revert x; decide))) ?l ?w
    case m =>
      intro p hp
      simp only [List.mem_cons, List.mem_nil_iff, or_false] at hp
      rcases hp with rfl
      · exact hg0.mono (by decide)
    case l => exact fun _ _ _ _ ⟨_, _, _, e, _⟩ => by subst e; rfl
    case w => exact (w_law_weight (ok0 := okB 0) (f0 := szB 1 0) (by rfl)).imp fun _ _ _ _ ⟨b, a, kvs, e, h1, h2, h3, h4⟩ => ⟨b, a, kvs, e, h1, h2, h3.2, h4⟩
  have hg2 : Dn P w K mg base plainS 2 "_law_weight" (spSz (okB 2) (szB 1 2)) := by
    refine dn D.d_law_weight f_law_weight k_law_weight (plain_md (l := [("_law_weight", spSz (okB 1) (szB 1 1))]) (k := 1) rfl ?m (fun x hx => D.blt x (by revert x; decide))) ?l ?w
    case m =>
      intro p hp
      simp only [List.mem_cons, List.mem_nil_iff, or_false] at hp
      rcases hp with rfl
      · exact hg1.mono (by decide)
    case l => exact fun _ _ _ _ ⟨_, _, _, e, _⟩ => by subst e; rfl
    case w => exact (w_law_weight (ok0 := okB 1) (f0 := szB 1 1) (by rfl)).imp fun _ _ _ _ ⟨b, a, kvs, e, h1, h2, h3, h4⟩ => ⟨b, a, kvs, e, h1, h2, h3.2, h4⟩
  have hg3 : Dn P w K mg base plainS 3 "_law_weight" (spSz (okB 3) (szB 1 3)) := by
    refine dn D.d_law_weight f_law_weight k_law_weight (plain_md (l := [("_law_weight", spSz (okB 2) (szB 1 2))]) (k := 2) rfl ?m (fun x hx => D.blt x (by revert x; decide))) ?l ?w
    case m =>
      intro p hp
      simp only [List.mem_cons, List.mem_nil_iff, or_false] at hp
      rcases hp with rfl
      · exact hg2.mono (by decide)
    case l => exact fun _ _ _ _ ⟨_, _, _, e, _⟩ => by subst e; rfl
    case w => exact (w_law_weight (ok0 := okB 2) (f0 := szB 1 2) (by rfl)).imp fun _ _ _ _ ⟨b, a, kvs, e, h1, h2, h3, h4⟩ => ⟨b, a, kvs, e, h1, h2, h3.2, h4⟩
  have hm0 : Dn P w K mg base plainS 0 "_law_measure" (spSz (okB 0) (szB 0 0)) := dn0 D.d_law_measure fun _ _ _ _ ⟨_, _, _, _, _, _, h, _⟩ => h
  have hm1 : Dn P w K mg base plainS 1 "_law_measure" (spSz (okB 1) (szB 0 1)) := by
    refine dn D.d_law_measure f_law_measure k_law_measure (plain_md (l := [("_law_measure", spSz (okB 0) (szB 0 0))]) (k := 0) rfl ?m (fun x hx => D.blt x (by revert x; decide))) ?l ?w
    case m =>
      intro p hp
      simp only [List.mem_cons, List.mem_nil_iff, or_false] at hp
      rcases hp with rfl
      · exact hm0.mono (by decide)
    case l => exact fun _ _ _ _ ⟨_, _, _, e, _⟩ => by subst e; rfl
    case w => exact (w_law_measure (ok0 := okB 0) (f0 := szB 0 0) (by rfl)).imp fun _ _ _ _ ⟨b, a, kvs, e, h1, h2, h3, h4⟩ => ⟨b, a, kvs, e, h1, h2, h3.2, h4⟩
  have hm2 : Dn P w K mg base plainS 2 "_law_measure" (spSz (okB 2) (szB 0 2)) := by
    refine dn D.d_law_measure f_law_measure k_law_measure (plain_md (l := [("_law_measure", spSz (okB 1) (szB 0 1))]) (k := 1) rfl ?m (fun x hx => D.blt x (by revert x; decide))) ?l ?w
    case m =>
      intro p hp
      simp only [List.mem_cons, List.mem_nil_iff, or_false] at hp
      rcases hp with rfl
      · exact hm1.mono (by decide)
    case l => exact fun _ _ _ _ ⟨_, _, _, e, _⟩ => by subst e; rfl
    case w => exact (w_law_measure (ok0 := okB 1) (f0 := szB 0 1) (by rfl)).imp fun _ _ _ _ ⟨b, a, kvs, e, h1, h2, h3, h4⟩ => ⟨b, a, kvs, e, h1, h2, h3.2, h4⟩
  have hm3 : Dn P w K mg base plainS 3 "_law_measure" (spSz (okB 3) (szB 0 3)) := by
    refine dn D.d_law_measure f_law_measure k_law_measure (plain_md (l := [("_law_measure", spSz (okB 2) (szB 0 2))]) (k := 2) rfl ?m (fun x hx => D.blt x (by revert x; decide))) ?l ?w
    case m =>
      intro p hp
      simp only [List.mem_cons, List.mem_nil_iff, or_false] at hp
      rcases hp with rfl
      · exact hm2.mono (by decide)
    case l => exact fun _ _ _ _ ⟨_, _, _, e, _⟩ => by subst e; rfl
    case w => exact (w_law_measure (ok0 := okB 2) (f0 := szB 0 2) (by rfl)).imp fun _ _ _ _ ⟨b, a, kvs, e, h1, h2, h3, h4⟩ => ⟨b, a, kvs, e, h1, h2, h3.2, h4⟩
  have hc0 : Dn P w K mg base plainS 0 "_law_count" (spCnt (okB 0)) := dn0 D.d_law_count fun _ _ _ _ ⟨_, _, h, _⟩ => h
  have hc1 : Dn P w K mg base plainS 1 "_law_count" (spCnt (okB 1)) := by
    refine dn D.d_law_count f_law_count k_law_count (plain_md (l := [("_law_count", spCnt (okB 0))]) (k := 0) rfl ?m (fun x hx => D.blt x (by revert x; decide))) ?l ?w
    case m =>
      intro p hp
      simp only [List.mem_cons, List.mem_nil_iff, or_false] at hp
      rcases hp with rfl
      · exact hc0.mono (by decide)
    case l => exact fun _ _ _ _ ⟨_, e, _⟩ => by subst e; rfl
    case w => exact (w_count (ok0 := okB 0) (by rfl)).imp fun _ _ _ _ ⟨b, e, h1, h2⟩ => ⟨b, e, h1.2, h2⟩
  have hc2 : Dn P w K mg base plainS 2 "_law_count" (spCnt (okB 2)) := by
    refine dn D.d_law_count f_law_count k_law_count (plain_md (l := [("_law_count", spCnt (okB 1))]) (k := 1) rfl ?m (fun x hx => D.blt x (by revert x; decide))) ?l ?w
    case m =>
      intro p hp
      simp only [List.mem_cons, List.mem_nil_iff, or_false] at hp
      rcases hp with rfl
      · exact hc1.mono (by decide)
    case l => exact fun _ _ _ _ ⟨_, e, _⟩ => by subst e; rfl
    case w => exact (w_count (ok0 := okB 1) (by rfl)).imp fun _ _ _ _ ⟨b, e, h1, h2⟩ => ⟨b, e, h1.2, h2⟩
  have hc3 : Dn P w K mg base plainS 3 "_law_count" (spCnt (okB 3)) := by
    refine dn D.d_law_count f_law_count k_law_count (plain_md (l := [("_law_count", spCnt (okB 2))]) (k := 2) rfl ?m (fun x hx => D.blt x (by revert x; decide))) ?l ?w
    case m =>
      intro p hp
      simp only [List.mem_cons, List.mem_nil_iff, or_false] at hp
      rcases hp with rfl
      · exact hc2.mono (by decide)
    case l => exact fun _ _ _ _ ⟨_, e, _⟩ => by subst e; rfl
    case w => exact (w_count (ok0 := okB 2) (by rfl)).imp fun _ _ _ _ ⟨b, e, h1, h2⟩ => ⟨b, e, h1.2, h2⟩
  have he0 : Dn P w K mg base plainS 1 "_law_same" (spSame fun _ => False) := dn0 D.d_law_same fun _ _ _ _ ⟨_, _, h, _⟩ => h
  have he1 : Dn P w K mg base plainS 2 "_law_same" (spSame (Vl fun _ => False)) := by
    refine dn D.d_law_same f_law_same k_law_same (plain_md (l := [("_law_same", spSame fun _ => False), ("_law_is_integer", spIsInt)]) (k := 1) rfl ?m (fun x hx => D.blt x (by revert x; decide))) ?l ?w
    case m =>
      intro p hp
      simp only [List.mem_cons, List.mem_nil_iff, or_false] at hp
      rcases hp with rfl | rfl
      · exact he0.mono (by decide)
      · exact hint.mono (by decide)
    case l => exact fun _ _ _ _ ⟨_, e, _⟩ => by subst e; rfl
    case w => exact w_same (ok := fun _ => False) (by rfl) (by rfl)
  have he1b : Dn P w K mg base plainS 2 "_law_same" (spSame okS) := he1.imp fun _ _ _ _ ⟨t, e, h, q⟩ => ⟨t, e, .inl h, q⟩
  have he2 : Dn P w K mg base plainS 3 "_law_same" (spSame (Vl okS)) := by
    refine dn D.d_law_same f_law_same k_law_same (plain_md (l := [("_law_same", spSame okS), ("_law_is_integer", spIsInt)]) (k := 2) rfl ?m (fun x hx => D.blt x (by revert x; decide))) ?l ?w
    case m =>
      intro p hp
      simp only [List.mem_cons, List.mem_nil_iff, or_false] at hp
      rcases hp with rfl | rfl
      · exact he1b.mono (by decide)
      · exact hint.mono (by decide)
    case l => exact fun _ _ _ _ ⟨_, e, _⟩ => by subst e; rfl
    case w => exact w_same (ok := okS) (by rfl) (by rfl)
  have hbs : Dn P w K mg base plainS 4 "body_sizes" (spBS (okB 3) (szB 0 3)) := by
    refine dn D.d_body_sizes f_body_sizes k_body_sizes (plain_md (l := [("block_size", spSz (okB 3) (szB 0 3))]) (k := 3) rfl ?m (fun x hx => D.blt x (by revert x; decide))) ?l ?w
    case m =>
      intro p hp
      simp only [List.mem_cons, List.mem_nil_iff, or_false] at hp
      rcases hp with rfl
      · exact hs3.mono (by decide)
    case l => exact fun _ _ _ _ ⟨_, e, _⟩ => by subst e; rfl
    case w => exact w_body_sizes (by rfl)
  have hls : Dn P w K mg base plainS 4 "_law_sizes" (spLS (okB 3) (szB 0 3)) := by
    refine dn D.d_law_sizes f_law_sizes k_law_sizes (plain_md (l := [("_law_measure", spSz (okB 3) (szB 0 3))]) (k := 3) rfl ?m (fun x hx => D.blt x (by revert x; decide))) ?l ?w
    case m =>
      intro p hp
      simp only [List.mem_cons, List.mem_nil_iff, or_false] at hp
      rcases hp with rfl
      · exact hm3.mono (by decide)
    case l => exact fun _ _ _ _ ⟨_, e, _⟩ => by subst e; rfl
    case w => exact w_law_sizes (by rfl)
  have hpr : Dn P w K mg base plainS 6 "_law_program" (spProg) := by
    refine dn D.d_law_program f_law_program k_law_program (plain_md (l := [("_law_box", spBox), ("_law_draw", spDraw), ("_law_block", spBlk 3), ("_law_weight", spSz (okB 3) (szB 1 3)), ("_law_count", spCnt (okB 3))]) (k := 5) rfl ?m (fun x hx => D.blt x (by revert x; decide))) ?l ?w
    case m =>
      intro p hp
      simp only [List.mem_cons, List.mem_nil_iff, or_false] at hp
      rcases hp with rfl | rfl | rfl | rfl | rfl
      · exact hbox.mono (by decide)
      · exact hdraw.mono (by decide)
      · exact hb3.mono (by decide)
      · exact hg3.mono (by decide)
      · exact hc3.mono (by decide)
    case l => exact fun _ _ _ _ ⟨_, _, _, _, _, e, _⟩ => by subst e; rfl
    case w => exact w_program (by rfl) (by rfl) (by rfl) (by rfl) (by rfl)
  have hch : Dn P w K mg base plainS 4 "_law_chain" (spChain) := by
    refine dn D.d_law_chain f_law_chain k_law_chain (plain_md (l := [("_law_draw", spDraw), ("_law_weight", spSz (okB 3) (szB 1 3))]) (k := 3) rfl ?m (fun x hx => D.blt x (by revert x; decide))) ?l ?w
    case m =>
      intro p hp
      simp only [List.mem_cons, List.mem_nil_iff, or_false] at hp
      rcases hp with rfl | rfl
      · exact hdraw.mono (by decide)
      · exact hg3.mono (by decide)
    case l => exact fun _ _ _ _ ⟨_, _, e, _⟩ => by subst e; rfl
    case w => exact w_chain (by rfl) (by rfl)
  refine plain_md rfl ?_ (fun x hx => D.blt x (by revert x; decide))
  intro p hp
  simp only [lawTab, List.mem_cons, List.mem_nil_iff, or_false] at hp
  rcases hp with rfl | rfl | rfl | rfl | rfl | rfl
  · exact hbox.mono (by decide)
  · exact hpr.mono (by decide)
  · exact hch.mono (by decide)
  · exact hbs.mono (by decide)
  · exact hls.mono (by decide)
  · exact he2.mono (by decide)
theorem all_mk {h : Heap} {l : PySem.W.OpenLaw} {fa : Addr} (D : Defs K mg) (hfa : mg (Str.ofString "law") = some (.ref fa)) :
    ∃ fd : FuncData, (∀ (s : Shared) (v : Value), BindsTo s fd ⟨[v], []⟩ [("_law_script", v)]) ∧ ∀ base : Heap, K.In base → base.Ns mainGlobals mg → FnOk l.prog w K mg base (L2.CX l.prog w) 7 fa fd ["_law_script"] (upSp plainS K (LawPr 63)) := by
  obtain ⟨fa', fd, F, hm, hb⟩ := D.d_law
  have e := hfa.symm.trans hm
  cases e
  refine ⟨fd, fun s v => ?_, fun base _ _ => fn_rule F f_law k_law (law_md D) (fun _ _ _ _ ⟨_, e, _⟩ => by subst e; rfl) (w_law (by rfl) (by rfl) (by rfl) (by rfl) (by rfl) (by rfl))⟩
  obtain ⟨oc, od, kV, doc, pm, an, cdv, ct, osl, rfl, _⟩ := F.ex
  exact .of_eq rfl
end
theorem walk {l : PySem.W.OpenLaw} {q : Program} {loose : List Str} {XP : (Str → Option Value) → Heap → Prop} {YP : World → Heap → Prop} {d : DefRec} {K : Params → PySem.W.Frag} (hn : l.most = some 63) (hdf : d.params.defaults = [])
    (hY : ∀ (w : World) (h : Heap), YP w h → (K w.params).In h)
    (F : ∀ (w : World) (mg : Str → Option Value) (fa : Addr) (h : Heap), (K w.params).In h → h.Ns mainGlobals mg → mg d.name = some (.ref fa) →
      ∃ fd : FuncData, (∀ (s : Shared) (u : Value), BindsTo s fd ⟨[u], []⟩ [("_law_script", u)]) ∧ ∀ base : Heap, (K w.params).In base → base.Ns mainGlobals mg → FnOk l.prog w (K w.params) mg base (L2.CX l.prog w) 7 fa fd ["_law_script"] (upSp plainS (K w.params) (LawPr 63))) :
    PySem.W.WalkO q loose XP YP l.row.toRowW d [] (fun f vs => PySem.call f vs) :=
  L2.walk_of (n := 63) (k := 7) (x := "_law_script") (CX := fun w => L2.CX l.prog w) (sp := fun w => upSp plainS (K w.params) (LawPr 63)) hn (by decide) hdf ⟨rfl, by decide, by decide⟩ hY F (fun _ _ a ns hl o hS => law_sp rfl hl o hS) fun _ _ _ _ _ z => cx_no z
end SK.K01

set_option Elab.async false
set_option maxRecDepth 100000
namespace SK.K01
open PySem PySem.Spec PyProof.Rows L2 SK
theorem end_mk {l : PySem.W.OpenLaw} {w : World} {K : PySem.W.Frag} {h : Heap} {mg : Str → Option Value} {fa : Addr} (X : K.In h) (G : h.Ns mainGlobals mg) (hfa : mg (Str.ofString "law") = some (.ref fa))
    (d_block_size : Df K mg (Str.ofString "block_size") s_block_size p_block_size)
    (d_body_sizes : Df K mg (Str.ofString "body_sizes") s_body_sizes p_body_sizes)
    (d_law_cell : Df K mg (Str.ofString "_law_cell") s_law_cell p_law_cell)
    (d_law_digits : Df K mg (Str.ofString "_law_digits") s_law_digits p_law_digits)
    (d_law_box : Df K mg (Str.ofString "_law_box") s_law_box p_law_box)
    (d_law_draw : Df K mg (Str.ofString "_law_draw") s_law_draw p_law_draw)
    (d_law_is_integer : Df K mg (Str.ofString "_law_is_integer") s_law_is_integer p_law_is_integer)
    (d_law_same : Df K mg (Str.ofString "_law_same") s_law_same p_law_same)
    (d_law_word : Df K mg (Str.ofString "_law_word") s_law_word p_law_word)
    (d_law_block : Df K mg (Str.ofString "_law_block") s_law_block p_law_block)
    (d_law_count : Df K mg (Str.ofString "_law_count") s_law_count p_law_count)
    (d_law_weight : Df K mg (Str.ofString "_law_weight") s_law_weight p_law_weight)
    (d_law_program : Df K mg (Str.ofString "_law_program") s_law_program p_law_program)
    (d_law_measure : Df K mg (Str.ofString "_law_measure") s_law_measure p_law_measure)
    (d_law_sizes : Df K mg (Str.ofString "_law_sizes") s_law_sizes p_law_sizes)
    (d_law_chain : Df K mg (Str.ofString "_law_chain") s_law_chain p_law_chain)
    (d_law : Df K mg (Str.ofString "law") s_law p_law)
    (z_all : PySem.W.nsIn K mainGlobals (Str.ofString "all") = some none)
    (z_bool : PySem.W.nsIn K mainGlobals (Str.ofString "bool") = some none)
    (z_int : PySem.W.nsIn K mainGlobals (Str.ofString "int") = some none)
    (z_isinstance : PySem.W.nsIn K mainGlobals (Str.ofString "isinstance") = some none)
    (z_len : PySem.W.nsIn K mainGlobals (Str.ofString "len") = some none)
    (z_range : PySem.W.nsIn K mainGlobals (Str.ofString "range") = some none)
    (z_reversed : PySem.W.nsIn K mainGlobals (Str.ofString "reversed") = some none)
    (z_str : PySem.W.nsIn K mainGlobals (Str.ofString "str") = some none)
    (z_tuple : PySem.W.nsIn K mainGlobals (Str.ofString "tuple") = some none)
    : ∃ fd : FuncData, (∀ (s : Shared) (v : Value), BindsTo s fd ⟨[v], []⟩ [("_law_script", v)]) ∧ ∀ base : Heap, K.In base → base.Ns mainGlobals mg → FnOk l.prog w K mg base (L2.CX l.prog w) 7 fa fd ["_law_script"] (upSp plainS K (LawPr 63)) := by
  refine all_mk (h := h) ⟨d_block_size, d_body_sizes, d_law_cell, d_law_digits, d_law_box, d_law_draw, d_law_is_integer, d_law_same, d_law_word, d_law_block, d_law_count, d_law_weight, d_law_program, d_law_measure, d_law_sizes, d_law_chain, d_law, fun x hx => ?_⟩ hfa
  simp only [List.mem_cons, List.mem_nil_iff, or_false] at hx
  rcases hx with rfl | rfl | rfl | rfl | rfl | rfl | rfl | rfl | rfl
  · exact PySem.W.mg_none_of X G z_all
  · exact PySem.W.mg_none_of X G z_bool
  · exact PySem.W.mg_none_of X G z_int
  · exact PySem.W.mg_none_of X G z_isinstance
  · exact PySem.W.mg_none_of X G z_len
  · exact PySem.W.mg_none_of X G z_range
  · exact PySem.W.mg_none_of X G z_reversed
  · exact PySem.W.mg_none_of X G z_str
  · exact PySem.W.mg_none_of X G z_tuple
end SK.K01
open PySem PySem.W PyProof.Rows
set_option maxRecDepth 100000 in
set_option maxHeartbeats 0 in
theorem PySem.Challenge.cw_sameticks_k01_sizes_holds : PySem.Challenge.rw_sameticks_k01_sizes.Holds := by
  w_on; o_law; k_head; (case hw => w_witness2)
  k_fill
  refine SK.K01.walk (l := PySem.Challenge.rw_sameticks_k01_sizes) rfl rfl (fun w h Y => PySem.W.kIn_of Y) ?F
  case F =>
    intro w mg fa h KX G hmg
    refine SK.K01.end_mk (l := PySem.Challenge.rw_sameticks_k01_sizes) KX G hmg ?d_block_size ?d_body_sizes ?d_law_cell ?d_law_digits ?d_law_box ?d_law_draw ?d_law_is_integer ?d_law_same ?d_law_word ?d_law_block ?d_law_count ?d_law_weight ?d_law_program ?d_law_measure ?d_law_sizes ?d_law_chain ?d_law ?z_all ?z_bool ?z_int ?z_isinstance ?z_len ?z_range ?z_reversed ?z_str ?z_tuple
    case d_block_size =>
      refine' SK.df_mk KX G SK.K01.a_block_size ?a ?l ?c ?k
      (case a => k_is); (case l => k_is); (case c => k_is); (case k => k_is)
    case d_body_sizes =>
      refine' SK.df_mk KX G SK.K01.a_body_sizes ?a ?l ?c ?k
      (case a => k_is); (case l => k_is); (case c => k_is); (case k => k_is)
    case d_law_cell =>
      refine' SK.df_mk KX G SK.K01.a_law_cell ?a ?l ?c ?k
      (case a => k_is); (case l => k_is); (case c => k_is); (case k => k_is)
    case d_law_digits =>
      refine' SK.df_mk KX G SK.K01.a_law_digits ?a ?l ?c ?k
      (case a => k_is); (case l => k_is); (case c => k_is); (case k => k_is)
    case d_law_box =>
      refine' SK.df_mk KX G SK.K01.a_law_box ?a ?l ?c ?k
      (case a => k_is); (case l => k_is); (case c => k_is); (case k => k_is)
    case d_law_draw =>
      refine' SK.df_mk KX G SK.K01.a_law_draw ?a ?l ?c ?k
      (case a => k_is); (case l => k_is); (case c => k_is); (case k => k_is)
    case d_law_is_integer =>
      refine' SK.df_mk KX G SK.K01.a_law_is_integer ?a ?l ?c ?k
      (case a => k_is); (case l => k_is); (case c => k_is); (case k => k_is)
    case d_law_same =>
      refine' SK.df_mk KX G SK.K01.a_law_same ?a ?l ?c ?k
      (case a => k_is); (case l => k_is); (case c => k_is); (case k => k_is)
    case d_law_word =>
      refine' SK.df_mk KX G SK.K01.a_law_word ?a ?l ?c ?k
      (case a => k_is); (case l => k_is); (case c => k_is); (case k => k_is)
    case d_law_block =>
      refine' SK.df_mk KX G SK.K01.a_law_block ?a ?l ?c ?k
      (case a => k_is); (case l => k_is); (case c => k_is); (case k => k_is)
    case d_law_count =>
      refine' SK.df_mk KX G SK.K01.a_law_count ?a ?l ?c ?k
      (case a => k_is); (case l => k_is); (case c => k_is); (case k => k_is)
    case d_law_weight =>
      refine' SK.df_mk KX G SK.K01.a_law_weight ?a ?l ?c ?k
      (case a => k_is); (case l => k_is); (case c => k_is); (case k => k_is)
    case d_law_program =>
      refine' SK.df_mk KX G SK.K01.a_law_program ?a ?l ?c ?k
      (case a => k_is); (case l => k_is); (case c => k_is); (case k => k_is)
    case d_law_measure =>
      refine' SK.df_mk KX G SK.K01.a_law_measure ?a ?l ?c ?k
      (case a => k_is); (case l => k_is); (case c => k_is); (case k => k_is)
    case d_law_sizes =>
      refine' SK.df_mk KX G SK.K01.a_law_sizes ?a ?l ?c ?k
      (case a => k_is); (case l => k_is); (case c => k_is); (case k => k_is)
    case d_law_chain =>
      refine' SK.df_mk KX G SK.K01.a_law_chain ?a ?l ?c ?k
      (case a => k_is); (case l => k_is); (case c => k_is); (case k => k_is)
    case d_law =>
      refine' SK.df_mk KX G SK.K01.a_law ?a ?l ?c ?k
      (case a => k_is); (case l => k_is); (case c => k_is); (case k => k_is)
    (case z_all => k_is)
    (case z_bool => k_is)
    (case z_int => k_is)
    (case z_isinstance => k_is)
    (case z_len => k_is)
    (case z_range => k_is)
    (case z_reversed => k_is)
    (case z_str => k_is)
    (case z_tuple => k_is)

