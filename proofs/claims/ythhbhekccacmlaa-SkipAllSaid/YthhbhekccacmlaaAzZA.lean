/-
  Slices of integers in an abstract memory, by what they hold: their length, their elements, and that they stay where memory is only added. Conditions: stated at each theorem.
-/
import Derived.Test.YthhbhekccacmlaaAzZ
set_option linter.unusedSimpArgs false
set_option linter.unusedVariables false
namespace Go.Az
open Go Go.Chz

/-- The slice holds these integers. -/
def Ints (k : IntKind) (h : Hp) (s : AV) (l : List Int) : Prop :=
  (s = .v (.slice none 0 0) ∧ l = []) ∨ ∃ i o c u cs t own, s = .sl i o l.length c u ∧ h[i]? = some (.cells cs t own) ∧ o + l.length ≤ cs.length ∧ (cs.drop o).take l.length = l.map (fun x => .v (.int k x))
/-- All that was there is there still. -/
def Ext (h h' : Hp) : Prop := h.length ≤ h'.length ∧ ∀ i, i < h.length → h'[i]? = h[i]?
theorem Ext.refl (h : Hp) : Ext h h := ⟨Nat.le_refl _, fun _ _ => rfl⟩
theorem Ext.trans {a b c : Hp} (x : Ext a b) (y : Ext b c) : Ext a c := ⟨Nat.le_trans x.1 y.1, fun i hi => by rw [y.2 i (Nat.lt_of_lt_of_le hi x.1), x.2 i hi]⟩
theorem Ext.get {a b : Hp} (x : Ext a b) {i : Nat} {o : AObj} (hi : a[i]? = some o) : b[i]? = some o := by
  rw [x.2 i (List.getElem?_eq_some_iff.1 hi).1, hi]
theorem Ext.push (h : Hp) (o : AObj) : Ext h (h ++ [o]) := ⟨by simp, fun i hi => by rw [List.getElem?_append_left hi]⟩
theorem Ints.ext {k : IntKind} {h h' : Hp} {s : AV} {l : List Int} (hS : Ints k h s l) (x : Ext h h') : Ints k h' s l := by
  rcases hS with hS | ⟨i, o, c, u, cs, t, own, h1, h2, h3⟩
  · exact .inl hS
  · exact .inr ⟨i, o, c, u, cs, t, own, h1, x.get h2, h3⟩
theorem ints_get {k : IntKind} {cs : List AV} {o : Nat} {l : List Int} (h : (cs.drop o).take l.length = l.map (fun x => .v (.int k x))) {j : Nat} {x : Int} (hj : l[j]? = some x) : cs[o + j]? = some (.v (.int k x)) := by
  have h1 := congrArg (fun z => z[j]?) h
  have h2 : j < l.length := (List.getElem?_eq_some_iff.1 hj).1
  simp only [List.getElem?_take, h2, if_true, List.getElem?_drop, List.getElem?_map, hj, Option.map_some] at h1
  exact h1
def elA (s : AV) (x : Int) : AV := match s with
  | .sl i o _ _ _ => .ptr i (o + x.toNat)
  | _ => .v undef

section
variable {P : Program} {f : Fr} {h : Hp} {a b : Operand} {t : TypeId} {x : Int} {k k' : IntKind} {s : AV} {l : List Int}
theorem x_lenI {e : TypeId} {q : Nat} (hS : Ints k h s l) (hu : sliOf P t = some (e, q)) (ha : ev f a = s) : exL P f h (.call ⟨.builtin .len, #[a], #[t]⟩) = some (.v (.int .i64 l.length)) := by
  unfold sliOf at hu
  split at hu
  · rename_i e' hu'
    rcases hS with ⟨rfl, rfl⟩ | ⟨i, o, c, u, cs, t', own, rfl, h2, h3⟩ <;> simp [exL, ha, exB, lenB, hu']
  · cases hu
theorem x_idxI {e : TypeId} (hS : Ints k h s l) (hu : sliOf P t = some (e, 1)) (ha : ev f a = s) (hb : ev f b = .v (.int k' x)) (h0 : 0 ≤ x) (h1 : x < l.length) : exL P f h (.indexAddr t a b) = some (elA s x) := by
  rcases hS with ⟨_, rfl⟩ | ⟨i, o, c, u, cs, t', own, rfl, h2, h3⟩
  · simp at h1; omega
  · rw [x_idxS hu ha hb h0 h1]; simp [elA]
theorem x_loadI (hS : Ints k h s l) (hs : isS1 P t = true) (ha : ev f a = elA s x) (h0 : 0 ≤ x) (h1 : x < l.length) : exL P f h (.load t a) = some (.v (.int k (l.getD x.toNat 0))) := by
  rcases hS with ⟨_, rfl⟩ | ⟨i, o, c, u, cs, t', own, rfl, h2, h3⟩
  · simp at h1; omega
  · have h4 : x.toNat < l.length := by omega
    refine x_load1 hs ha h2 (ints_get h3.2 (j := x.toNat) ?_)
    rw [List.getD_eq_getElem?_getD, List.getElem?_eq_getElem h4]; rfl
end

/-! ### Slices that are appended to -/
/-- A slice of the call's own (its object's number is at least m) that may be appended to, and what it holds. -/
def Grow (k : IntKind) (e : TypeId) (m : Nat) (h : Hp) (s : AV) (l : List Int) : Prop :=
  (s = .v (.slice none 0 0) ∧ l = []) ∨ (∃ i cs own, m ≤ i ∧ s = .sl i 0 0 0 false ∧ l = [] ∧ h[i]? = some (.cells cs e own)) ∨
    ∃ i, m ≤ i ∧ s = .sl i 0 l.length 0 true ∧ h[i]? = some (.cells (l.map (fun x => .v (.int k x))) e true)
theorem Grow.ints {k : IntKind} {e : TypeId} {m : Nat} {h : Hp} {s : AV} {l : List Int} (hG : Grow k e m h s l) : Ints k h s l := by
  rcases hG with hG | ⟨i, cs, own, h1, rfl, rfl, h2⟩ | ⟨i, h1, rfl, h2⟩
  · exact .inl hG
  · exact .inr ⟨i, 0, 0, false, cs, e, own, rfl, h2, by simp, by simp⟩
  · exact .inr ⟨i, 0, 0, true, _, e, true, rfl, h2, by simp, by rw [List.drop_zero, List.take_of_length_le (by simp)]⟩
theorem Grow.ext {k : IntKind} {e : TypeId} {m : Nat} {h h' : Hp} {s : AV} {l : List Int} (hG : Grow k e m h s l) (x : Ext h h') : Grow k e m h' s l := by
  rcases hG with hG | ⟨i, cs, own, h1, h3, h4, h2⟩ | ⟨i, h1, h3, h2⟩
  · exact .inl hG
  · exact .inr (.inl ⟨i, cs, own, h1, h3, h4, x.get h2⟩)
  · exact .inr (.inr ⟨i, h1, h3, x.get h2⟩)
/-- What lies below m stays. -/
def Low (m : Nat) (h h' : Hp) : Prop := h.length ≤ h'.length ∧ ∀ i, i < m → h'[i]? = h[i]?
theorem Low.refl (m : Nat) (h : Hp) : Low m h h := ⟨Nat.le_refl _, fun _ _ => rfl⟩
theorem Low.trans {m : Nat} {a b c : Hp} (x : Low m a b) (y : Low m b c) : Low m a c := ⟨Nat.le_trans x.1 y.1, fun i hi => by rw [y.2 i hi, x.2 i hi]⟩
theorem Low.push {m : Nat} {h : Hp} (o : AObj) (hm : m ≤ h.length) : Low m h (h ++ [o]) := ⟨by simp, fun i hi => by rw [List.getElem?_append_left (by omega)]⟩
theorem Low.toExt {h h' : Hp} (x : Low h.length h h') : Ext h h' := x
def elOk (P : Program) (e : TypeId) : Bool := match tab P e, P.info? e with
  | some ti, some inf => Nat.beq ti.size 1 && Nat.ble ti.bytes 8 && Nat.beq inf.size 1
  | _, _ => false
theorem allOne_ints (k : IntKind) : ∀ l : List Int, allOne (l.map (fun x => AV.v (.int k x))) = true
  | [] => rfl
  | x :: r => by simp only [List.map_cons, allOne, AV.one, Value.oneCell', allOne_ints k r, Bool.true_and]
theorem app_ints {P : Program} {t e : TypeId} {k : IntKind} {m : Nat} {H : Hp} {s u : AV} {l l2 : List Int} (hu : sliOf P t = some (e, 1)) (he : elOk P e = true) (hG : Grow k e m H s l) (hm : m ≤ H.length) (hS : Ints k H u l2) (hlen : l.length + l2.length ≤ 17592186044416) :
    ∃ s' H', app P H [t, t] s u = some (s', H') ∧ Grow k e m H' s' (l ++ l2) ∧ Low m H H' := by
  have hu' : P.underlying t = some (.slice e) := by
    unfold sliOf at hu
    split at hu
    · rename_i e' h1
      split at hu
      · injection hu with hu; injection hu with hu1 hu2; subst hu1; exact h1
      · cases hu
    · cases hu
  unfold elOk at he
  split at he
  case h_2 => cases he
  rename_i ti inf ht hinf
  simp only [Bool.and_eq_true, Nat.beq_eq, Nat.ble_eq] at he
  obtain ⟨⟨hs1, hby⟩, hi1⟩ := he
  have hsrc : srcC H 1 u = some (l2.length, l2.map (fun x => .v (.int k x))) := by
    rcases hS with ⟨rfl, rfl⟩ | ⟨i, o, c, u', cs, t', own, rfl, h2, h3, h4⟩
    · rfl
    · simp only [srcC, h2, Nat.mul_one]
      rw [if_pos h3, h4]
  have hb : (l.length + l2.length) * ti.bytes ≤ 140737488355328 := Nat.le_trans (Nat.mul_le_mul hlen hby) (by omega)
  have hb2 : l2.length * ti.bytes ≤ 140737488355328 := Nat.le_trans (Nat.mul_le_mul (show l2.length ≤ 17592186044416 by omega) hby) (by omega)
  unfold app
  simp only [ne_eq, not_true_eq_false, if_false, hu', ht, hs1, Nat.one_ne_zero, hsrc, allOne_ints, Bool.true_eq_false, Nat.mul_one, Nat.zero_add]
  rcases hG with ⟨rfl, rfl⟩ | ⟨i, cs, own, h1, rfl, rfl, h2⟩ | ⟨i, h1, rfl, h2⟩
  · simp only []
    by_cases h0 : l2.length = 0
    · rw [if_pos h0]
      exact ⟨_, _, rfl, .inl ⟨rfl, by simpa using h0⟩, Low.refl _ _⟩
    · rw [if_neg h0, if_pos ⟨by omega, hb2⟩]
      exact ⟨_, _, rfl, .inr (.inr ⟨H.length, hm, by simp, by simp⟩), Low.push _ hm⟩
  · simp only []
    by_cases h0 : l2.length = 0
    · rw [if_pos (by omega), if_pos h0]
      have : l2 = [] := by simpa using h0
      subst this
      exact ⟨_, _, rfl, .inr (.inl ⟨i, cs, own, h1, rfl, rfl, h2⟩), Low.refl _ _⟩
    · rw [if_neg (by omega), if_neg h0, h2]
      simp only []
      rw [if_pos ⟨by simp, by omega, by simpa using hb2⟩]
      exact ⟨_, _, rfl, .inr (.inr ⟨H.length, hm, by simp, by simp⟩), Low.push _ hm⟩
  · simp only []
    by_cases h0 : l2.length = 0
    · have : l2 = [] := by simpa using h0
      subst this
      have hc : capOk P H e i l.length 0 = true := by simp [capOk, h2, hinf, hi1]
      rw [if_pos h0, if_pos hc]
      exact ⟨_, _, rfl, .inr (.inr ⟨i, h1, by simp, by simpa using h2⟩), Low.refl _ _⟩
    · rw [if_neg h0, h2]
      simp only []
      rw [if_pos ⟨trivial, trivial, trivial, by simp, by omega, hb⟩]
      refine ⟨_, _, rfl, .inr (.inr ⟨H.length, hm, by simp, ?_⟩), ?_⟩
      · rw [List.getElem?_append_right (by simp)]
        simp [List.take_of_length_le]
      · refine ⟨by simp, fun j hj => ?_⟩
        rw [List.getElem?_append_left (by simp; omega), List.getElem?_set_ne (by omega)]
theorem x_app {P : Program} {f : Fr} {h h' : Hp} {a b : Operand} {t : TypeId} {s u r : AV} (ha : ev f a = s) (hb : ev f b = u) (hr : app P h [t, t] s u = some (r, h')) : exH P f h (.call ⟨.builtin .append, #[a, b], #[t, t]⟩) = some (r, h') := by
  simp only [exH, ha, hb]; exact hr
end Go.Az
