/-
  Slices of integers in an abstract memory, by what they hold: their length, their elements, and that they stay where memory is only added. Conditions: stated at each theorem.
-/
import Derived.Test.YtcnkaplepgpmlaaAzZ
set_option linter.unusedSimpArgs false
set_option linter.unusedVariables false
namespace Go.Az
open Go Go.Chz

/-- The slice holds these integers. -/
def Ints (k : IntKind) (h : Hp) (s : AV) (l : List Int) : Prop :=
  (s = .v (.slice none 0 0) ∧ l = []) ∨ ∃ i o c u cs t own, s = .sl i o l.length c u ∧ h[i]? = some (.cells cs t own) ∧ ∀ (j : Nat) (x : Int), l[j]? = some x → cs[o + j]? = some (.v (.int k x))
/-- All that was there is there still. -/
def Ext (h h' : Hp) : Prop := h.length ≤ h'.length ∧ ∀ i, i < h.length → h'[i]? = h[i]?
theorem Ext.refl (h : Hp) : Ext h h := ⟨Nat.le_refl _, fun _ _ => rfl⟩
theorem Ext.trans {a b c : Hp} (x : Ext a b) (y : Ext b c) : Ext a c := ⟨Nat.le_trans x.1 y.1, fun i hi => by rw [y.2 i (Nat.lt_of_lt_of_le hi x.1), x.2 i hi]⟩
theorem Ext.get {a b : Hp} (x : Ext a b) {i : Nat} {o : AObj} (hi : a[i]? = some o) : b[i]? = some o := by
  rw [x.2 i (List.getElem?_eq_some_iff.1 hi).1, hi]
theorem Ext.push (h : Hp) (o : AObj) : Ext h (h ++ [o]) := ⟨by simp, fun i hi => by rw [List.getElem?_append_left hi]⟩
theorem Ints.ext {k : IntKind} {h h' : Hp} {s : AV} {l : List Int} (hS : Ints k h s l) (x : Ext h h') : Ints k h' s l := by
  rcases hS with hS | ⟨i, o, c, u, cs, t, own, h1, h2, h3⟩
  · exact .inl hS
  · exact .inr ⟨i, o, c, u, cs, t, own, h1, x.get h2, h3⟩
def elA (s : AV) (x : Int) : AV := match s with
  | .sl i o _ _ _ => .ptr i (o + x.toNat)
  | _ => .v undef

section
variable {P : Program} {f : Fr} {h : Hp} {a b : Operand} {t : TypeId} {x : Int} {k k' : IntKind} {s : AV} {l : List Int}
theorem x_lenI {e : TypeId} {q : Nat} (hS : Ints k h s l) (hu : sliOf P t = some (e, q)) (ha : ev f a = s) : exL P f h (.call ⟨.builtin .len, #[a], #[t]⟩) = some (.v (.int .i64 l.length)) := by
  unfold sliOf at hu
  split at hu
  · rename_i e' hu'
    rcases hS with ⟨rfl, rfl⟩ | ⟨i, o, c, u, cs, t', own, rfl, h2, h3⟩ <;> simp [exL, ha, exB, lenB, hu']
  · cases hu
theorem x_idxI {e : TypeId} (hS : Ints k h s l) (hu : sliOf P t = some (e, 1)) (ha : ev f a = s) (hb : ev f b = .v (.int k' x)) (h0 : 0 ≤ x) (h1 : x < l.length) : exL P f h (.indexAddr t a b) = some (elA s x) := by
  rcases hS with ⟨_, rfl⟩ | ⟨i, o, c, u, cs, t', own, rfl, h2, h3⟩
  · simp at h1; omega
  · rw [x_idxS hu ha hb h0 h1]; simp [elA]
theorem x_loadI (hS : Ints k h s l) (hs : isS1 P t = true) (ha : ev f a = elA s x) (h0 : 0 ≤ x) (h1 : x < l.length) : exL P f h (.load t a) = some (.v (.int k (l.getD x.toNat 0))) := by
  rcases hS with ⟨_, rfl⟩ | ⟨i, o, c, u, cs, t', own, rfl, h2, h3⟩
  · simp at h1; omega
  · have h4 : x.toNat < l.length := by omega
    refine x_load1 hs ha h2 (h3 x.toNat _ ?_)
    rw [List.getD_eq_getElem?_getD, List.getElem?_eq_getElem h4]; rfl
end
end Go.Az
