/-
  Parts of slices of integers that the call has made: what s[:n] and s[n:] hold. Conditions: stated at each theorem.
-/
import Derived.Test.YthhbhekccacmlaaAzZB
set_option linter.unusedSimpArgs false
set_option linter.unusedVariables false
namespace Go.Az
open Go Go.Chz

section
variable {P : Program} {t e : TypeId} {k : IntKind} {m : Nat} {H : Hp} {s : AV} {l : List Int} {n : Nat}
theorem sliOf_spec {q : Nat} (hu : sliOf P t = some (e, q)) : P.underlying t = some (.slice e) ∧ ∃ inf, P.info? e = some inf ∧ inf.size = q := by
  unfold sliOf at hu
  split at hu
  · rename_i e' h1
    split at hu
    · rename_i inf hi
      injection hu with hu; injection hu with hu1 hu2; subst hu1; exact ⟨h1, inf, hi, hu2⟩
    · cases hu
  · cases hu
theorem cut_hi (hu : sliOf P t = some (e, 1)) (hG : Grow k e m H s l) (hn : n ≤ l.length) : ∃ s', slc P H t s none (some (.v (.int .i64 n))) none = some s' ∧ Ints k H s' (l.take n) := by
  obtain ⟨hu', inf, hi, h1⟩ := sliOf_spec hu
  rcases hG with ⟨rfl, rfl⟩ | ⟨i, cs, own, h2, rfl, rfl, h3⟩ | ⟨i, h2, rfl, h3⟩
  · have : n = 0 := by simpa using hn
    subst this
    exact ⟨.v (.slice none 0 0), by simp [slc, hu', hi, bnds, bnd, intOf?], .inl ⟨rfl, rfl⟩⟩
  · have : n = 0 := by simpa using hn
    subst this
    exact ⟨.sl i 0 0 0 false, by simp [slc, hu', hi, bnds, bnd, intOf?, cutAt], .inr ⟨i, 0, 0, false, cs, e, own, rfl, h3, by simp, by simp⟩⟩
  · have hc : capOk P H e i l.length 0 = true := by simp [capOk, h3, hi, h1]
    refine ⟨.sl i 0 n 0 true, by simp [slc, hu', hi, hc, ubnds, bnds, bnd, intOf?, hn], .inr ⟨i, 0, 0, true, _, e, true, by rw [List.length_take, Nat.min_eq_left hn], h3, by simp; omega, ?_⟩⟩
    rw [List.length_take, Nat.min_eq_left hn, List.drop_zero, List.map_take]
variable {f : Fr} {a b : Operand} {ops : Array Oper} {N : Fr → Hp → Prop} {d : Option Tmp} {ty : TypeId} {pos : String} {aft : Array Edge} {gd : Option (Nat × Bool)} {rest : List Oper}
theorem s_cutHi (hw : wantA ops f ⟨d, .slice t a none (some b) none, ty, pos, aft, gd⟩ = true) (hu : sliOf P t = some (e, 1)) (hG : Grow k e m H s l) (ha : ev f a = s) (hb : ev f b = .v (.int .i64 n)) (hn : n ≤ l.length)
    (hk : ∀ s', Ints k H s' (l.take n) → wkO P ops rest N (f.put d s') H) : wkO P ops (⟨d, .slice t a none (some b) none, ty, pos, aft, gd⟩ :: rest) N f H := by
  obtain ⟨s', h1, h2⟩ := cut_hi hu hG hn
  exact s_gL hw (by simp only [exL, ha, hb, Option.map_some, Option.map_none, h1]) (hk s' h2)
theorem s_cutLo (hw : wantA ops f ⟨d, .slice t a (some b) none none, ty, pos, aft, gd⟩ = true) (hu : sliOf P t = some (e, 1)) (hG : Grow k e m H s l) (ha : ev f a = s) (hb : ev f b = .v (.int .i64 n)) (hn : n ≤ l.length)
    (hk : ∀ s', Ints k H s' (l.drop n) → wkO P ops rest N (f.put d s') H) : wkO P ops (⟨d, .slice t a (some b) none none, ty, pos, aft, gd⟩ :: rest) N f H := by
  obtain ⟨hu', inf, hi, h1⟩ := sliOf_spec hu
  have go : ∀ s', slc P H t s (some (.v (.int .i64 n))) none none = some s' → Ints k H s' (l.drop n) → wkO P ops (⟨d, .slice t a (some b) none none, ty, pos, aft, gd⟩ :: rest) N f H := fun s' h1 h2 =>
    s_gL hw (by simp only [exL, ha, hb, Option.map_some, Option.map_none, h1]) (hk s' h2)
  rcases hG with ⟨rfl, rfl⟩ | ⟨i, cs, own, h2, rfl, rfl, h3⟩ | ⟨i, h2, rfl, h3⟩
  · have : n = 0 := by simpa using hn
    subst this
    exact go (.v (.slice none 0 0)) (by simp [slc, hu', hi, bnds, bnd, intOf?]) (.inl ⟨rfl, rfl⟩)
  · have : n = 0 := by simpa using hn
    subst this
    exact go (.sl i 0 0 0 false) (by simp [slc, hu', hi, bnds, bnd, intOf?, cutAt]) (.inr ⟨i, 0, 0, false, cs, e, own, rfl, h3, by simp, by simp⟩)
  · have hc : capOk P H e i l.length 0 = true := by simp [capOk, h3, hi, h1]
    by_cases hlt : n < l.length ∨ n = 0
    · refine go (.sl i n (l.length - n) n true) (by simp [slc, hu', hi, hc, ubnds, bnds, bnd, intOf?, hn, h1, hlt]) (.inr ⟨i, n, n, true, _, e, true, by simp, h3, by simp; omega, ?_⟩)
      rw [List.length_drop, ← List.map_drop, List.take_of_length_le (by simp)]
    · have hq : n = l.length := by omega
      subst hq
      have ht : tailOf P f H (.slice t a (some b) none none) = some (.sl i 0 0 0 false, .sl i (0 + l.length * inf.size) 0 (0 + l.length) true) := by
        simp [tailOf, hu', ha, hb, hc, hi, intOf?]
      show (if _ then _ else _)
      rw [if_pos hw]
      refine .inr (.inr (.inr (.inr (.inl ⟨_, _, ht, hk _ ?_, hk _ ?_⟩))))
      · exact .inr ⟨i, 0, 0, false, _, e, true, by simp, h3, by simp, by simp⟩
      · exact .inr ⟨i, 0 + l.length * inf.size, 0 + l.length, true, _, e, true, by simp, h3, by simp [h1], by simp⟩
end
end Go.Az
