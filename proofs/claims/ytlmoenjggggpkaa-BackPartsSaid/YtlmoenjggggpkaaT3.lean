import Derived.Test.YtlmoenjggggpkaaRows
import Derived.Handy
import Derived.PlainAid
import Derived.WalkSpells
import Derived.WalkLawsBesides
import Derived.BigGuardPart
import Derived.Lib.Hide
import Derived.Deep.RegionHeld3
import Derived.BigQuiet
import Derived.Deep.DeepFit
import Derived.Deep.LoopGhost
namespace Go.Proofs.Ytlmoenjggggpkaa
set_option linter.unusedVariables false
open Go.RowKit

def firstNZ : List Int → Int
  | [] => 0
  | x :: l => if x = 0 then firstNZ l else x

theorem firstNZ_all0 (l : List Int) (h : ∀ x ∈ l, x = 0) : firstNZ l = 0 := by
  induction l with
  | nil => rfl
  | cons x l ih => rw [firstNZ, if_pos (h x (by simp))]; exact ih fun y hy => h y (by simp [hy])

theorem firstNZ_none (l : List Int) (k : Nat) (hk : l.length ≤ k) (h0 : ∀ j, j < k → l.getD j 0 = 0) : firstNZ l = 0 := by
  refine firstNZ_all0 l fun x hx => ?_
  obtain ⟨j, hj, rfl⟩ := List.mem_iff_getElem.1 hx
  have := h0 j (by omega)
  simpa [List.getD, List.getElem?_eq_getElem hj] using this

theorem firstNZ_at (l : List Int) (k : Nat) (h0 : ∀ j, j < k → l.getD j 0 = 0) (hk : l.getD k 0 ≠ 0) : firstNZ l = l.getD k 0 := by
  induction l generalizing k with
  | nil => simp at hk
  | cons x l ih =>
    cases k with
    | zero => simp at hk ⊢; rw [firstNZ, if_neg hk]
    | succ k =>
      have := h0 0 (by omega)
      simp at this
      rw [firstNZ, if_pos this, ih k (fun j hj => by have := h0 (j + 1) (by omega); simpa using this) (by simpa using hk)]
      simp

theorem first_any (g n c : Nat) (xs : List Int) (w : World) (hn : n = xs.length) (hm : n ≤ 100) (hc : ∀ j, j < n → w.cell? ⟨g, j, none⟩ = some (.int .i64 (xs.getD j 0))) :
    Calls Try.prog 35 #[.slice (some ⟨g, 0, none⟩) n c] w fun e w' => e = .returned (.int .i64 (firstNZ xs)) ∧ w = w' := by
  have Hc := Lib.hid hc
  have Hn := Lib.hid hn
  clear hc hn
  go_enter Try.func35, Try.ntmps35
  go_wp2
  go_step3
  go_wp2
  go_step3
  go_wp2
  go_loop [3, 8] (fun f i => ∃ k : Nat, k ≤ n ∧ i = .int .i64 k ∧ f = .int .i64 0 ∧ Hid (∀ j, j < k → xs.getD j 0 = 0)) (fun _ i => n - (intOf i).toNat)
  case atStart => exact ⟨0, by omega, rfl, rfl, fun j hj => by omega⟩
  case round =>
    obtain ⟨k, hk, rfl, rfl, H0⟩ := hrel
    by_cases hlt : k < n
    · obtain ⟨x, hx⟩ : ∃ x, x = xs.getD k 0 := ⟨_, rfl⟩
      have hcx : w.cell? ⟨g, k, none⟩ = some (.int .i64 x) := by rw [hx]; exact Hc.out k hlt
      have Hx := Lib.hid hx
      clear hx
      go_wp2
      · have h : (x != 0) = true := by assumption
        go_ret
        refine ⟨?_, rfl⟩
        have hx : x ≠ 0 := by simpa using h
        rw [firstNZ_at xs k H0.out (by rw [← Hx.out]; exact hx), ← Hx.out]; rfl
      · have h : (x != 0) = false := by assumption
        have hx : x = 0 := by simpa using h
        go_round
        case rel => exact ⟨k + 1, by omega, by go_num, rfl, fun j hj => by
          by_cases e : j = k
          · rw [e, ← Hx.out]; exact hx
          · exact H0.out j (by omega)⟩
        case measure => simp [intOf]; omega
    · go_wp2
      go_ret
      refine ⟨?_, rfl⟩
      rw [firstNZ_none xs k (by rw [← Hn.out]; omega) H0.out]; rfl

theorem opened_any (s : ByteArray) (part n : Int) (w : World) (h0 : 0 ≤ part) (h1 : part < 256) :
    Calls Try.prog 37 #[.agg #[.string s, .int .i64 part, .int .i64 n]] w fun e w' => e = .returned (.pointer (some ⟨w.heap.size + 1, 0, none⟩)) ∧
      w' = (w.alloc (.cells #[.string s, .int .i64 part, .int .i64 n] 23)).alloc (.cells #[.string s, .int .u64 part, .int .i64 n] 67) := by
  go_enter Try.func37, Try.ntmps37
  go_wp2
  go_ret
  exact ⟨rfl, rfl⟩
end Go.Proofs.Ytlmoenjggggpkaa
