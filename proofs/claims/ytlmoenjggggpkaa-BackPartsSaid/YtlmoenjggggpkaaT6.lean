import Derived.Test.YtlmoenjggggpkaaT5
import Derived.Test.YtlmoenjggggpkaaReg
namespace Go.Proofs.Ytlmoenjggggpkaa
open Go.RowKit Go.Chz
set_option linter.unusedVariables false

theorem first3 (a b c : Int) (g cap : Nat) (w : World) (hb : Blk w g 26 [.int .i64 a, .int .i64 b, .int .i64 c]) :
    Calls Try.prog 35 #[.slice (some ⟨g, 0, none⟩) 3 cap] w fun e w' => e = .returned (.int .i64 (firstNZ [a, b, c])) ∧ w = w' :=
  first_any g 3 cap [a, b, c] w rfl (by omega) fun j hj => by
    match j, hj with
    | 0, _ => exact hb.cell 0 rfl
    | 1, _ => exact hb.cell 1 rfl
    | 2, _ => exact hb.cell 2 rfl
theorem first2 (a b : Int) (g cap : Nat) (w : World) (hb : Blk w g 26 [.int .i64 a, .int .i64 b]) :
    Calls Try.prog 35 #[.slice (some ⟨g, 0, none⟩) 2 cap] w fun e w' => e = .returned (.int .i64 (firstNZ [a, b])) ∧ w = w' :=
  first_any g 2 cap [a, b] w rfl (by omega) fun j hj => by
    match j, hj with
    | 0, _ => exact hb.cell 0 rfl
    | 1, _ => exact hb.cell 1 rfl

def rngB (k v : Int) : Bool := decide (k < 0 ∨ 32 < k ∨ v / 2 ^ k.toNat ≠ 0)
def lngB (len : Nat) (n k : Int) : Bool := decide (1048576 < wrap64 ((len : Int) + wrap64 ((wrap64 (n + k)).tdiv 8)))
def putE (len : Nat) (part n k v : Int) : Int := firstNZ [chk len part n, ifB (rngB k v) 2, ifB (lngB len n k) 4]

set_option maxHeartbeats 800000 in
theorem Put_lo (s : ByteArray) (part n k v : Int) (w : World) (hs : s.size ≤ 1048577) (hk : k < 0) :
    Calls Try.prog 10 #[.agg #[.string s, .int .i64 part, .int .i64 n], .int .i64 k, .int .u64 v] w fun e w' => e = .returned (.tuple #[.agg #[.string ⟨#[]⟩, .int .i64 0, .int .i64 0], .int .i64 (putE s.size part n k v)]) ∧ Below w.heap.size w w' := by
  have hs' : s.size ≤ maxLen := by unfold maxLen; omega
  have hE : Hid (firstNZ [chk s.size part n, ifB true 2, ifB (decide (1048576 < wrap64 (↑s.size + wrap64 ((wrap64 (n + k)).tdiv 8)))) 4] = putE s.size part n k v) := by
    show _ = firstNZ [_, ifB (decide _) 2, _]
    rw [decide_eq_true (show k < 0 ∨ 32 < k ∨ v / 2 ^ k.toNat ≠ 0 from by omega)]; rfl
  have hE0 : (firstNZ [chk s.size part n, ifB true 2, ifB (decide (1048576 < wrap64 (↑s.size + wrap64 ((wrap64 (n + k)).tdiv 8)))) 4] != 0) = true := by
    simp only [firstNZ, ifB, if_true]; split <;> simp; omega
  have hkd : decide (k < 0) = true := by simpa using hk
  go_enter Try.func10, Try.ntmps10
  go_wp2
  refine abs (R := fun W => Code.wp _ _ _ _ W) (fun W => Below w.heap.size w W ∧ Blk W w.heap.size 23 [.string s, .int .i64 part, .int .i64 n] ∧ Blk W (w.heap.size + 1) 23 [.string ⟨#[]⟩, .int .i64 0, .int .i64 0])
    ⟨by go_grown, (Blk.new _ _ _).alloc _, Blk.new' (by simp) _ _⟩ ?_
  rintro w0 ⟨hw0, hA, hR⟩
  have a0 := hA.cell 0 rfl
  have a1 := hA.cell 1 rfl
  have a2 := hA.cell 2 rfl
  have al := hA.lt
  refine wp_region_B
    [(0, true), (2, true), (3, true), (17, true), (18, true), (19, true), (20, true), (21, true), (22, true), (23, true), (24, true), (25, true), (26, true), (1, false), (4, true), (5, true), (6, true), (7, true), (8, true), (9, true), (10, true), (11, true), (12, true), (13, true), (14, true), (15, true), (16, false), (27, false), (28, false), (29, false), (30, true)]
    (by kernel_rfl) (by kernel_rfl) (fun c a d v w h => by cases d <;> exact h) (fun hS1 => ?_)
  repeat (first
    | (refine wpS_nil ?_)
    | (refine wpS_skip (o := ⟨_, _, _, _, _, _⟩) rfl ?_ ?_; (focus rfl); simp only [Act.put, List.setIfInBounds_toArray, List.set_cons_zero, List.set_cons_succ])
    | (refine wpS_lightB (o := ⟨_, _, _, _, _, _⟩) (v := ?_) rfl ?_ (fun w' hS' => ?_) ?_; rotate_left; (focus rfl); (focus (go_simp; try with_reducible rfl)); simp only [Act.put, List.setIfInBounds_toArray, List.set_cons_zero, List.set_cons_succ])
    | (refine wpS_heavyB hS1 (o := ⟨_, _, _, _, _, _⟩) rfl ?_ (fun K hK => ?_); (focus rfl)
       go_wp2_with (first
         | (go_at_call 12; refine (check_any s part n _ hs').mono ?_; rintro e w1 ⟨rfl, hb1⟩)
         | (go_at_call 36; refine (when_any _ _ _).mono ?_; rintro e w1 ⟨rfl, rfl⟩)
         | (go_at_call 35; refine (first3 _ _ _ _ _ _ (Blk.new' rfl _ _)).mono ?_; rintro e w1 ⟨rfl, rfl⟩))
       refine ⟨?_, fun hS1 => ?_⟩
       · first | exact Below.refl _ _ | exact hb1 | exact (Below.refl _ _).alloc (Nat.le_refl _) _)
    | (refine wpS_hskip hS1 (o := ⟨_, _, _, _, _, _⟩) rfl ?_ ?_; (focus rfl); simp only [Act.put, List.setIfInBounds_toArray, List.set_cons_zero, List.set_cons_succ]))
  refine abs (R := fun W => Exit.then _ _ _ _ W) (fun W => Below w.heap.size w W ∧ Blk W w.heap.size 23 [.string s, .int .i64 part, .int .i64 n] ∧ Blk W (w.heap.size + 1) 23 [.string ⟨#[]⟩, .int .i64 0, .int .i64 0])
    ⟨hw0.trans (hS1.mono hw0.size), hA.belowS hS1, hR.belowS hS1⟩ ?_
  rintro w2 ⟨hw2, hA2, hR2⟩
  have b0 := hR2.cell 0 rfl
  have b1 := hR2.cell 1 rfl
  have b2 := hR2.cell 2 rfl
  have f0 := hR2.frozen 0
  have f1 := hR2.frozen 1
  have f2 := hR2.frozen 2
  go_wp2
  refine bodyPost_ret (v := .tuple #[.agg #[.string ⟨#[]⟩, .int .i64 0, .int .i64 0], .int .i64 _]) (results_2 rfl (res_cell (t := 23) (cs := [.string ⟨#[]⟩, .int .i64 0, .int .i64 0]) rfl (((hR2.set 0 _).set 1 _).set 2 _) Try.underlying23 rfl (by kernel_rfl)) rfl) rfl ⟨?_, ((hw2.setCell (by simp) _).setCell (by simp) _).setCell (by simp) _⟩
  exact congrArg (fun x => Ending.returned (Value.tuple #[.agg #[.string ⟨#[]⟩, .int .i64 0, .int .i64 0], .int .i64 x])) hE.out

set_option maxHeartbeats 800000 in
theorem Put_hi (s : ByteArray) (part n k v : Int) (w : World) (hs : s.size ≤ 1048577) (hk : 32 < k) :
    Calls Try.prog 10 #[.agg #[.string s, .int .i64 part, .int .i64 n], .int .i64 k, .int .u64 v] w fun e w' => e = .returned (.tuple #[.agg #[.string ⟨#[]⟩, .int .i64 0, .int .i64 0], .int .i64 (putE s.size part n k v)]) ∧ Below w.heap.size w w' := by
  have hs' : s.size ≤ maxLen := by unfold maxLen; omega
  have hE : Hid (firstNZ [chk s.size part n, ifB true 2, ifB (decide (1048576 < wrap64 (↑s.size + wrap64 ((wrap64 (n + k)).tdiv 8)))) 4] = putE s.size part n k v) := by
    show _ = firstNZ [_, ifB (decide _) 2, _]
    rw [decide_eq_true (show k < 0 ∨ 32 < k ∨ v / 2 ^ k.toNat ≠ 0 from by omega)]; rfl
  have hE0 : (firstNZ [chk s.size part n, ifB true 2, ifB (decide (1048576 < wrap64 (↑s.size + wrap64 ((wrap64 (n + k)).tdiv 8)))) 4] != 0) = true := by
    simp only [firstNZ, ifB, if_true]; split <;> simp; omega
  have hk0 : ¬ k < 0 := by omega
  have hkc : decide (k < 0) = false := by simpa using hk0
  have hkd : decide (32 < k) = true := by simpa using hk
  go_enter Try.func10, Try.ntmps10
  go_wp2
  refine abs (R := fun W => Code.wp _ _ _ _ W) (fun W => Below w.heap.size w W ∧ Blk W w.heap.size 23 [.string s, .int .i64 part, .int .i64 n] ∧ Blk W (w.heap.size + 1) 23 [.string ⟨#[]⟩, .int .i64 0, .int .i64 0])
    ⟨by go_grown, (Blk.new _ _ _).alloc _, Blk.new' (by simp) _ _⟩ ?_
  rintro w0 ⟨hw0, hA, hR⟩
  have a0 := hA.cell 0 rfl
  have a1 := hA.cell 1 rfl
  have a2 := hA.cell 2 rfl
  have al := hA.lt
  refine wp_region_B
    [(0, true), (2, true), (3, true), (17, true), (18, true), (19, true), (20, true), (21, true), (22, true), (23, true), (24, true), (25, true), (26, true), (1, false), (4, true), (5, true), (6, true), (7, true), (8, true), (9, true), (10, true), (11, true), (12, true), (13, true), (14, true), (15, true), (16, false), (27, false), (28, false), (29, false), (30, true)]
    (by kernel_rfl) (by kernel_rfl) (fun c a d v w h => by cases d <;> exact h) (fun hS1 => ?_)
  repeat (first
    | (refine wpS_nil ?_)
    | (refine wpS_skip (o := ⟨_, _, _, _, _, _⟩) rfl ?_ ?_; (focus rfl); simp only [Act.put, List.setIfInBounds_toArray, List.set_cons_zero, List.set_cons_succ])
    | (refine wpS_lightB (o := ⟨_, _, _, _, _, _⟩) (v := ?_) rfl ?_ (fun w' hS' => ?_) ?_; rotate_left; (focus rfl); (focus (go_simp; try with_reducible rfl)); simp only [Act.put, List.setIfInBounds_toArray, List.set_cons_zero, List.set_cons_succ])
    | (refine wpS_heavyB hS1 (o := ⟨_, _, _, _, _, _⟩) rfl ?_ (fun K hK => ?_); (focus rfl)
       go_wp2_with (first
         | (go_at_call 12; refine (check_any s part n _ hs').mono ?_; rintro e w1 ⟨rfl, hb1⟩)
         | (go_at_call 36; refine (when_any _ _ _).mono ?_; rintro e w1 ⟨rfl, rfl⟩)
         | (go_at_call 35; refine (first3 _ _ _ _ _ _ (Blk.new' rfl _ _)).mono ?_; rintro e w1 ⟨rfl, rfl⟩))
       refine ⟨?_, fun hS1 => ?_⟩
       · first | exact Below.refl _ _ | exact hb1 | exact (Below.refl _ _).alloc (Nat.le_refl _) _)
    | (refine wpS_hskip hS1 (o := ⟨_, _, _, _, _, _⟩) rfl ?_ ?_; (focus rfl); simp only [Act.put, List.setIfInBounds_toArray, List.set_cons_zero, List.set_cons_succ]))
  refine abs (R := fun W => Exit.then _ _ _ _ W) (fun W => Below w.heap.size w W ∧ Blk W w.heap.size 23 [.string s, .int .i64 part, .int .i64 n] ∧ Blk W (w.heap.size + 1) 23 [.string ⟨#[]⟩, .int .i64 0, .int .i64 0])
    ⟨hw0.trans (hS1.mono hw0.size), hA.belowS hS1, hR.belowS hS1⟩ ?_
  rintro w2 ⟨hw2, hA2, hR2⟩
  have b0 := hR2.cell 0 rfl
  have b1 := hR2.cell 1 rfl
  have b2 := hR2.cell 2 rfl
  have f0 := hR2.frozen 0
  have f1 := hR2.frozen 1
  have f2 := hR2.frozen 2
  go_wp2
  refine bodyPost_ret (v := .tuple #[.agg #[.string ⟨#[]⟩, .int .i64 0, .int .i64 0], .int .i64 _]) (results_2 rfl (res_cell (t := 23) (cs := [.string ⟨#[]⟩, .int .i64 0, .int .i64 0]) rfl (((hR2.set 0 _).set 1 _).set 2 _) Try.underlying23 rfl (by kernel_rfl)) rfl) rfl ⟨?_, ((hw2.setCell (by simp) _).setCell (by simp) _).setCell (by simp) _⟩
  exact congrArg (fun x => Ending.returned (Value.tuple #[.agg #[.string ⟨#[]⟩, .int .i64 0, .int .i64 0], .int .i64 x])) hE.out

end Go.Proofs.Ytlmoenjggggpkaa
