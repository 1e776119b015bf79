/-
  A part of the proof of a statement of a chapter's seat; conditions: stated at each theorem.
-/
import Derived.Test.YtlmoenjggggpkaaRows
import Derived.Handy
import Derived.PlainAid
import Derived.WalkSpells
import Derived.WalkLawsBesides
import Derived.BigGuardPart
import Derived.Lib.Hide
import Derived.Deep.RegionHeld3
import Derived.BigQuiet
import Derived.Deep.DeepFit
import Derived.Deep.LoopGhost
import Derived.Deep.Light
import Derived.Test.YtlmoenjggggpkaaMem
import Derived.Test.YtlmoenjggggpkaaReg
import Derived.Shelf.Small.Bits
set_option linter.unusedVariables false
set_option linter.unusedSectionVars false
namespace Go.Proofs.Ytlmoenjggggpkaa
open Go.RowKit

def firstNZ : List Int → Int
  | [] => 0
  | x :: l => if x = 0 then firstNZ l else x

theorem firstNZ_all0 (l : List Int) (h : ∀ x ∈ l, x = 0) : firstNZ l = 0 := by
  induction l with
  | nil => rfl
  | cons x l ih => rw [firstNZ, if_pos (h x (by simp))]; exact ih fun y hy => h y (by simp [hy])

theorem firstNZ_none (l : List Int) (k : Nat) (hk : l.length ≤ k) (h0 : ∀ j, j < k → l.getD j 0 = 0) : firstNZ l = 0 := by
  refine firstNZ_all0 l fun x hx => ?_
  obtain ⟨j, hj, rfl⟩ := List.mem_iff_getElem.1 hx
  have := h0 j (by omega)
  simpa [List.getD, List.getElem?_eq_getElem hj] using this

theorem firstNZ_at (l : List Int) (k : Nat) (h0 : ∀ j, j < k → l.getD j 0 = 0) (hk : l.getD k 0 ≠ 0) : firstNZ l = l.getD k 0 := by
  induction l generalizing k with
  | nil => simp at hk
  | cons x l ih =>
    cases k with
    | zero => simp at hk ⊢; rw [firstNZ, if_neg hk]
    | succ k =>
      have := h0 0 (by omega)
      simp at this
      rw [firstNZ, if_pos this, ih k (fun j hj => by have := h0 (j + 1) (by omega); simpa using this) (by simpa using hk)]
      simp

theorem first_any (g n c : Nat) (xs : List Int) (w : World) (hn : n = xs.length) (hm : n ≤ 100) (hc : ∀ j, j < n → w.cell? ⟨g, j, none⟩ = some (.int .i64 (xs.getD j 0))) :
    Calls Try.prog 35 #[.slice (some ⟨g, 0, none⟩) n c] w fun e w' => e = .returned (.int .i64 (firstNZ xs)) ∧ w = w' := by
  have Hc := Lib.hid hc
  have Hn := Lib.hid hn
  clear hc hn
  go_enter Try.func35, Try.ntmps35
  go_wp2
  go_step3
  go_wp2
  go_step3
  go_wp2
  go_loop [3, 8] (fun f i => ∃ k : Nat, k ≤ n ∧ i = .int .i64 k ∧ f = .int .i64 0 ∧ Hid (∀ j, j < k → xs.getD j 0 = 0)) (fun _ i => n - (intOf i).toNat)
  case atStart => exact ⟨0, by omega, rfl, rfl, fun j hj => by omega⟩
  case round =>
    obtain ⟨k, hk, rfl, rfl, H0⟩ := hrel
    by_cases hlt : k < n
    · obtain ⟨x, hx⟩ : ∃ x, x = xs.getD k 0 := ⟨_, rfl⟩
      have hcx : w.cell? ⟨g, k, none⟩ = some (.int .i64 x) := by rw [hx]; exact Hc.out k hlt
      have Hx := Lib.hid hx
      clear hx
      go_wp2
      · have h : (x != 0) = true := by assumption
        go_ret
        refine ⟨?_, rfl⟩
        have hx : x ≠ 0 := by simpa using h
        rw [firstNZ_at xs k H0.out (by rw [← Hx.out]; exact hx), ← Hx.out]; rfl
      · have h : (x != 0) = false := by assumption
        have hx : x = 0 := by simpa using h
        go_round
        case rel => exact ⟨k + 1, by omega, by go_num, rfl, fun j hj => by
          by_cases e : j = k
          · rw [e, ← Hx.out]; exact hx
          · exact H0.out j (by omega)⟩
        case measure => simp [intOf]; omega
    · go_wp2
      go_ret
      refine ⟨?_, rfl⟩
      rw [firstNZ_none xs k (by rw [← Hn.out]; omega) H0.out]; rfl

theorem opened_any (s : ByteArray) (part n : Int) (w : World) (h0 : 0 ≤ part) (h1 : part < 256) :
    Calls Try.prog 37 #[.agg #[.string s, .int .i64 part, .int .i64 n]] w fun e w' => e = .returned (.pointer (some ⟨w.heap.size + 1, 0, none⟩)) ∧
      w' = (w.alloc (.cells #[.string s, .int .i64 part, .int .i64 n] 23)).alloc (.cells #[.string s, .int .u64 part, .int .i64 n] 67) := by
  go_enter Try.func37, Try.ntmps37
  go_wp2
  go_ret
  exact ⟨rfl, rfl⟩
end Go.Proofs.Ytlmoenjggggpkaa
namespace Go.Proofs.Ytlmoenjggggpkaa
open Go.RowKit Go.Chz

def emit (T j : Nat) : List UInt8 := (List.range j).map fun i => UInt8.ofNat (T / 256 ^ i)
theorem emit_succ (T j : Nat) : emit T (j + 1) = emit T j ++ [UInt8.ofNat (T / 256 ^ j)] := by simp [emit, List.range_succ]
theorem emit_length (T j : Nat) : (emit T j).length = j := by simp [emit]

theorem s_len (s : ByteArray) : s.data.toList.length = s.size := by simp

theorem info5 : (Try.prog.info? 5).map (fun i => (i.zero, i.size, i.bytes)) = some (some (.int .u8 0), 1, 1) := by kernel_rfl

theorem u8_ofNat (x : Nat) : IntKind.u8.wrap (x : Int) = ((UInt8.ofNat x).toNat : Int) := by
  rw [IntKind.wrap_u8]; simp

set_option maxHeartbeats 400000 in
theorem put_any (s : ByteArray) (part n k v : Int) (T : Nat) (B g c : Nat) (w : World) (hs : s.size ≤ 1048577) (hp0 : 0 ≤ part) (hp1 : part < 256) (hn0 : 0 ≤ n) (hn1 : n ≤ 7) (hk0 : 0 ≤ k) (hk1 : k ≤ 32)
    (hT : bits BinOp.or IntKind.u64 part (IntKind.u64.wrap (v * 2 ^ n.toNat)) = (T : Int))
    (hb : Blk w B 67 [.string s, .int .u64 part, .int .i64 n]) (hg : Blk w g 63 [.int .u64 k, .int .u64 v]) :
    Calls Try.prog 38 #[.pointer (some ⟨B, 0, none⟩), .slice (some ⟨g, 0, none⟩) 1 c] w fun e w' => e = .returned (.tuple #[]) ∧ w.grownBy w' (some B) ∧
      Blk w' B 67 [.string ⟨(s.data.toList ++ emit T ((n + k).toNat / 8)).toArray⟩, .int .u64 ((T / 256 ^ ((n + k).toNat / 8) : Nat) : Int), .int .i64 ((n + k) % 8)] := by
  obtain ⟨i0, hi, hz0, hz1, hz2⟩ := info_parts info5
  have h0 := hb.cell 0 rfl
  have h1 := hb.cell 1 rfl
  have h2 := hb.cell 2 rfl
  have f0 := hb.frozen 0
  have f1 := hb.frozen 1
  have f2 := hb.frozen 2
  have c0 := hg.cell 0 rfl
  have c1 := hg.cell 1 rfl
  have hB := hb.lt
  go_enter Try.func38, Try.ntmps38
  go_wp2
  refine wp_loop_rounds 2 ?_
  rw [rounds_succ]
  go_wp2
  go_region
  go_wp2
  go_region
  go_wp2
  rw [rounds_succ]
  go_wp2_with ((with_reducible refine wpList_bytes_O (o := ⟨some 44, _, _, _, _, _⟩) rfl 9 42 (.tmp 43) rfl 5 s rfl Try.underlying9 Try.underlying42 Try.underlying5 (by unfold maxLen; omega) w.heap.size (by simp) ?_); intro c2 w2 hown hgr)
  have hb1 := ((hb.set 1 (.int .u64 (T : Int))).set 2 (.int .i64 (n + k))).alloc (.cells #[.int .u64 k, .int .u64 v] 63)
  have hb2 := hb1.drew.drew.only hgr (by simp)
  have hg2 := only_trans (only_drew (only_drew (only_alloc (only_setCell (only_setCell (only_refl w (some B)) (p := ⟨B, 1, none⟩) (.inl rfl) (.int .u64 (T : Int))) (p := ⟨B, 2, none⟩) (.inl rfl) (.int .i64 (n + k))) (.cells #[.int .u64 k, .int .u64 v] 63)))) hgr (fun _ h => by cases h)
  clear hgr h0 h1 h2 f0 f1 f2 c0 c1
  have hsz : (((w.setCell ⟨B, 1, none⟩ (.int .u64 (T : Int))).setCell ⟨B, 2, none⟩ (.int .i64 (n + k))).alloc (.cells #[.int .u64 k, .int .u64 v] 63)).drew.drew.heap.size = w.heap.size + 1 := by simp
  rw [hsz] at hown
  clear hsz hb1
  go_loopg [6] 5 (fun q out wr => ∃ (j : Nat) (A : Option Addr) (cc : Nat), q + j = 5 ∧ out = .slice A (s.size + j) cc ∧ 8 * (j : Int) ≤ n + k ∧ Hid (Own wr w.heap.size 5 1 A (s.size + j) cc (bcells (s.data.toList ++ emit T j))) ∧
     Hid (Blk wr B 67 [.string s, .int .u64 ((T / 256 ^ j : Nat) : Int), .int .i64 (n + k - 8 * j)]) ∧ Hid (w.grownBy wr (some B)))
  case atStart => 
    refine ⟨0, _, _, rfl, rfl, by omega, ?_, ?_, hg2⟩
    · simpa [emit, Hid] using hown
    · simpa [Hid] using hb2
  case round =>
    obtain ⟨j, A, cc, hq, rfl, hj, Hown, Hb, Hg⟩ := hrel
    clear hb2 hg2 hown
    have h0 := Hb.out.cell 0 rfl
    have h1 := Hb.out.cell 1 rfl
    have h2 := Hb.out.cell 2 rfl
    have f0 := Hb.out.frozen 0
    have f1 := Hb.out.frozen 1
    have f2 := Hb.out.frozen 2
    have hBr := Hb.out.lt
    by_cases h8 : 8 ≤ n + k - 8 * (j : Int)
    · go_wp2_with (at_builtin; refine wpList_append_O _ rfl (.tmp 57) (.tmp 63) 42 rfl w.heap.size 5 i0 (.int .u8 0) 1 1 Try.underlying42 hi hz0 hz1 hz2 rfl A (s.size + j) cc _ rfl (Hown.out.alloc _) _ 1 1 [.int .u8 (IntKind.u8.wrap ((T / 256 ^ j : Nat) : Int))] rfl rfl (new1 _ _ _) (by intro u hu; simp at hu; subst hu; rfl) (by unfold maxLen; omega) (by omega) (by have := Hg.out.size; simp; omega) ?_; intro A' c' w' hown' hgr' hat; have hbw := (Hb.out.alloc (.cells #[.int .u8 (IntKind.u8.wrap ((T / 256 ^ j : Nat) : Int))] 5)).only hgr' (Hb.out.ne_own Hown.out (by decide)); have k0 := hbw.cell 0 rfl; have k1 := hbw.cell 1 rfl; have k2 := hbw.cell 2 rfl; have l0 := hbw.frozen 0; have l1 := hbw.frozen 1; have l2 := hbw.frozen 2; have HB := Lib.hid hbw; have HO := Lib.hid hown'; have HG := Lib.hid (only_trans (only_alloc Hg.out _) hgr' (fun g' h => .inr (Hown.out.lt g' h).1)); clear hbw hown' hgr' hat)
      go_roundg (gk - 1)
      case measure => omega
      case rel =>
        go_light
        have hne : blk A' ≠ some B := (HB.out.ne_own HO.out (by decide)).symm
        have e1 : (T : Int) / 256 ^ j / 256 = ((T / 256 ^ (j + 1) : Nat) : Int) := by
          rw [Nat.pow_succ, ← Nat.div_div_eq_div_mul]; simp
        have e2 : n + k - 8 * (j : Int) - 8 = n + k - 8 * ((j + 1 : Nat) : Int) := by omega
        rw [e1, e2]
        refine ⟨j + 1, A', c', by omega, rfl, by omega, ?_, ?_, ?_⟩
        · have h1 := (HO.out.set_far (p := ⟨B, 1, none⟩) hne (.int .u64 ((T / 256 ^ (j + 1) : Nat) : Int))).set_far (p := ⟨B, 2, none⟩) hne (.int .i64 (n + k - 8 * ((j + 1 : Nat) : Int)))
          have e3 : bcells (s.data.toList ++ emit T j) ++ [Value.int IntKind.u8 (IntKind.u8.wrap ((T / 256 ^ j : Nat) : Int))] = bcells (s.data.toList ++ emit T (j + 1)) := by
            rw [emit_succ, ← List.append_assoc, bcells_append (s.data.toList ++ emit T j), u8_ofNat]; rfl
          rw [e3] at h1
          exact h1
        · exact (HB.out.set 1 (.int .u64 ((T / 256 ^ (j + 1) : Nat) : Int))).set 2 (.int .i64 (n + k - 8 * ((j + 1 : Nat) : Int)))
        · exact only_setCell (only_setCell HG.out (p := ⟨B, 1, none⟩) (.inl rfl) _) (p := ⟨B, 2, none⟩) (.inl rfl) _
    · have hc := Lib.hid (Hown.out.cellsAt)
      go_wp2_with (with_reducible refine wpList_string_O (o := ⟨some 74, _, _, _, _, _⟩) rfl 42 9 (.tmp 73) rfl 5 A (s.size + j) cc (s.data.toList ++ emit T j) rfl Try.underlying42 Try.underlying5 Try.underlying9 (by simp [emit_length]) hc.out ?_)
      go_end0
      have e1 : (n + k).toNat / 8 = j := by omega
      have e2 : (n + k) % 8 = n + k - 8 * (j : Int) := by omega
      rw [e1, e2]
      exact ⟨rfl, only_setCell Hg.out (p := ⟨B, 0, none⟩) (.inl rfl) _, Hb.out.set 0 _⟩
end Go.Proofs.Ytlmoenjggggpkaa
namespace Go.Proofs.Ytlmoenjggggpkaa
open Go.RowKit Go.Chz
set_option linter.unusedVariables false

def ifB (b : Bool) (k : Int) : Int := if b then k else 0
theorem when_any (b : Bool) (k : Int) (w : World) :
    Calls Try.prog 36 #[.bool b, .int .i64 k] w fun e w' => e = .returned (.int .i64 (ifB b k)) ∧ w = w' := by
  cases b <;> (go_enter Try.func36, Try.ntmps36; go_wp2; go_ret; exact ⟨rfl, rfl⟩)

def chk (len : Nat) (part n : Int) : Int := if n < 0 ∨ 7 < n ∨ part < 0 ∨ 2 ^ n.toNat ≤ part ∨ 1048576 < len then 10 else 0

theorem and7 (n : Int) (h0 : 0 ≤ n) (h1 : n ≤ 7) : bits BinOp.and IntKind.i64 n 7 = n := by
  obtain ⟨m, rfl⟩ := Int.eq_ofNat_of_zero_le h0
  have : m = 0 ∨ m = 1 ∨ m = 2 ∨ m = 3 ∨ m = 4 ∨ m = 5 ∨ m = 6 ∨ m = 7 := by omega
  rcases this with rfl | rfl | rfl | rfl | rfl | rfl | rfl | rfl <;> decide +kernel

theorem pow7 (n : Int) (h0 : 0 ≤ n) (h1 : n ≤ 7) : wrap64 (2 ^ min (IntKind.u64.wrap n).toNat 64) = 2 ^ n.toNat := by
  obtain ⟨m, rfl⟩ := Int.eq_ofNat_of_zero_le h0
  have : m = 0 ∨ m = 1 ∨ m = 2 ∨ m = 3 ∨ m = 4 ∨ m = 5 ∨ m = 6 ∨ m = 7 := by omega
  rcases this with rfl | rfl | rfl | rfl | rfl | rfl | rfl | rfl <;> decide +kernel

theorem pow7' (n : Int) (h0 : 0 ≤ n) (h1 : n ≤ 7) : wrap64 (2 ^ min (IntKind.u64.wrap (bits BinOp.and IntKind.i64 n 7)).toNat 64) = 2 ^ n.toNat := by
  rw [and7 n h0 h1, pow7 n h0 h1]

theorem check_any (s : ByteArray) (part n : Int) (w : World) (hs : s.size ≤ maxLen) :
    Calls Try.prog 12 #[.agg #[.string s, .int .i64 part, .int .i64 n]] w fun e w' => e = .returned (.int .i64 (chk s.size part n)) ∧ Below w.heap.size w w' := by
  unfold maxLen at hs
  go_enter Try.func12, Try.ntmps12
  go_wp2_with (go_at_call 36; refine (when_any _ _ _).mono ?_; rintro e w' ⟨rfl, rfl⟩)
  all_goals go_ret
  all_goals refine ⟨?_, by go_grown⟩
  all_goals go_light
  all_goals try have e7 := pow7' n (by omega) (by omega)
  all_goals (unfold chk; split <;> first | rfl | (simp only [ifB]; simp; done) | (simp [ifB]; omega) | (exfalso; omega) | (simp; omega) | skip)

theorem rcheck_any (s : ByteArray) (part n : Int) (w : World) (hs : s.size ≤ maxLen) :
    Calls Try.prog 13 #[.agg #[.string s, .int .i64 part, .int .i64 n]] w fun e w' => e = .returned (.int .i64 (chk s.size part n)) ∧ Below w.heap.size w w' := by
  unfold maxLen at hs
  go_enter Try.func13, Try.ntmps13
  go_wp2
  all_goals go_ret
  all_goals refine ⟨?_, by go_grown⟩
  all_goals go_light
  all_goals try have e7 := pow7' n (by omega) (by omega)
  all_goals (unfold chk; split <;> first | rfl | (exfalso; omega) | (simp; omega) | skip)
end Go.Proofs.Ytlmoenjggggpkaa
namespace Go.Proofs.Ytlmoenjggggpkaa
open Go.RowKit Go.Chz
set_option linter.unusedVariables false

theorem first3 (a b c : Int) (g cap : Nat) (w : World) (hb : Blk w g 26 [.int .i64 a, .int .i64 b, .int .i64 c]) :
    Calls Try.prog 35 #[.slice (some ⟨g, 0, none⟩) 3 cap] w fun e w' => e = .returned (.int .i64 (firstNZ [a, b, c])) ∧ w = w' :=
  first_any g 3 cap [a, b, c] w rfl (by omega) fun j hj => by
    match j, hj with
    | 0, _ => exact hb.cell 0 rfl
    | 1, _ => exact hb.cell 1 rfl
    | 2, _ => exact hb.cell 2 rfl
theorem first2 (a b : Int) (g cap : Nat) (w : World) (hb : Blk w g 26 [.int .i64 a, .int .i64 b]) :
    Calls Try.prog 35 #[.slice (some ⟨g, 0, none⟩) 2 cap] w fun e w' => e = .returned (.int .i64 (firstNZ [a, b])) ∧ w = w' :=
  first_any g 2 cap [a, b] w rfl (by omega) fun j hj => by
    match j, hj with
    | 0, _ => exact hb.cell 0 rfl
    | 1, _ => exact hb.cell 1 rfl

def rngB (k v : Int) : Bool := decide (k < 0 ∨ 32 < k ∨ v / 2 ^ k.toNat ≠ 0)
def lngB (len : Nat) (n k : Int) : Bool := decide (1048576 < wrap64 ((len : Int) + wrap64 ((wrap64 (n + k)).tdiv 8)))
def putE (len : Nat) (part n k v : Int) : Int := firstNZ [chk len part n, ifB (rngB k v) 2, ifB (lngB len n k) 4]

set_option maxHeartbeats 800000 in
theorem Put_lo (s : ByteArray) (part n k v : Int) (w : World) (hs : s.size ≤ 1048577) (hk : k < 0) :
    Calls Try.prog 10 #[.agg #[.string s, .int .i64 part, .int .i64 n], .int .i64 k, .int .u64 v] w fun e w' => e = .returned (.tuple #[.agg #[.string ⟨#[]⟩, .int .i64 0, .int .i64 0], .int .i64 (putE s.size part n k v)]) ∧ Below w.heap.size w w' := by
  have hs' : s.size ≤ maxLen := by unfold maxLen; omega
  have hE : Hid (firstNZ [chk s.size part n, ifB true 2, ifB (decide (1048576 < wrap64 (↑s.size + wrap64 ((wrap64 (n + k)).tdiv 8)))) 4] = putE s.size part n k v) := by
    show _ = firstNZ [_, ifB (decide _) 2, _]
    rw [decide_eq_true (show k < 0 ∨ 32 < k ∨ v / 2 ^ k.toNat ≠ 0 from by omega)]; rfl
  have hE0 : (firstNZ [chk s.size part n, ifB true 2, ifB (decide (1048576 < wrap64 (↑s.size + wrap64 ((wrap64 (n + k)).tdiv 8)))) 4] != 0) = true := by
    simp only [firstNZ, ifB, if_true]; split <;> simp; omega
  have hkd : decide (k < 0) = true := by simpa using hk
  go_enter Try.func10, Try.ntmps10
  go_wp2
  refine abs (R := fun W => Code.wp _ _ _ _ W) (fun W => Below w.heap.size w W ∧ Blk W w.heap.size 23 [.string s, .int .i64 part, .int .i64 n] ∧ Blk W (w.heap.size + 1) 23 [.string ⟨#[]⟩, .int .i64 0, .int .i64 0])
    ⟨by go_grown, (Blk.new _ _ _).alloc _, Blk.new' (by simp) _ _⟩ ?_
  rintro w0 ⟨hw0, hA, hR⟩
  have a0 := hA.cell 0 rfl
  have a1 := hA.cell 1 rfl
  have a2 := hA.cell 2 rfl
  have al := hA.lt
  refine wp_region_B
    [(0, true), (2, true), (3, true), (17, true), (18, true), (19, true), (20, true), (21, true), (22, true), (23, true), (24, true), (25, true), (26, true), (1, false), (4, true), (5, true), (6, true), (7, true), (8, true), (9, true), (10, true), (11, true), (12, true), (13, true), (14, true), (15, true), (16, false), (27, false), (28, false), (29, false), (30, true)]
    (by kernel_rfl) (by kernel_rfl) (fun c a d v w h => by cases d <;> exact h) (fun hS1 => ?_)
  repeat (first
    | (refine wpS_nil ?_)
    | (refine wpS_skip (o := ⟨_, _, _, _, _, _⟩) rfl ?_ ?_; (focus rfl); simp only [Act.put, List.setIfInBounds_toArray, List.set_cons_zero, List.set_cons_succ])
    | (refine wpS_lightB (o := ⟨_, _, _, _, _, _⟩) (v := ?_) rfl ?_ (fun w' hS' => ?_) ?_; rotate_left; (focus rfl); (focus (go_simp; try with_reducible rfl)); simp only [Act.put, List.setIfInBounds_toArray, List.set_cons_zero, List.set_cons_succ])
    | (refine wpS_heavyB hS1 (o := ⟨_, _, _, _, _, _⟩) rfl ?_ (fun K hK => ?_); (focus rfl)
       go_wp2_with (first
         | (go_at_call 12; refine (check_any s part n _ hs').mono ?_; rintro e w1 ⟨rfl, hb1⟩)
         | (go_at_call 36; refine (when_any _ _ _).mono ?_; rintro e w1 ⟨rfl, rfl⟩)
         | (go_at_call 35; refine (first3 _ _ _ _ _ _ (Blk.new' rfl _ _)).mono ?_; rintro e w1 ⟨rfl, rfl⟩))
       refine ⟨?_, fun hS1 => ?_⟩
       · first | exact Below.refl _ _ | exact hb1 | exact (Below.refl _ _).alloc (Nat.le_refl _) _)
    | (refine wpS_hskip hS1 (o := ⟨_, _, _, _, _, _⟩) rfl ?_ ?_; (focus rfl); simp only [Act.put, List.setIfInBounds_toArray, List.set_cons_zero, List.set_cons_succ]))
  refine abs (R := fun W => Exit.then _ _ _ _ W) (fun W => Below w.heap.size w W ∧ Blk W w.heap.size 23 [.string s, .int .i64 part, .int .i64 n] ∧ Blk W (w.heap.size + 1) 23 [.string ⟨#[]⟩, .int .i64 0, .int .i64 0])
    ⟨hw0.trans (hS1.mono hw0.size), hA.belowS hS1, hR.belowS hS1⟩ ?_
  rintro w2 ⟨hw2, hA2, hR2⟩
  have b0 := hR2.cell 0 rfl
  have b1 := hR2.cell 1 rfl
  have b2 := hR2.cell 2 rfl
  have f0 := hR2.frozen 0
  have f1 := hR2.frozen 1
  have f2 := hR2.frozen 2
  go_wp2
  refine bodyPost_ret (v := .tuple #[.agg #[.string ⟨#[]⟩, .int .i64 0, .int .i64 0], .int .i64 _]) (results_2 rfl (res_cell (t := 23) (cs := [.string ⟨#[]⟩, .int .i64 0, .int .i64 0]) rfl (((hR2.set 0 _).set 1 _).set 2 _) Try.underlying23 rfl (by kernel_rfl)) rfl) rfl ⟨?_, ((hw2.setCell (by simp) _).setCell (by simp) _).setCell (by simp) _⟩
  exact congrArg (fun x => Ending.returned (Value.tuple #[.agg #[.string ⟨#[]⟩, .int .i64 0, .int .i64 0], .int .i64 x])) hE.out

set_option maxHeartbeats 800000 in
theorem Put_hi (s : ByteArray) (part n k v : Int) (w : World) (hs : s.size ≤ 1048577) (hk : 32 < k) :
    Calls Try.prog 10 #[.agg #[.string s, .int .i64 part, .int .i64 n], .int .i64 k, .int .u64 v] w fun e w' => e = .returned (.tuple #[.agg #[.string ⟨#[]⟩, .int .i64 0, .int .i64 0], .int .i64 (putE s.size part n k v)]) ∧ Below w.heap.size w w' := by
  have hs' : s.size ≤ maxLen := by unfold maxLen; omega
  have hE : Hid (firstNZ [chk s.size part n, ifB true 2, ifB (decide (1048576 < wrap64 (↑s.size + wrap64 ((wrap64 (n + k)).tdiv 8)))) 4] = putE s.size part n k v) := by
    show _ = firstNZ [_, ifB (decide _) 2, _]
    rw [decide_eq_true (show k < 0 ∨ 32 < k ∨ v / 2 ^ k.toNat ≠ 0 from by omega)]; rfl
  have hE0 : (firstNZ [chk s.size part n, ifB true 2, ifB (decide (1048576 < wrap64 (↑s.size + wrap64 ((wrap64 (n + k)).tdiv 8)))) 4] != 0) = true := by
    simp only [firstNZ, ifB, if_true]; split <;> simp; omega
  have hk0 : ¬ k < 0 := by omega
  have hkc : decide (k < 0) = false := by simpa using hk0
  have hkd : decide (32 < k) = true := by simpa using hk
  go_enter Try.func10, Try.ntmps10
  go_wp2
  refine abs (R := fun W => Code.wp _ _ _ _ W) (fun W => Below w.heap.size w W ∧ Blk W w.heap.size 23 [.string s, .int .i64 part, .int .i64 n] ∧ Blk W (w.heap.size + 1) 23 [.string ⟨#[]⟩, .int .i64 0, .int .i64 0])
    ⟨by go_grown, (Blk.new _ _ _).alloc _, Blk.new' (by simp) _ _⟩ ?_
  rintro w0 ⟨hw0, hA, hR⟩
  have a0 := hA.cell 0 rfl
  have a1 := hA.cell 1 rfl
  have a2 := hA.cell 2 rfl
  have al := hA.lt
  refine wp_region_B
    [(0, true), (2, true), (3, true), (17, true), (18, true), (19, true), (20, true), (21, true), (22, true), (23, true), (24, true), (25, true), (26, true), (1, false), (4, true), (5, true), (6, true), (7, true), (8, true), (9, true), (10, true), (11, true), (12, true), (13, true), (14, true), (15, true), (16, false), (27, false), (28, false), (29, false), (30, true)]
    (by kernel_rfl) (by kernel_rfl) (fun c a d v w h => by cases d <;> exact h) (fun hS1 => ?_)
  repeat (first
    | (refine wpS_nil ?_)
    | (refine wpS_skip (o := ⟨_, _, _, _, _, _⟩) rfl ?_ ?_; (focus rfl); simp only [Act.put, List.setIfInBounds_toArray, List.set_cons_zero, List.set_cons_succ])
    | (refine wpS_lightB (o := ⟨_, _, _, _, _, _⟩) (v := ?_) rfl ?_ (fun w' hS' => ?_) ?_; rotate_left; (focus rfl); (focus (go_simp; try with_reducible rfl)); simp only [Act.put, List.setIfInBounds_toArray, List.set_cons_zero, List.set_cons_succ])
    | (refine wpS_heavyB hS1 (o := ⟨_, _, _, _, _, _⟩) rfl ?_ (fun K hK => ?_); (focus rfl)
       go_wp2_with (first
         | (go_at_call 12; refine (check_any s part n _ hs').mono ?_; rintro e w1 ⟨rfl, hb1⟩)
         | (go_at_call 36; refine (when_any _ _ _).mono ?_; rintro e w1 ⟨rfl, rfl⟩)
         | (go_at_call 35; refine (first3 _ _ _ _ _ _ (Blk.new' rfl _ _)).mono ?_; rintro e w1 ⟨rfl, rfl⟩))
       refine ⟨?_, fun hS1 => ?_⟩
       · first | exact Below.refl _ _ | exact hb1 | exact (Below.refl _ _).alloc (Nat.le_refl _) _)
    | (refine wpS_hskip hS1 (o := ⟨_, _, _, _, _, _⟩) rfl ?_ ?_; (focus rfl); simp only [Act.put, List.setIfInBounds_toArray, List.set_cons_zero, List.set_cons_succ]))
  refine abs (R := fun W => Exit.then _ _ _ _ W) (fun W => Below w.heap.size w W ∧ Blk W w.heap.size 23 [.string s, .int .i64 part, .int .i64 n] ∧ Blk W (w.heap.size + 1) 23 [.string ⟨#[]⟩, .int .i64 0, .int .i64 0])
    ⟨hw0.trans (hS1.mono hw0.size), hA.belowS hS1, hR.belowS hS1⟩ ?_
  rintro w2 ⟨hw2, hA2, hR2⟩
  have b0 := hR2.cell 0 rfl
  have b1 := hR2.cell 1 rfl
  have b2 := hR2.cell 2 rfl
  have f0 := hR2.frozen 0
  have f1 := hR2.frozen 1
  have f2 := hR2.frozen 2
  go_wp2
  refine bodyPost_ret (v := .tuple #[.agg #[.string ⟨#[]⟩, .int .i64 0, .int .i64 0], .int .i64 _]) (results_2 rfl (res_cell (t := 23) (cs := [.string ⟨#[]⟩, .int .i64 0, .int .i64 0]) rfl (((hR2.set 0 _).set 1 _).set 2 _) Try.underlying23 rfl (by kernel_rfl)) rfl) rfl ⟨?_, ((hw2.setCell (by simp) _).setCell (by simp) _).setCell (by simp) _⟩
  exact congrArg (fun x => Ending.returned (Value.tuple #[.agg #[.string ⟨#[]⟩, .int .i64 0, .int .i64 0], .int .i64 x])) hE.out

end Go.Proofs.Ytlmoenjggggpkaa
namespace Go.Proofs.Ytlmoenjggggpkaa
open Go.RowKit Go.Chz
set_option linter.unusedVariables false

theorem and63 (n : Int) (h0 : 0 ≤ n) (h1 : n ≤ 32) : bits BinOp.and IntKind.i64 n 63 = n := by
  obtain ⟨m, rfl⟩ := Int.eq_ofNat_of_zero_le h0
  have h : ∀ m : Nat, m < 33 → bits BinOp.and IntKind.i64 (m : Int) 63 = m := by decide +kernel
  exact h m (by omega)

theorem putE_mid (len : Nat) (part n k v : Int) (h0 : 0 ≤ k) (h1 : k ≤ 32) : firstNZ [chk len part n, ifB (v / 2 ^ min k.toNat 64 != 0) 2, ifB (decide (1048576 < wrap64 ((len : Int) + wrap64 ((wrap64 (n + k)).tdiv 8)))) 4] = putE len part n k v := by
  have e : min k.toNat 64 = k.toNat := by omega
  have e2 : (v / 2 ^ k.toNat != 0) = decide (k < 0 ∨ 32 < k ∨ v / 2 ^ k.toNat ≠ 0) := by
    rw [Bool.eq_iff_iff]; simp; omega
  rw [e, e2]; rfl

theorem firstNZ3 {a b c : Int} (h : firstNZ [a, b, c] = 0) : a = 0 ∧ b = 0 ∧ c = 0 := by
  simp only [firstNZ] at h
  by_cases ha : a = 0
  · by_cases hb : b = 0
    · by_cases hc : c = 0
      · exact ⟨ha, hb, hc⟩
      · simp [ha, hb, hc] at h
    · simp [ha, hb] at h
  · simp [ha] at h

theorem putE_zero {len : Nat} {part n k v : Int} (hl : len ≤ 1048577) (hv : 0 ≤ v) (h : putE len part n k v = 0) :
    0 ≤ k ∧ k ≤ 32 ∧ v < 2 ^ k.toNat ∧ 0 ≤ n ∧ n ≤ 7 ∧ 0 ≤ part ∧ part < 2 ^ n.toNat ∧ len ≤ 1048576 ∧ len + (n + k).toNat / 8 ≤ 1048576 := by
  obtain ⟨a, b, c⟩ := firstNZ3 h
  have hn : ¬ (n < 0 ∨ 7 < n ∨ part < 0 ∨ 2 ^ n.toNat ≤ part ∨ 1048576 < len) := by
    unfold chk at a; split at a
    · cases a
    · assumption
  have hk : ¬ (k < 0 ∨ 32 < k ∨ v / 2 ^ k.toNat ≠ 0) := by
    unfold ifB rngB at b; split at b
    · cases b
    · rename_i hh; simpa using hh
  have hlg : ¬ (1048576 < wrap64 ((len : Int) + wrap64 ((wrap64 (n + k)).tdiv 8))) := by
    unfold ifB lngB at c; split at c
    · cases c
    · rename_i hh; simpa using hh
  simp only [not_or, Int.not_lt, Int.not_le, Decidable.not_not] at hn hk
  have e1 : wrap64 (n + k) = n + k := IntWalk.wrap64_in _ ⟨by omega, by omega⟩
  have e2 : (n + k).tdiv 8 = (n + k) / 8 := Int.tdiv_eq_ediv_of_nonneg (by omega)
  rw [e1, e2, IntWalk.wrap64_in ((n + k) / 8) ⟨by omega, by omega⟩, IntWalk.wrap64_in _ ⟨by omega, by omega⟩] at hlg
  have hvlt : v < 2 ^ k.toNat := by
    have hp : (0 : Int) < 2 ^ k.toNat := Int.pow_pos (by omega)
    have := Int.lt_mul_of_ediv_lt hp (show v / 2 ^ k.toNat < 1 by omega)
    omega
  omega

theorem pow_le_of {n m : Nat} (h : n ≤ m) : (2 : Nat) ^ n ≤ 2 ^ m := Nat.pow_le_pow_right (by omega) h

theorem orT_lt (part v n k : Int) (h0 : 0 ≤ part) (h1 : part < 2 ^ n.toNat) (hn : 0 ≤ n) (hn7 : n ≤ 7) (hk : 0 ≤ k) (hk1 : k ≤ 32) (hv : 0 ≤ v) (hv1 : v < 2 ^ k.toNat) : part.toNat + v.toNat * 2 ^ n.toNat < 1099511627776 := by
  obtain ⟨p, rfl⟩ := Int.eq_ofNat_of_zero_le h0
  obtain ⟨V, rfl⟩ := Int.eq_ofNat_of_zero_le hv
  obtain ⟨N, rfl⟩ := Int.eq_ofNat_of_zero_le hn
  obtain ⟨K, rfl⟩ := Int.eq_ofNat_of_zero_le hk
  simp only [Int.toNat_natCast] at *
  have hp : p < 2 ^ N := by exact_mod_cast h1
  have hV : V < 2 ^ K := by exact_mod_cast hv1
  have a1 := pow_le_of (show N ≤ 7 by omega)
  have a2 := pow_le_of (show K ≤ 32 by omega)
  have hm : V * 2 ^ N < 2 ^ 39 := by
    calc V * 2 ^ N < 2 ^ K * 2 ^ N := by exact Nat.mul_lt_mul_of_pos_right hV (Nat.pow_pos (by omega))
      _ ≤ 2 ^ 32 * 2 ^ 7 := Nat.mul_le_mul a2 a1
  omega

theorem orT (part v n k : Int) (h0 : 0 ≤ part) (h1 : part < 2 ^ n.toNat) (hn : 0 ≤ n) (hn7 : n ≤ 7) (hk : 0 ≤ k) (hk1 : k ≤ 32) (hv : 0 ≤ v) (hv1 : v < 2 ^ k.toNat) :
    bits BinOp.or IntKind.u64 part (IntKind.u64.wrap (v * 2 ^ n.toNat)) = ((part.toNat + v.toNat * 2 ^ n.toNat : Nat) : Int) := by
  obtain ⟨p, rfl⟩ := Int.eq_ofNat_of_zero_le h0
  obtain ⟨V, rfl⟩ := Int.eq_ofNat_of_zero_le hv
  obtain ⟨N, rfl⟩ := Int.eq_ofNat_of_zero_le hn
  obtain ⟨K, rfl⟩ := Int.eq_ofNat_of_zero_le hk
  simp only [Int.toNat_natCast] at *
  have hp : p < 2 ^ N := by exact_mod_cast h1
  have hV : V < 2 ^ K := by exact_mod_cast hv1
  have a1 := pow_le_of (show N ≤ 7 by omega)
  have a2 := pow_le_of (show K ≤ 32 by omega)
  have hm : V * 2 ^ N < 2 ^ 39 := by
    calc V * 2 ^ N < 2 ^ K * 2 ^ N := by exact Nat.mul_lt_mul_of_pos_right hV (Nat.pow_pos (by omega))
      _ ≤ 2 ^ 32 * 2 ^ 7 := Nat.mul_le_mul a2 a1
  have e1 : ((V : Int) * 2 ^ N) = ((V * 2 ^ N : Nat) : Int) := by simp
  rw [e1, IntWalk.u64_in _ ⟨by omega, by omega⟩, u64_or_nat p (V * 2 ^ N) (by omega) (by omega), Nat.or_comm, nat_join N (V * 2 ^ N) p (Nat.mul_mod_left _ _) hp]
  congr 1
  omega

set_option maxHeartbeats 800000 in
theorem Put_mid (s : ByteArray) (part n k v : Int) (w : World) (hs : s.size ≤ 1048577) (hk0 : 0 ≤ k) (hk1 : k ≤ 32) (hE : (putE s.size part n k v != 0) = true) :
    Calls Try.prog 10 #[.agg #[.string s, .int .i64 part, .int .i64 n], .int .i64 k, .int .u64 v] w fun e w' => e = .returned (.tuple #[.agg #[.string ⟨#[]⟩, .int .i64 0, .int .i64 0], .int .i64 (putE s.size part n k v)]) ∧ Below w.heap.size w w' := by
  have hs' : s.size ≤ maxLen := by unfold maxLen; omega
  have hkc : decide (k < 0) = false := by simpa using hk0
  have hkd : decide (32 < k) = false := by simpa using hk1
  have h63 := and63 k hk0 hk1
  have hP := putE_mid s.size part n k v hk0 hk1
  go_enter Try.func10, Try.ntmps10
  go_wp2
  refine abs (R := fun W => Code.wp _ _ _ _ W) (fun W => Below w.heap.size w W ∧ Blk W w.heap.size 23 [.string s, .int .i64 part, .int .i64 n] ∧ Blk W (w.heap.size + 1) 23 [.string ⟨#[]⟩, .int .i64 0, .int .i64 0])
    ⟨by go_grown, (Blk.new _ _ _).alloc _, Blk.new' (by simp) _ _⟩ ?_
  rintro w0 ⟨hw0, hA, hR⟩
  have a0 := hA.cell 0 rfl
  have a1 := hA.cell 1 rfl
  have a2 := hA.cell 2 rfl
  have al := hA.lt
  refine wp_region_B
    [(0, true), (2, true), (3, true), (17, true), (18, true), (19, true), (20, true), (21, true), (22, true), (23, true), (24, true), (25, true), (26, true), (1, false), (4, true), (5, true), (6, true), (7, true), (8, true), (9, true), (10, true), (11, true), (12, true), (13, true), (14, true), (15, true), (16, false), (27, false), (28, false), (29, false), (30, true)]
    (by kernel_rfl) (by kernel_rfl) (fun c a d v w h => by cases d <;> exact h) (fun hS1 => ?_)
  repeat (first
    | (refine wpS_nil ?_)
    | (refine wpS_skip (o := ⟨_, _, _, _, _, _⟩) rfl ?_ ?_; (focus rfl); simp only [Act.put, List.setIfInBounds_toArray, List.set_cons_zero, List.set_cons_succ])
    | (refine wpS_lightB (o := ⟨_, _, _, _, _, _⟩) (v := ?_) rfl ?_ (fun w' hS' => ?_) ?_; rotate_left; (focus rfl); (focus (go_simp; try with_reducible rfl)); simp only [Act.put, List.setIfInBounds_toArray, List.set_cons_zero, List.set_cons_succ])
    | (refine wpS_heavyB hS1 (o := ⟨_, _, _, _, _, _⟩) rfl ?_ (fun K hK => ?_); (focus rfl)
       go_wp2_with (first
         | (go_at_call 12; refine (check_any s part n _ hs').mono ?_; rintro e w1 ⟨rfl, hb1⟩)
         | (go_at_call 36; refine (when_any _ _ _).mono ?_; rintro e w1 ⟨rfl, rfl⟩)
         | (go_at_call 35; refine (first3 _ _ _ _ _ _ (Blk.new' rfl _ _)).mono ?_; rintro e w1 ⟨rfl, rfl⟩))
       refine ⟨?_, fun hS1 => ?_⟩
       · first | exact Below.refl _ _ | exact hb1 | exact (Below.refl _ _).alloc (Nat.le_refl _) _)
    | (refine wpS_hskip hS1 (o := ⟨_, _, _, _, _, _⟩) rfl ?_ ?_; (focus rfl); simp only [Act.put, List.setIfInBounds_toArray, List.set_cons_zero, List.set_cons_succ]))
  refine abs (R := fun W => Exit.then _ _ _ _ W) (fun W => Below w.heap.size w W ∧ Blk W w.heap.size 23 [.string s, .int .i64 part, .int .i64 n] ∧ Blk W (w.heap.size + 1) 23 [.string ⟨#[]⟩, .int .i64 0, .int .i64 0])
    ⟨hw0.trans (hS1.mono hw0.size), hA.belowS hS1, hR.belowS hS1⟩ ?_
  rintro w2 ⟨hw2, hA2, hR2⟩
  have b0 := hR2.cell 0 rfl
  have b1 := hR2.cell 1 rfl
  have b2 := hR2.cell 2 rfl
  have f0 := hR2.frozen 0
  have f1 := hR2.frozen 1
  have f2 := hR2.frozen 2
  go_wp2
  refine bodyPost_ret (v := .tuple #[.agg #[.string ⟨#[]⟩, .int .i64 0, .int .i64 0], .int .i64 _]) (results_2 rfl (res_cell (t := 23) (cs := [.string ⟨#[]⟩, .int .i64 0, .int .i64 0]) rfl (((hR2.set 0 _).set 1 _).set 2 _) Try.underlying23 rfl (by kernel_rfl)) rfl) rfl ⟨?_, ((hw2.setCell (by simp) _).setCell (by simp) _).setCell (by simp) _⟩
  rfl

set_option maxHeartbeats 1600000 in
theorem Put_ok (s : ByteArray) (part n k v : Int) (w : World) (hs : s.size ≤ 1048577) (hv : 0 ≤ v) (hE : putE s.size part n k v = 0) :
    Calls Try.prog 10 #[.agg #[.string s, .int .i64 part, .int .i64 n], .int .i64 k, .int .u64 v] w fun e w' => e = .returned (.tuple #[.agg #[.string ⟨(s.data.toList ++ emit (part.toNat + v.toNat * 2 ^ n.toNat) ((n + k).toNat / 8)).toArray⟩, .int .i64 (((part.toNat + v.toNat * 2 ^ n.toNat) / 256 ^ ((n + k).toNat / 8) : Nat) : Int), .int .i64 ((n + k) % 8)], .int .i64 0]) ∧ Below w.heap.size w w' := by
  have hs' : s.size ≤ maxLen := by unfold maxLen; omega
  obtain ⟨hk0, hk1, hv1, hn0, hn1, hp0, hp1, hl0, hl1⟩ := putE_zero hs hv hE
  have hT := orT part v n k hp0 hp1 hn0 hn1 hk0 hk1 hv hv1
  obtain ⟨T, eT⟩ : ∃ T, T = part.toNat + v.toNat * 2 ^ n.toNat := ⟨_, rfl⟩
  have hTb : T < 1099511627776 := by rw [eT]; exact orT_lt part v n k hp0 hp1 hn0 hn1 hk0 hk1 hv hv1
  rw [← eT] at hT ⊢
  clear eT
  have hp2 : part < 256 := by
    have := pow_le_of (show n.toNat ≤ 7 by omega)
    have h : (2 : Int) ^ n.toNat = ((2 ^ n.toNat : Nat) : Int) := by simp
    omega
  have HT := Lib.hid hT
  clear hT hp1 hv1
  have hkc : decide (k < 0) = false := by simpa using hk0
  have hkd : decide (32 < k) = false := by simpa using hk1
  have h63 := and63 k hk0 hk1
  have hP := putE_mid s.size part n k v hk0 hk1
  rw [hE, IntWalk.wrap64_in (n + k) ⟨by omega, by omega⟩, Int.tdiv_eq_ediv_of_nonneg (show 0 ≤ n + k by omega), IntWalk.wrap64_in ((n + k) / 8) ⟨by omega, by omega⟩, IntWalk.wrap64_in ((s.size : Int) + (n + k) / 8) ⟨by omega, by omega⟩] at hP
  go_enter Try.func10, Try.ntmps10
  go_wp2
  refine abs (R := fun W => Code.wp _ _ _ _ W) (fun W => Below w.heap.size w W ∧ Blk W w.heap.size 23 [.string s, .int .i64 part, .int .i64 n] ∧ Blk W (w.heap.size + 1) 23 [.string ⟨#[]⟩, .int .i64 0, .int .i64 0])
    ⟨by go_grown, (Blk.new _ _ _).alloc _, Blk.new' (by simp) _ _⟩ ?_
  rintro w0 ⟨hw0, hA, hR⟩
  have a0 := hA.cell 0 rfl
  have a1 := hA.cell 1 rfl
  have a2 := hA.cell 2 rfl
  have al := hA.lt
  refine wp_region_B
    [(0, true), (2, true), (3, true), (17, true), (18, true), (19, true), (20, true), (21, true), (22, true), (23, true), (24, true), (25, true), (26, true), (1, false), (4, true), (5, true), (6, true), (7, true), (8, true), (9, true), (10, true), (11, true), (12, true), (13, true), (14, true), (15, true), (16, false), (27, false), (28, false), (29, false), (30, true)]
    (by kernel_rfl) (by kernel_rfl) (fun c a d v w h => by cases d <;> exact h) (fun hS1 => ?_)
  repeat (first
    | (refine wpS_nil ?_)
    | (refine wpS_skip (o := ⟨_, _, _, _, _, _⟩) rfl ?_ ?_; (focus rfl); simp only [Act.put, List.setIfInBounds_toArray, List.set_cons_zero, List.set_cons_succ])
    | (refine wpS_lightB (o := ⟨_, _, _, _, _, _⟩) (v := ?_) rfl ?_ (fun w' hS' => ?_) ?_; rotate_left; (focus rfl); (focus (go_simp; try with_reducible rfl)); simp only [Act.put, List.setIfInBounds_toArray, List.set_cons_zero, List.set_cons_succ])
    | (refine wpS_heavyB hS1 (o := ⟨_, _, _, _, _, _⟩) rfl ?_ (fun K hK => ?_); (focus rfl)
       go_wp2_with (first
         | (go_at_call 12; refine (check_any s part n _ hs').mono ?_; rintro e w1 ⟨rfl, hb1⟩)
         | (go_at_call 36; refine (when_any _ _ _).mono ?_; rintro e w1 ⟨rfl, rfl⟩)
         | (go_at_call 35; refine (first3 _ _ _ _ _ _ (Blk.new' rfl _ _)).mono ?_; rintro e w1 ⟨rfl, rfl⟩))
       refine ⟨?_, fun hS1 => ?_⟩
       · first | exact Below.refl _ _ | exact hb1 | exact (Below.refl _ _).alloc (Nat.le_refl _) _)
    | (refine wpS_hskip hS1 (o := ⟨_, _, _, _, _, _⟩) rfl ?_ ?_; (focus rfl); simp only [Act.put, List.setIfInBounds_toArray, List.set_cons_zero, List.set_cons_succ]))
  refine abs (R := fun W => Exit.then _ _ _ _ W) (fun W => Below w.heap.size w W ∧ Blk W w.heap.size 23 [.string s, .int .i64 part, .int .i64 n] ∧ Blk W (w.heap.size + 1) 23 [.string ⟨#[]⟩, .int .i64 0, .int .i64 0])
    ⟨hw0.trans (hS1.mono hw0.size), hA.belowS hS1, hR.belowS hS1⟩ ?_
  rintro w2 ⟨hw2, hA2, hR2⟩
  have b0 := hR2.cell 0 rfl
  have b1 := hR2.cell 1 rfl
  have b2 := hR2.cell 2 rfl
  have f0 := hR2.frozen 0
  have f1 := hR2.frozen 1
  have f2 := hR2.frozen 2
  have d0 := hA2.cell 0 rfl
  have d1 := hA2.cell 1 rfl
  have d2 := hA2.cell 2 rfl
  go_wp2_with (first
    | (go_at_call 37; refine (opened_any s part n _ hp0 hp2).mono ?_; rintro e w3 ⟨rfl, rfl⟩))
  refine (put_any s part n k v T (w2.heap.size + 1) (w2.heap.size + 2) 1 _ (by omega) hp0 hp2 hn0 hn1 hk0 hk1 HT.out ?_ ?_).mono ?_
  · exact (Blk.new' (by simp) _ _).alloc _
  · exact Blk.new' (by simp) _ _
  rintro e w4 ⟨rfl, hg4, hB4⟩
  have hb4 : Below w2.heap.size w2 w4 := Below.grown (by go_grown) hg4 (by simp; omega) (fun g h => by cases h; omega)
  have hR4 := hR2.belowS hb4
  have hw4 := hw2.trans (hb4.mono hw2.size)
  have r0 := hR4.cell 0 rfl
  have r1 := hR4.cell 1 rfl
  have r2 := hR4.cell 2 rfl
  have k0 := hR4.frozen 0
  have k1 := hR4.frozen 1
  have k2 := hR4.frozen 2
  have x0 := hB4.cell 0 rfl
  have x1 := hB4.cell 1 rfl
  have x2 := hB4.cell 2 rfl
  clear hg4 hb4
  have ew : wrap64 ((T : Int) / 256 ^ ((n + k).toNat / 8)) = ((T / 256 ^ ((n + k).toNat / 8) : Nat) : Int) := by
    have h1 := Nat.div_le_self T (256 ^ ((n + k).toNat / 8))
    have h2 : (T : Int) / 256 ^ ((n + k).toNat / 8) = ((T / 256 ^ ((n + k).toNat / 8) : Nat) : Int) := by simp
    have h3 : (0 : Int) ≤ ((T / 256 ^ ((n + k).toNat / 8) : Nat) : Int) := Int.natCast_nonneg _
    rw [h2]; exact IntWalk.wrap64_in _ ⟨by omega, by omega⟩
  have EW := Lib.hid ew
  clear ew
  go_wp2
  go_region
  go_wp2
  rw [EW.out]
  refine bodyPost_ret (v := .tuple #[.agg #[.string ⟨(s.data.toList ++ emit T ((n + k).toNat / 8)).toArray⟩, .int .i64 ((T / 256 ^ ((n + k).toNat / 8) : Nat) : Int), .int .i64 ((n + k) % 8)], .int .i64 0]) (results_2 rfl (res_cell (t := 23) (cs := [.string ⟨(s.data.toList ++ emit T ((n + k).toNat / 8)).toArray⟩, .int .i64 ((T / 256 ^ ((n + k).toNat / 8) : Nat) : Int), .int .i64 ((n + k) % 8)]) rfl (((hR4.set 0 _).set 1 _).set 2 _).drew Try.underlying23 rfl (by kernel_rfl)) rfl) rfl ⟨rfl, (((hw4.setCell (by simp) _).setCell (by simp) _).setCell (by simp) _).drew⟩
end Go.Proofs.Ytlmoenjggggpkaa
namespace Go.Proofs.Ytlmoenjggggpkaa
open Go.RowKit Go.Chz
set_option linter.unusedVariables false

theorem u64pow (K : Nat) (h : K ≤ 32) : IntKind.u64.wrap (2 ^ K) = ((2 ^ K : Nat) : Int) := by
  have := pow_le_of h
  have e : (2 : Int) ^ K = ((2 ^ K : Nat) : Int) := by simp
  have h0 : (0 : Int) ≤ ((2 ^ K : Nat) : Int) := Int.natCast_nonneg _
  rw [e]; exact IntWalk.u64_in _ ⟨by omega, by omega⟩

theorem bit_rule (V j : Nat) (hV : V < 18446744073709551616) : bits BinOp.and IntKind.u64 ((V : Int) / 2 ^ j) 1 = ((V / 2 ^ j % 2 : Nat) : Int) := by
  have e : (V : Int) / 2 ^ j = ((V / 2 ^ j : Nat) : Int) := by simp
  have h := Nat.div_le_self V (2 ^ j)
  rw [e]
  exact (u64_and_nat (V / 2 ^ j) 1 (by omega) (by omega)).trans (by rw [nat_mask1])

theorem pow256 (q : Nat) : 256 ^ q = 2 ^ (8 * q) := by rw [Nat.pow_mul]

theorem step_lo (T m : Nat) : (T % 2 ^ m / 256 ^ (m / 8)) + (T / 2 ^ m % 2) * 2 ^ (m % 8) = T % 2 ^ (m + 1) / 256 ^ (m / 8) := by
  rw [Nat.mod_pow_succ]
  have e : (2 : Nat) ^ m = 256 ^ (m / 8) * 2 ^ (m % 8) := by rw [pow256, ← Nat.pow_add, Nat.div_add_mod]
  rw [show 2 ^ m * (T / 2 ^ m % 2) = 256 ^ (m / 8) * (2 ^ (m % 8) * (T / 2 ^ m % 2)) by rw [← Nat.mul_assoc, ← e]]
  rw [Nat.add_mul_div_left _ _ (Nat.pow_pos (by omega)), Nat.mul_comm (T / 2 ^ m % 2)]

theorem part_lt (T m : Nat) : T % 2 ^ m / 256 ^ (m / 8) < 2 ^ (m % 8) := by
  have e : (2 : Nat) ^ m = 256 ^ (m / 8) * 2 ^ (m % 8) := by rw [pow256, ← Nat.pow_add, Nat.div_add_mod]
  have h := Nat.mod_lt T (show 0 < 2 ^ m from Nat.pow_pos (by omega))
  exact Nat.div_lt_of_lt_mul (by omega)

theorem step_byte (T m : Nat) (h : m % 8 = 7) : UInt8.ofNat (T % 2 ^ (m + 1) / 256 ^ (m / 8)) = UInt8.ofNat (T / 256 ^ (m / 8)) := by
  have e : m + 1 = 8 * (m / 8) + 8 := by omega
  have e2 : (2 : Nat) ^ (m + 1) = 256 ^ (m / 8) * 256 := by rw [e, Nat.pow_add, ← pow256]
  rw [e2, Nat.mod_mul_right_div_self]
  apply UInt8.toNat_inj.1
  simp

theorem step_zero (T m : Nat) (h : m % 8 = 7) : T % 2 ^ (m + 1) / 256 ^ ((m + 1) / 8) = 0 := by
  have h2 := part_lt T (m + 1)
  rw [show (m + 1) % 8 = 0 by omega, Nat.pow_zero] at h2
  exact Nat.lt_one_iff.1 h2

theorem bit_of (p V N j T : Nat) (hp : p < 2 ^ N) (hT : T = p + V * 2 ^ N) : V / 2 ^ j % 2 = T / 2 ^ (N + j) % 2 := by
  rw [hT, Nat.pow_add, ← Nat.div_div_eq_div_mul, Nat.add_mul_div_right _ _ (Nat.pow_pos (by omega)), Nat.div_eq_of_lt hp, Nat.zero_add]

/-- One byte, laid in a block of its own, in the world behind that. -/
theorem newb (w : World) (Y : Int) (B : UInt8) (hY : Y = (B.toNat : Int)) (t : TypeId) (H : Nat) (hH : H = w.heap.size) : 0 < [B].length → ∃ ad, some (⟨H, 0, none⟩ : Addr) = some ad ∧ ∀ j u, (bcells [B])[j]? = some u → (w.alloc (.cells #[.int .u8 Y] t)).cell? (ad.add j) = some u := by
  intro _
  rw [hY, hH]
  exact new1 w _ t (by omega)

theorem str_ext (s X : ByteArray) (l : List UInt8) (B : UInt8) (hX : X = ⟨(s.data.toList ++ l).toArray⟩) : X ++ (⟨#[B]⟩ : ByteArray) = ⟨(s.data.toList ++ (l ++ [B])).toArray⟩ := by
  rw [hX]; apply ByteArray.ext; simp

theorem div_next (n : Nat) (h : n % 8 = 7) : (n + 1) / 8 = n / 8 + 1 := by omega
theorem div_same (n : Nat) (h : n % 8 ≠ 7) : (n + 1) / 8 = n / 8 := by omega

set_option maxHeartbeats 1600000 in
theorem rPut_round (s : ByteArray) (p N K V T : Nat) (w : World) (hs : s.size ≤ 1048577) (hp : p < 2 ^ N) (hN : N ≤ 7) (hl : s.size ≤ 1048576) (hK : K ≤ 32) (hV : V < 2 ^ K) (hT : T = p + V * 2 ^ N) :
    Calls Try.prog 11 #[.agg #[.string s, .int .i64 p, .int .i64 N], .int .i64 K, .int .u64 V] w fun e w' => (e = .returned (if s.size + (N + K) / 8 ≤ 1048576 then 
      .tuple #[.agg #[.string ⟨(s.data.toList ++ emit T ((N + K) / 8)).toArray⟩, .int .i64 ((T / 256 ^ ((N + K) / 8) : Nat) : Int), .int .i64 (((N + K) % 8 : Nat) : Int)], .int .i64 0] else .tuple #[.agg #[.string ⟨#[]⟩, .int .i64 0, .int .i64 0], .int .i64 4])) ∧ Below w.heap.size w w' := by
  have hs' : s.size ≤ maxLen := by unfold maxLen; omega
  have HT := Lib.hid hT
  have hch : chk s.size p N = 0 := by
    unfold chk
    have e : (2 : Int) ^ (N : Int).toNat = ((2 ^ N : Nat) : Int) := by simp
    rw [if_neg]; rw [e]; omega
  clear hT
  have hsh : (V : Int) < IntKind.u64.wrap (2 ^ K) := by rw [u64pow K hK]; exact_mod_cast hV
  have HV := Lib.hid hV
  have Hp := Lib.hid hp
  clear hV hp
  obtain ⟨Rr, hRr⟩ : ∃ r : Value, r = (if s.size + (N + K) / 8 ≤ 1048576 then 
      .tuple #[.agg #[.string ⟨(s.data.toList ++ emit T ((N + K) / 8)).toArray⟩, .int .i64 ((T / 256 ^ ((N + K) / 8) : Nat) : Int), .int .i64 (((N + K) % 8 : Nat) : Int)], .int .i64 0] else .tuple #[.agg #[.string ⟨#[]⟩, .int .i64 0, .int .i64 0], .int .i64 4]) := ⟨_, rfl⟩
  rw [← hRr]
  have HRr := Lib.hid hRr
  clear hRr
  go_enter Try.func11, Try.ntmps11
  go_wp2_with (first
    | (go_at_call 13; refine (rcheck_any s p N _ hs').mono ?_; rintro e w1 ⟨rfl, hb1⟩; have hz1 := hb1.size))
  have hA := ((Blk.new w 23 [.string s, .int .i64 p, .int .i64 N]).alloc (.cells #[.string ⟨#[]⟩, .int .i64 0, .int .i64 0] 23)).belowS hb1
  have hR := (Blk.new' (w := w.alloc (.cells #[.string s, .int .i64 p, .int .i64 N] 23)) (H := w.heap.size + 1) (by simp) 23 [.string ⟨#[]⟩, .int .i64 0, .int .i64 0]).belowS hb1
  have hw1 : Below w.heap.size w w1 := Below.trans (by go_grown) (hb1.mono (by simp; omega))
  clear hb1 hz1
  go_loopg [9] K (fun q i wr => ∃ j : Nat, q + j = K ∧ i = .int .i64 j ∧ Hid (Blk wr w.heap.size 23 [.string ⟨(s.data.toList ++ emit T ((N + j) / 8)).toArray⟩, .int .i64 ((T % 2 ^ (N + j) / 256 ^ ((N + j) / 8) : Nat) : Int), .int .i64 (((N + j) % 8 : Nat) : Int)]) ∧
     Hid (Blk wr (w.heap.size + 1) 23 [.string ⟨#[]⟩, .int .i64 0, .int .i64 0]) ∧ Hid (Below w.heap.size w wr))
  case atStart =>
    refine ⟨0, rfl, rfl, ?_, hR, hw1⟩
    have e1 : (N + 0) / 8 = 0 := by omega
    have e2 : (N + 0) % 8 = N := by omega
    have e3 : T % 2 ^ (N + 0) / 256 ^ 0 = p := by
      rw [HT.out]; simp; exact Nat.mod_eq_of_lt Hp.out
    have e4 : (⟨(s.data.toList ++ emit T 0).toArray⟩ : ByteArray) = s := by simp [emit]
    rw [e1, e2, e3, e4]
    exact hA
  case round =>
    obtain ⟨j, hq, rfl, HA, HR, HB⟩ := hrel
    clear hA hR hw1
    obtain ⟨X, hX⟩ : ∃ X : ByteArray, X = ⟨(s.data.toList ++ emit T ((N + j) / 8)).toArray⟩ := ⟨_, rfl⟩
    obtain ⟨P, hP⟩ : ∃ P : Nat, P = T % 2 ^ (N + j) / 256 ^ ((N + j) / 8) := ⟨_, rfl⟩
    obtain ⟨M, hM⟩ : ∃ M : Nat, M = (N + j) % 8 := ⟨_, rfl⟩
    have hXs : X.size = s.size + (N + j) / 8 := by
      rw [hX]; show (List.toArray _).size = _; simp [emit_length]
    have hXb : X.size ≤ 1048700 := by omega
    have hPlt : P < 2 ^ M := by rw [hP, hM]; exact part_lt T (N + j)
    have hM8 : M < 8 := by omega
    have hP128 : P < 128 := by have := pow_le_of (show M ≤ 7 by omega); omega
    rw [← hX, ← hP, ← hM] at HA
    have HXs := Lib.hid hXs
    have HX := Lib.hid hX
    have HP := Lib.hid hP
    have HM := Lib.hid hM
    clear hX hP hM hXs hPlt
    have c0 := HA.out.cell 0 rfl
    have c1 := HA.out.cell 1 rfl
    have c2 := HA.out.cell 2 rfl
    have f0 := HA.out.frozen 0
    have f1 := HA.out.frozen 1
    have f2 := HA.out.frozen 2
    have r0 := HR.out.cell 0 rfl
    have r1 := HR.out.cell 1 rfl
    have r2 := HR.out.cell 2 rfl
    have g0 := HR.out.frozen 0
    have g1 := HR.out.frozen 1
    have g2 := HR.out.frozen 2
    have hAl := HA.out.lt
    have hRl := HR.out.lt
    by_cases hlt : j < K
    · obtain ⟨b, hb⟩ : ∃ b : Nat, b = V / 2 ^ j % 2 := ⟨_, rfl⟩
      have hbit := bit_rule V j (by have := HV.out; have := pow_le_of hK; omega)
      rw [← hb] at hbit
      have hb1 : b ≤ 1 := by omega
      have Hb := Lib.hid hb
      obtain ⟨D, hD⟩ : ∃ D : Nat, (2 : Int) ^ M = (D : Int) := ⟨2 ^ M, by simp⟩
      have hD1 : D = 2 ^ M := by have : (D : Int) = ((2 ^ M : Nat) : Int) := by rw [← hD]; simp
                                 omega
      have hD128 : D ≤ 128 := by have := pow_le_of (show M ≤ 7 by omega); omega
      have hbD : b * D ≤ 128 := by
        rcases (show b = 0 ∨ b = 1 by omega) with h | h <;> rw [h] <;> omega
      have HD := Lib.hid hD1
      clear hb hD1
      by_cases h7 : M = 7
      · have hD7 : D = 128 := by rw [HD.out, h7]
        have hM7 : ((M : Int) + 1 == 8) = true := by rw [h7]; rfl
        obtain ⟨B, hB⟩ : ∃ B : UInt8, B = UInt8.ofNat (P + b * 128) := ⟨_, rfl⟩
        have hBn : (P : Int) + b * 128 = (B.toNat : Int) := by rw [hB]; simp; omega
        have HB2 := Lib.hid hB
        clear hB
        go_wp2_with (with_reducible refine wpList_string_O (o := ⟨some 62, _, _, _, _, _⟩) rfl 42 9 (.tmp 61) rfl 5 _ _ _ [B] rfl Try.underlying42 Try.underlying5 Try.underlying9 rfl ?_ ?_)
        · refine newb _ _ B rfl _ _ ?_; simp
        go_wp2
        go_roundg (gk - 1)
        case measure => omega
        case rel => 
          have em : (N + j) % 8 = M := HM.out.symm
          have ej : N + (j + 1) = N + j + 1 := rfl
          have eb := bit_of p V N j T Hp.out HT.out
          have el := step_lo T (N + j)
          rw [← eb, ← Hb.out, ← HP.out, em, ← HD.out] at el
          rw [hD7] at el
          have e1 : X ++ (⟨#[B]⟩ : ByteArray) = ⟨(s.data.toList ++ emit T ((N + (j + 1)) / 8)).toArray⟩ := by
            rw [ej, div_next _ (em.trans h7), emit_succ, ← step_byte T (N + j) (em.trans h7), ← el, ← HB2.out]
            exact str_ext s X _ B HX.out
          have e2 : (0 : Int) = ((T % 2 ^ (N + (j + 1)) / 256 ^ ((N + (j + 1)) / 8) : Nat) : Int) := by
            rw [ej, step_zero T (N + j) (em.trans h7)]; rfl
          have e3 : (0 : Int) = (((N + (j + 1)) % 8 : Nat) : Int) := by omega
          refine ⟨j + 1, by omega, rfl, ?_, ?_, ?_⟩
          · rw [← e1, ← e2, ← e3]
            exact (((((HA.out.set 1 _).set 2 _).set 0 _).set 1 _).set 2 _).alloc _
          · exact (((((HR.out.far (by simp) _).far (by simp) _).far (by simp) _).far (by simp) _).far (by simp) _).alloc _
          · exact Lib.hid (by have HBo := HB.out; go_grown)
      · have hM7 : ((M : Int) + 1 == 8) = false := by simp; omega
        go_wp2
        go_roundg (gk - 1)
        case measure => omega
        case rel => 
          have em : (N + j) % 8 = M := HM.out.symm
          have ej : N + (j + 1) = N + j + 1 := rfl
          have eb := bit_of p V N j T Hp.out HT.out
          have el := step_lo T (N + j)
          rw [← eb, ← Hb.out, ← HP.out, em, ← HD.out] at el
          have h7' : (N + j) % 8 ≠ 7 := by omega
          have e1 : X = ⟨(s.data.toList ++ emit T ((N + (j + 1)) / 8)).toArray⟩ := by
            rw [ej, div_same _ h7']; exact HX.out
          have e2 : (P : Int) + b * D = ((T % 2 ^ (N + (j + 1)) / 256 ^ ((N + (j + 1)) / 8) : Nat) : Int) := by
            rw [ej, div_same _ h7', ← el]; simp
          have e3 : (M : Int) + 1 = (((N + (j + 1)) % 8 : Nat) : Int) := by omega
          refine ⟨j + 1, by omega, rfl, ?_, ?_, ?_⟩
          · rw [← e1, ← e2, ← e3]
            exact (HA.out.set 1 _).set 2 _
          · exact (HR.out.far (by simp) _).far (by simp) _
          · exact Lib.hid (by have HBo := HB.out; go_grown)
    · have ejK : j = K := by omega
      subst ejK
      have eT : T % 2 ^ (N + j) = T := by
        have h1 := Hp.out
        have h2 := HV.out
        have h3 : V * 2 ^ N + 2 ^ N ≤ 2 ^ j * 2 ^ N := by rw [← Nat.succ_mul]; exact Nat.mul_le_mul_right _ h2
        refine Nat.mod_eq_of_lt ?_
        rw [HT.out, Nat.add_comm N j, Nat.pow_add]; omega
      rw [eT] at HP
      have HBo := HB.out
      have hXl := HXs.out
      by_cases hq2 : s.size + (N + j) / 8 ≤ 1048576
      · have eR := HRr.out
        rw [if_pos hq2] at eR
        have hX1 : X.size ≤ 1048576 := by omega
        have ER := Lib.hid eR
        clear hXl eR
        go_wp2
        have eR := ER.out
        have e1 : X = ⟨(s.data.toList ++ emit T ((N + j) / 8)).toArray⟩ := HX.out
        have e2 : P = T / 256 ^ ((N + j) / 8) := HP.out
        have e3 : M = (N + j) % 8 := HM.out
        rw [← e1, ← e2, ← e3] at eR
        refine bodyPost_ret (v := .tuple #[.agg #[.string X, .int .i64 P, .int .i64 M], .int .i64 0]) (results_2 rfl (res_cell (t := 23) (cs := [.string X, .int .i64 P, .int .i64 M]) rfl (((HR.out.set 0 _).set 1 _).set 2 _) Try.underlying23 rfl (by kernel_rfl)) rfl) rfl ⟨congrArg _ eR.symm, ?_⟩
        go_grown
      · have eR := HRr.out
        rw [if_neg hq2] at eR
        have hX1 : 1048576 < X.size := by omega
        have ER := Lib.hid eR
        clear hXl eR
        go_wp2
        have eR := ER.out
        refine bodyPost_ret (v := .tuple #[.agg #[.string ⟨#[]⟩, .int .i64 0, .int .i64 0], .int .i64 4]) (results_2 rfl (res_cell (t := 23) (cs := [.string ⟨#[]⟩, .int .i64 0, .int .i64 0]) rfl (((HR.out.set 0 _).set 1 _).set 2 _) Try.underlying23 rfl (by kernel_rfl)) rfl) rfl ⟨congrArg _ eR.symm, ?_⟩
        go_grown
end Go.Proofs.Ytlmoenjggggpkaa
namespace Go.Proofs.Ytlmoenjggggpkaa
open Go.RowKit Go.Chz
set_option linter.unusedVariables false

set_option maxHeartbeats 800000 in
theorem rPut_chk (s : ByteArray) (part n k v : Int) (w : World) (hs : s.size ≤ 1048577) (hc : (chk s.size part n != 0) = true) :
    Calls Try.prog 11 #[.agg #[.string s, .int .i64 part, .int .i64 n], .int .i64 k, .int .u64 v] w fun e w' => e = .returned (.tuple #[.agg #[.string ⟨#[]⟩, .int .i64 0, .int .i64 0], .int .i64 (chk s.size part n)]) ∧ Below w.heap.size w w' := by
  have hs' : s.size ≤ maxLen := by unfold maxLen; omega
  go_enter Try.func11, Try.ntmps11
  go_wp2_with (first
    | (go_at_call 13; refine (rcheck_any s part n _ hs').mono ?_; rintro e w1 ⟨rfl, hb1⟩; have hz1 := hb1.size; have hR := (Blk.new' (w := w.alloc (.cells #[.string s, .int .i64 part, .int .i64 n] 23)) (H := w.heap.size + 1) (by simp) 23 [.string ⟨#[]⟩, .int .i64 0, .int .i64 0]).belowS hb1; have hw1 : Below w.heap.size w w1 := Below.trans (by go_grown) (hb1.mono (by simp; omega)); have r0 := hR.cell 0 rfl; have r1 := hR.cell 1 rfl; have r2 := hR.cell 2 rfl; have g0 := hR.frozen 0; have g1 := hR.frozen 1; have g2 := hR.frozen 2; have hRl := hR.lt))
  refine bodyPost_ret (v := .tuple #[.agg #[.string ⟨#[]⟩, .int .i64 0, .int .i64 0], .int .i64 (chk s.size part n)]) (results_2 rfl (res_cell (t := 23) (cs := [.string ⟨#[]⟩, .int .i64 0, .int .i64 0]) rfl (((hR.set 0 _).set 1 _).set 2 _) Try.underlying23 rfl (by kernel_rfl)) rfl) rfl ⟨rfl, ?_⟩
  go_grown

set_option maxHeartbeats 800000 in
theorem rPut_lo (s : ByteArray) (part n k v : Int) (w : World) (hs : s.size ≤ 1048577) (hc : chk s.size part n = 0) (hk : k < 0) :
    Calls Try.prog 11 #[.agg #[.string s, .int .i64 part, .int .i64 n], .int .i64 k, .int .u64 v] w fun e w' => e = .returned (.tuple #[.agg #[.string ⟨#[]⟩, .int .i64 0, .int .i64 0], .int .i64 2]) ∧ Below w.heap.size w w' := by
  have hs' : s.size ≤ maxLen := by unfold maxLen; omega
  go_enter Try.func11, Try.ntmps11
  go_wp2_with (first
    | (go_at_call 13; refine (rcheck_any s part n _ hs').mono ?_; rintro e w1 ⟨rfl, hb1⟩; have hz1 := hb1.size; have hR := (Blk.new' (w := w.alloc (.cells #[.string s, .int .i64 part, .int .i64 n] 23)) (H := w.heap.size + 1) (by simp) 23 [.string ⟨#[]⟩, .int .i64 0, .int .i64 0]).belowS hb1; have hw1 : Below w.heap.size w w1 := Below.trans (by go_grown) (hb1.mono (by simp; omega)); have r0 := hR.cell 0 rfl; have r1 := hR.cell 1 rfl; have r2 := hR.cell 2 rfl; have g0 := hR.frozen 0; have g1 := hR.frozen 1; have g2 := hR.frozen 2; have hRl := hR.lt))
  refine bodyPost_ret (v := .tuple #[.agg #[.string ⟨#[]⟩, .int .i64 0, .int .i64 0], .int .i64 2]) (results_2 rfl (res_cell (t := 23) (cs := [.string ⟨#[]⟩, .int .i64 0, .int .i64 0]) rfl (((hR.set 0 _).set 1 _).set 2 _) Try.underlying23 rfl (by kernel_rfl)) rfl) rfl ⟨rfl, ?_⟩
  go_grown

set_option maxHeartbeats 800000 in
theorem rPut_hi (s : ByteArray) (part n k v : Int) (w : World) (hs : s.size ≤ 1048577) (hc : chk s.size part n = 0) (hk : 32 < k) :
    Calls Try.prog 11 #[.agg #[.string s, .int .i64 part, .int .i64 n], .int .i64 k, .int .u64 v] w fun e w' => e = .returned (.tuple #[.agg #[.string ⟨#[]⟩, .int .i64 0, .int .i64 0], .int .i64 2]) ∧ Below w.heap.size w w' := by
  have hs' : s.size ≤ maxLen := by unfold maxLen; omega
  go_enter Try.func11, Try.ntmps11
  go_wp2_with (first
    | (go_at_call 13; refine (rcheck_any s part n _ hs').mono ?_; rintro e w1 ⟨rfl, hb1⟩; have hz1 := hb1.size; have hR := (Blk.new' (w := w.alloc (.cells #[.string s, .int .i64 part, .int .i64 n] 23)) (H := w.heap.size + 1) (by simp) 23 [.string ⟨#[]⟩, .int .i64 0, .int .i64 0]).belowS hb1; have hw1 : Below w.heap.size w w1 := Below.trans (by go_grown) (hb1.mono (by simp; omega)); have r0 := hR.cell 0 rfl; have r1 := hR.cell 1 rfl; have r2 := hR.cell 2 rfl; have g0 := hR.frozen 0; have g1 := hR.frozen 1; have g2 := hR.frozen 2; have hRl := hR.lt))
  refine bodyPost_ret (v := .tuple #[.agg #[.string ⟨#[]⟩, .int .i64 0, .int .i64 0], .int .i64 2]) (results_2 rfl (res_cell (t := 23) (cs := [.string ⟨#[]⟩, .int .i64 0, .int .i64 0]) rfl (((hR.set 0 _).set 1 _).set 2 _) Try.underlying23 rfl (by kernel_rfl)) rfl) rfl ⟨rfl, ?_⟩
  go_grown

set_option maxHeartbeats 800000 in
theorem rPut_val (s : ByteArray) (part n k v : Int) (w : World) (hs : s.size ≤ 1048577) (hc : chk s.size part n = 0) (hk0 : 0 ≤ k) (hk : k ≤ 32) (hv : IntKind.u64.wrap (2 ^ k.toNat) ≤ v) :
    Calls Try.prog 11 #[.agg #[.string s, .int .i64 part, .int .i64 n], .int .i64 k, .int .u64 v] w fun e w' => e = .returned (.tuple #[.agg #[.string ⟨#[]⟩, .int .i64 0, .int .i64 0], .int .i64 2]) ∧ Below w.heap.size w w' := by
  have hs' : s.size ≤ maxLen := by unfold maxLen; omega
  go_enter Try.func11, Try.ntmps11
  go_wp2_with (first
    | (go_at_call 13; refine (rcheck_any s part n _ hs').mono ?_; rintro e w1 ⟨rfl, hb1⟩; have hz1 := hb1.size; have hR := (Blk.new' (w := w.alloc (.cells #[.string s, .int .i64 part, .int .i64 n] 23)) (H := w.heap.size + 1) (by simp) 23 [.string ⟨#[]⟩, .int .i64 0, .int .i64 0]).belowS hb1; have hw1 : Below w.heap.size w w1 := Below.trans (by go_grown) (hb1.mono (by simp; omega)); have r0 := hR.cell 0 rfl; have r1 := hR.cell 1 rfl; have r2 := hR.cell 2 rfl; have g0 := hR.frozen 0; have g1 := hR.frozen 1; have g2 := hR.frozen 2; have hRl := hR.lt))
  refine bodyPost_ret (v := .tuple #[.agg #[.string ⟨#[]⟩, .int .i64 0, .int .i64 0], .int .i64 2]) (results_2 rfl (res_cell (t := 23) (cs := [.string ⟨#[]⟩, .int .i64 0, .int .i64 0]) rfl (((hR.set 0 _).set 1 _).set 2 _) Try.underlying23 rfl (by kernel_rfl)) rfl) rfl ⟨rfl, ?_⟩
  go_grown

/-- What both packages' Put returns. -/
def putV (s : ByteArray) (part n k v : Int) : Value :=
  if putE s.size part n k v = 0 then .tuple #[.agg #[.string ⟨(s.data.toList ++ emit (part.toNat + v.toNat * 2 ^ n.toNat) ((n + k).toNat / 8)).toArray⟩, .int .i64 (((part.toNat + v.toNat * 2 ^ n.toNat) / 256 ^ ((n + k).toNat / 8) : Nat) : Int), .int .i64 ((n + k) % 8)], .int .i64 0]
  else .tuple #[.agg #[.string ⟨#[]⟩, .int .i64 0, .int .i64 0], .int .i64 (putE s.size part n k v)]

theorem Put_all (s : ByteArray) (part n k v : Int) (w : World) (hs : s.size ≤ 1048577) (hv : 0 ≤ v) :
    Calls Try.prog 10 #[.agg #[.string s, .int .i64 part, .int .i64 n], .int .i64 k, .int .u64 v] w fun e w' => e = .returned (putV s part n k v) ∧ Below w.heap.size w w' := by
  by_cases h : putE s.size part n k v = 0
  · rw [putV, if_pos h]; exact Put_ok s part n k v w hs hv h
  · rw [putV, if_neg h]
    by_cases h1 : k < 0
    · exact Put_lo s part n k v w hs h1
    · by_cases h2 : 32 < k
      · exact Put_hi s part n k v w hs h2
      · exact Put_mid s part n k v w hs (by omega) (by omega) (by simpa using h)

theorem firstNZ_chk {a b c : Int} (h : a ≠ 0) : firstNZ [a, b, c] = a := by simp [firstNZ, h]
theorem firstNZ_two {b c : Int} (h : b ≠ 0) : firstNZ [0, b, c] = b := by simp [firstNZ, h]
theorem firstNZ_thr {c : Int} : firstNZ [0, 0, c] = c := by
  by_cases h : c = 0 <;> simp [firstNZ, h]

theorem chk_ok {len : Nat} {part n : Int} (h : chk len part n = 0) : 0 ≤ n ∧ n ≤ 7 ∧ 0 ≤ part ∧ part < 2 ^ n.toNat ∧ len ≤ 1048576 := by
  unfold chk at h; split at h
  · cases h
  · omega

theorem rPut_all (s : ByteArray) (part n k v : Int) (w : World) (hs : s.size ≤ 1048577) (hv : 0 ≤ v) :
    Calls Try.prog 11 #[.agg #[.string s, .int .i64 part, .int .i64 n], .int .i64 k, .int .u64 v] w fun e w' => e = .returned (putV s part n k v) ∧ Below w.heap.size w w' := by
  by_cases hc : chk s.size part n = 0
  · by_cases h1 : k < 0
    · have e : putE s.size part n k v = 2 := by
        rw [putE, hc, rngB, decide_eq_true (.inl h1)]; exact firstNZ_two (by decide)
      rw [putV, if_neg (by rw [e]; decide), e]
      exact rPut_lo s part n k v w hs hc h1
    · by_cases h2 : 32 < k
      · have e : putE s.size part n k v = 2 := by
          rw [putE, hc, rngB, decide_eq_true (.inr (.inl h2))]; exact firstNZ_two (by decide)
        rw [putV, if_neg (by rw [e]; decide), e]
        exact rPut_hi s part n k v w hs hc h2
      · obtain ⟨hn0, hn1, hp0, hp1, hl0⟩ := chk_ok hc
        obtain ⟨p, rfl⟩ := Int.eq_ofNat_of_zero_le hp0
        obtain ⟨V, rfl⟩ := Int.eq_ofNat_of_zero_le hv
        obtain ⟨N, rfl⟩ := Int.eq_ofNat_of_zero_le hn0
        obtain ⟨K, rfl⟩ := Int.eq_ofNat_of_zero_le (show 0 ≤ k by omega)
        simp only [Int.toNat_natCast] at hp1
        have hK : K ≤ 32 := by omega
        have ep : ∀ m : Nat, (2 : Int) ^ m = ((2 ^ m : Nat) : Int) := by intro m; simp
        rw [ep] at hp1
        by_cases h3 : V < 2 ^ K
        · have e0 : (V : Int) / 2 ^ K = 0 := by
            rw [ep]; exact_mod_cast Nat.div_eq_of_lt h3
          have er : rngB K V = false := by
            rw [rngB, Int.toNat_natCast]; apply decide_eq_false; omega
          have el : lngB s.size N K = decide (1048576 < s.size + (N + K) / 8) := by
            unfold lngB
            rw [IntWalk.wrap64_in ((N : Int) + K) ⟨by omega, by omega⟩, Int.tdiv_eq_ediv_of_nonneg (show (0 : Int) ≤ (N : Int) + K by omega), IntWalk.wrap64_in (((N : Int) + K) / 8) ⟨by omega, by omega⟩, IntWalk.wrap64_in _ ⟨by omega, by omega⟩]
            rw [Bool.eq_iff_iff]; simp; omega
          have e : putE s.size p N K V = if s.size + (N + K) / 8 ≤ 1048576 then 0 else 4 := by
            rw [putE, hc, er, el]; show firstNZ [0, 0, _] = _
            rw [firstNZ_thr, ifB]; by_cases hh : s.size + (N + K) / 8 ≤ 1048576
            · rw [if_pos hh, decide_eq_false (by omega)]; rfl
            · rw [if_neg hh, decide_eq_true (by omega)]; rfl
          refine (rPut_round s p N K V (p + V * 2 ^ N) w hs (by omega) (by omega) hl0 hK h3 rfl).mono ?_
          rintro x w' ⟨rfl, hb⟩
          refine ⟨congrArg _ ?_, hb⟩
          by_cases hh : s.size + (N + K) / 8 ≤ 1048576
          · rw [if_pos hh, putV, if_pos (e.trans (if_pos hh))]; simp only [Int.toNat_natCast]; rfl
          · have e4 := e.trans (if_neg hh)
            rw [if_neg hh, putV, e4]; rfl
        · have e0 : (V : Int) / 2 ^ K ≠ 0 := by
            rw [ep]; have := Nat.div_pos (Nat.le_of_not_lt h3) (Nat.pow_pos (by omega : 0 < 2)); exact_mod_cast (by omega)
          have e : putE s.size p N K V = 2 := by
            rw [putE, hc, rngB, decide_eq_true (.inr (.inr (by rw [Int.toNat_natCast]; exact e0)))]; exact firstNZ_two (by decide)
          rw [putV, if_neg (by rw [e]; decide), e]
          refine rPut_val s p N K V w hs hc (by omega) (by omega) ?_
          rw [Int.toNat_natCast, u64pow K hK]
          exact_mod_cast Nat.le_of_not_lt h3
  · have e : putE s.size part n k v = chk s.size part n := by rw [putE]; exact firstNZ_chk hc
    rw [putV, if_neg (by rw [e]; exact hc), e]
    exact rPut_chk s part n k v w hs (by simpa using hc)
end Go.Proofs.Ytlmoenjggggpkaa
namespace Go.Proofs.Ytlmoenjggggpkaa
open Go.RowKit Go.Chz
set_option linter.unusedVariables false

def doneE (len : Nat) (part n : Int) : Int := firstNZ [chk len part n, ifB (decide (1048576 < (len : Int) + 1)) 4]
def doneS (s : ByteArray) (part n : Int) : ByteArray := if doneE s.size part n = 0 then ⟨(s.data.toList ++ [UInt8.ofNat (part.toNat + 2 ^ n.toNat)]).toArray⟩ else ⟨#[]⟩
theorem doneE_zero {len : Nat} {part n : Int} (h : doneE len part n = 0) : 0 ≤ n ∧ n ≤ 7 ∧ 0 ≤ part ∧ part < 2 ^ n.toNat ∧ len < 1048576 := by
  unfold doneE at h
  have h1 : chk len part n = 0 := by
    simp only [firstNZ] at h; split at h <;> first | assumption | omega
  have h2 : ifB (decide (1048576 < (len : Int) + 1)) 4 = 0 := by
    rw [h1] at h; simp only [firstNZ] at h; revert h; by_cases hz : ifB (decide (1048576 < (len : Int) + 1)) 4 = 0
    · intro _; exact hz
    · simp [hz]
  obtain ⟨a, b, c, d, e⟩ := chk_ok h1
  refine ⟨a, b, c, d, ?_⟩
  unfold ifB at h2
  split at h2
  · cases h2
  · rename_i hh; simp at hh; omega

set_option maxHeartbeats 800000 in
theorem Done_bad (s : ByteArray) (part n : Int) (w : World) (hs : s.size ≤ 1048577) (hE : (doneE s.size part n != 0) = true) :
    Calls Try.prog 14 #[.agg #[.string s, .int .i64 part, .int .i64 n]] w fun e w' => e = .returned (.tuple #[.string ⟨#[]⟩, .int .i64 (doneE s.size part n)]) ∧ Below w.heap.size w w' := by
  have hs' : s.size ≤ maxLen := by unfold maxLen; omega
  have hP : firstNZ [chk s.size part n, ifB (decide (1048576 < (s.size : Int) + 1)) 4] = doneE s.size part n := rfl
  go_enter Try.func14, Try.ntmps14
  go_wp2
  refine abs (R := fun W => Code.wp _ _ _ _ W) (fun W => Below w.heap.size w W ∧ Blk W w.heap.size 23 [.string s, .int .i64 part, .int .i64 n])
    ⟨by go_grown, Blk.new _ _ _⟩ ?_
  rintro w0 ⟨hw0, hA⟩
  have a0 := hA.cell 0 rfl
  have a1 := hA.cell 1 rfl
  have a2 := hA.cell 2 rfl
  have al := hA.lt
  refine wp_region_B
    [(0, true), (2, true), (3, true), (4, true), (5, true), (6, true), (1, false), (7, false), (8, false), (9, false), (10, true)]
    (by kernel_rfl) (by kernel_rfl) (fun c a d v w h => by cases d <;> exact h) (fun hS1 => ?_)
  repeat (first
    | (refine wpS_nil ?_)
    | (refine wpS_skip (o := ⟨_, _, _, _, _, _⟩) rfl ?_ ?_; (focus rfl); simp only [Act.put, List.setIfInBounds_toArray, List.set_cons_zero, List.set_cons_succ])
    | (refine wpS_lightB (o := ⟨_, _, _, _, _, _⟩) (v := ?_) rfl ?_ (fun w' hS' => ?_) ?_; rotate_left; (focus rfl); (focus (go_simp; try with_reducible rfl)); simp only [Act.put, List.setIfInBounds_toArray, List.set_cons_zero, List.set_cons_succ])
    | (refine wpS_heavyB hS1 (o := ⟨_, _, _, _, _, _⟩) rfl ?_ (fun K hK => ?_); (focus rfl)
       go_wp2_with (first
         | (go_at_call 12; refine (check_any s part n _ hs').mono ?_; rintro e w1 ⟨rfl, hb1⟩)
         | (go_at_call 36; refine (when_any _ _ _).mono ?_; rintro e w1 ⟨rfl, rfl⟩)
         | (go_at_call 35; refine (first2 _ _ _ _ _ (Blk.new' rfl _ _)).mono ?_; rintro e w1 ⟨rfl, rfl⟩))
       refine ⟨?_, fun hS1 => ?_⟩
       · first | exact Below.refl _ _ | exact hb1 | exact (Below.refl _ _).alloc (Nat.le_refl _) _)
    | (refine wpS_hskip hS1 (o := ⟨_, _, _, _, _, _⟩) rfl ?_ ?_; (focus rfl); simp only [Act.put, List.setIfInBounds_toArray, List.set_cons_zero, List.set_cons_succ]))
  refine abs (R := fun W => Exit.then _ _ _ _ W) (fun W => Below w.heap.size w W ∧ Blk W w.heap.size 23 [.string s, .int .i64 part, .int .i64 n])
    ⟨hw0.trans (hS1.mono hw0.size), hA.belowS hS1⟩ ?_
  rintro w2 ⟨hw2, hA2⟩
  go_wp2
  go_ret2
  exact ⟨rfl, hw2⟩

set_option maxHeartbeats 800000 in
theorem Done_ok (s : ByteArray) (part n : Int) (w : World) (hs : s.size ≤ 1048577) (hE : doneE s.size part n = 0) :
    Calls Try.prog 14 #[.agg #[.string s, .int .i64 part, .int .i64 n]] w fun e w' => e = .returned (.tuple #[.string ⟨(s.data.toList ++ [UInt8.ofNat (part.toNat + 2 ^ n.toNat)]).toArray⟩, .int .i64 0]) ∧ Below w.heap.size w w' := by
  have hs' : s.size ≤ maxLen := by unfold maxLen; omega
  obtain ⟨hn0, hn1, hp0, hp1, hl0⟩ := doneE_zero hE
  have hP : firstNZ [chk s.size part n, ifB (decide (1048576 < (s.size : Int) + 1)) 4] = 0 := hE
  have hT := orT part 1 n (8 - n) hp0 hp1 hn0 hn1 (by omega) (by omega) (by omega) (by
    have := pow_le_of (show 1 ≤ (8 - n).toNat by omega)
    have h : (2 : Int) ^ (8 - n).toNat = ((2 ^ (8 - n).toNat : Nat) : Int) := by simp
    omega)
  obtain ⟨T, eT⟩ : ∃ T, T = part.toNat + 2 ^ n.toNat := ⟨_, rfl⟩
  rw [show (1 : Int).toNat * 2 ^ n.toNat = 2 ^ n.toNat by simp, ← eT] at hT
  rw [← eT]
  clear eT
  have hp2 : part < 256 := by
    have := pow_le_of (show n.toNat ≤ 7 by omega)
    have h : (2 : Int) ^ n.toNat = ((2 ^ n.toNat : Nat) : Int) := by simp
    omega
  have HT := Lib.hid hT
  clear hT hp1
  go_enter Try.func14, Try.ntmps14
  go_wp2
  refine abs (R := fun W => Code.wp _ _ _ _ W) (fun W => Below w.heap.size w W ∧ Blk W w.heap.size 23 [.string s, .int .i64 part, .int .i64 n])
    ⟨by go_grown, Blk.new _ _ _⟩ ?_
  rintro w0 ⟨hw0, hA⟩
  have a0 := hA.cell 0 rfl
  have a1 := hA.cell 1 rfl
  have a2 := hA.cell 2 rfl
  have al := hA.lt
  refine wp_region_B
    [(0, true), (2, true), (3, true), (4, true), (5, true), (6, true), (1, false), (7, false), (8, false), (9, false), (10, true)]
    (by kernel_rfl) (by kernel_rfl) (fun c a d v w h => by cases d <;> exact h) (fun hS1 => ?_)
  repeat (first
    | (refine wpS_nil ?_)
    | (refine wpS_skip (o := ⟨_, _, _, _, _, _⟩) rfl ?_ ?_; (focus rfl); simp only [Act.put, List.setIfInBounds_toArray, List.set_cons_zero, List.set_cons_succ])
    | (refine wpS_lightB (o := ⟨_, _, _, _, _, _⟩) (v := ?_) rfl ?_ (fun w' hS' => ?_) ?_; rotate_left; (focus rfl); (focus (go_simp; try with_reducible rfl)); simp only [Act.put, List.setIfInBounds_toArray, List.set_cons_zero, List.set_cons_succ])
    | (refine wpS_heavyB hS1 (o := ⟨_, _, _, _, _, _⟩) rfl ?_ (fun K hK => ?_); (focus rfl)
       go_wp2_with (first
         | (go_at_call 12; refine (check_any s part n _ hs').mono ?_; rintro e w1 ⟨rfl, hb1⟩)
         | (go_at_call 36; refine (when_any _ _ _).mono ?_; rintro e w1 ⟨rfl, rfl⟩)
         | (go_at_call 35; refine (first2 _ _ _ _ _ (Blk.new' rfl _ _)).mono ?_; rintro e w1 ⟨rfl, rfl⟩))
       refine ⟨?_, fun hS1 => ?_⟩
       · first | exact Below.refl _ _ | exact hb1 | exact (Below.refl _ _).alloc (Nat.le_refl _) _)
    | (refine wpS_hskip hS1 (o := ⟨_, _, _, _, _, _⟩) rfl ?_ ?_; (focus rfl); simp only [Act.put, List.setIfInBounds_toArray, List.set_cons_zero, List.set_cons_succ]))
  refine abs (R := fun W => Exit.then _ _ _ _ W) (fun W => Below w.heap.size w W ∧ Blk W w.heap.size 23 [.string s, .int .i64 part, .int .i64 n])
    ⟨hw0.trans (hS1.mono hw0.size), hA.belowS hS1⟩ ?_
  rintro w2 ⟨hw2, hA2⟩
  have d0 := hA2.cell 0 rfl
  have d1 := hA2.cell 1 rfl
  have d2 := hA2.cell 2 rfl
  have dl := hA2.lt
  go_wp2_with (first
    | (go_at_call 37; refine (opened_any s part n _ hp0 hp2).mono ?_; rintro e w3 ⟨rfl, rfl⟩))
  refine (put_any s part n (8 - n) 1 T (w2.heap.size + 1) (w2.heap.size + 2) 1 _ (by omega) hp0 hp2 hn0 hn1 (by omega) (by omega) HT.out ?_ ?_).mono ?_
  · exact (Blk.new' (by simp) _ _).alloc _
  · exact Blk.new' (by simp) _ _
  rintro e w4 ⟨rfl, hg4, hB4⟩
  have hb4 : Below w2.heap.size w2 w4 := Below.grown (by go_grown) hg4 (by simp; omega) (fun g h => by cases h; omega)
  have hw4 := hw2.trans (hb4.mono hw2.size)
  rw [show n + (8 - n) = 8 by omega, show (8 : Int).toNat / 8 = 1 by decide] at hB4
  have x0 := hB4.cell 0 rfl
  clear hg4 hb4
  go_wp2
  go_ret2
  refine ⟨?_, hw4⟩
  simp [emit]

theorem Done_all (s : ByteArray) (part n : Int) (w : World) (hs : s.size ≤ 1048577) :
    Calls Try.prog 14 #[.agg #[.string s, .int .i64 part, .int .i64 n]] w fun e w' => e = .returned (.tuple #[.string (doneS s part n), .int .i64 (doneE s.size part n)]) ∧ Below w.heap.size w w' := by
  by_cases h : doneE s.size part n = 0
  · rw [doneS, if_pos h, h]; exact Done_ok s part n w hs h
  · rw [doneS, if_neg h]; exact Done_bad s part n w hs (by simpa using h)

set_option maxHeartbeats 800000 in
theorem rDone_chk (s : ByteArray) (part n : Int) (w : World) (hs : s.size ≤ 1048577) (hc : (chk s.size part n != 0) = true) :
    Calls Try.prog 15 #[.agg #[.string s, .int .i64 part, .int .i64 n]] w fun e w' => e = .returned (.tuple #[.string ⟨#[]⟩, .int .i64 (chk s.size part n)]) ∧ Below w.heap.size w w' := by
  have hs' : s.size ≤ maxLen := by unfold maxLen; omega
  go_enter Try.func15, Try.ntmps15
  go_wp2_with (first
    | (go_at_call 13; refine (rcheck_any s part n _ hs').mono ?_; rintro e w1 ⟨rfl, hb1⟩; have hz1 := hb1.size; have hw1 : Below w.heap.size w w1 := Below.trans (by go_grown) (hb1.mono (by simp))))
  go_ret2
  exact ⟨rfl, hw1⟩

set_option maxHeartbeats 800000 in
theorem rDone_long (s : ByteArray) (part n : Int) (w : World) (hs : s.size ≤ 1048577) (hc : chk s.size part n = 0) (hl : ((s.size : Int) == 1048576) = true) :
    Calls Try.prog 15 #[.agg #[.string s, .int .i64 part, .int .i64 n]] w fun e w' => e = .returned (.tuple #[.string ⟨#[]⟩, .int .i64 4]) ∧ Below w.heap.size w w' := by
  have hs' : s.size ≤ maxLen := by unfold maxLen; omega
  go_enter Try.func15, Try.ntmps15
  go_wp2_with (first
    | (go_at_call 13; refine (rcheck_any s part n _ hs').mono ?_; rintro e w1 ⟨rfl, hb1⟩; have hA := (Blk.new w 23 [.string s, .int .i64 part, .int .i64 n]).belowS hb1; have a0 := hA.cell 0 rfl; have a1 := hA.cell 1 rfl; have a2 := hA.cell 2 rfl; have al := hA.lt; have hw1 : Below w.heap.size w w1 := Below.trans (by go_grown) (hb1.mono (by simp))))
  go_ret2
  exact ⟨rfl, hw1⟩

set_option maxHeartbeats 800000 in
theorem rDone_ok (s : ByteArray) (p N : Nat) (B : UInt8) (w : World) (hs : s.size ≤ 1048577) (hc : chk s.size p N = 0) (hl : s.size < 1048576) (hN : N ≤ 7) (hp : p < 256) (hB : B = UInt8.ofNat (p + 2 ^ N)) :
    Calls Try.prog 15 #[.agg #[.string s, .int .i64 p, .int .i64 N]] w fun e w' => e = .returned (.tuple #[.string ⟨(s.data.toList ++ [B]).toArray⟩, .int .i64 0]) ∧ Below w.heap.size w w' := by
  have hs' : s.size ≤ maxLen := by unfold maxLen; omega
  obtain ⟨D, hD⟩ : ∃ D : Nat, (2 : Int) ^ N = (D : Int) := ⟨2 ^ N, by simp⟩
  have hD1 : D = 2 ^ N := by have : (D : Int) = ((2 ^ N : Nat) : Int) := by rw [← hD]; simp
                             omega
  have hD128 : D ≤ 128 := by have := pow_le_of (show N ≤ 7 by omega); omega
  rw [← hD1] at hB
  have hBn : IntKind.u8.wrap ((p : Int) + D) = (B.toNat : Int) := by rw [hB]; exact u8_ofNat (p + D)
  clear hB hD1
  go_enter Try.func15, Try.ntmps15
  go_wp2_with (first
    | (go_at_call 13; refine (rcheck_any s p N _ hs').mono ?_; rintro e w1 ⟨rfl, hb1⟩; have hA := (Blk.new w 23 [.string s, .int .i64 p, .int .i64 N]).belowS hb1; have a0 := hA.cell 0 rfl; have a1 := hA.cell 1 rfl; have a2 := hA.cell 2 rfl; have al := hA.lt; have hw1 : Below w.heap.size w w1 := Below.trans (by go_grown) (hb1.mono (by simp)))
    | (with_reducible refine wpList_string_O (o := ⟨some 25, _, _, _, _, _⟩) rfl 42 9 (.tmp 24) rfl 5 _ _ _ [B] rfl Try.underlying42 Try.underlying5 Try.underlying9 rfl ?_ ?_))
  · refine newb _ _ B rfl _ _ ?_; simp
  go_wp2
  go_ret2
  refine ⟨?_, ?_⟩
  · exact congrArg (fun x => Ending.returned (Value.tuple #[Value.string x, Value.int .i64 0])) (str_ext s s [] B (by simp))
  · go_grown

theorem rDone_all (s : ByteArray) (part n : Int) (w : World) (hs : s.size ≤ 1048577) :
    Calls Try.prog 15 #[.agg #[.string s, .int .i64 part, .int .i64 n]] w fun e w' => e = .returned (.tuple #[.string (doneS s part n), .int .i64 (doneE s.size part n)]) ∧ Below w.heap.size w w' := by
  by_cases hc : chk s.size part n = 0
  · by_cases hl : s.size = 1048576
    · have e : doneE s.size part n = 4 := by rw [doneE, hc, hl]; rfl
      rw [doneS, if_neg (by rw [e]; decide), e]
      exact rDone_long s part n w hs hc (by rw [hl]; rfl)
    · obtain ⟨hn0, hn1, hp0, hp1, hl0⟩ := chk_ok hc
      have e : doneE s.size part n = 0 := by
        rw [doneE, hc, decide_eq_false (by omega)]; rfl
      rw [doneS, if_pos e, e]
      obtain ⟨p, rfl⟩ := Int.eq_ofNat_of_zero_le hp0
      obtain ⟨N, rfl⟩ := Int.eq_ofNat_of_zero_le hn0
      have hp2 : p < 256 := by
        have h1 := pow_le_of (show N ≤ 7 by omega)
        have h : (2 : Int) ^ (N : Int).toNat = ((2 ^ N : Nat) : Int) := by simp
        omega
      exact rDone_ok s p N _ w hs hc (by omega) (by omega) hp2 rfl
  · have hc' : (chk s.size part n != 0) = true := by simpa using hc
    have e : doneE s.size part n = chk s.size part n := by rw [doneE]; simp [firstNZ, hc]
    rw [doneS, if_neg (by rw [e]; exact hc), e]
    exact rDone_chk s part n w hs hc'

end Go.Proofs.Ytlmoenjggggpkaa
namespace Go.Proofs.Ytlmoenjggggpkaa
open Go.RowKit Go.Chz
set_option linter.unusedVariables false

def ren126 : Go.Shelf.Ren := ⟨fun x => if x = 126 then 43 else 0, fun x => x, fun x => x⟩
set_option maxRecDepth 1000000 in
theorem lays126 : Lays.n126 Try.prog ren126 :=
  ⟨by kernel_rfl, Try.func43, Try.underlying3, Try.isAgg3, Try.sizeOf3, Try.zeroValue3, Try.underlying5, Try.isAgg5, Try.sizeOf5, Try.zeroValue5, Try.underlying9, Try.isAgg9, Try.sizeOf9, Try.zeroValue9⟩

theorem Len8_any (x : Int) (w : World) (h0 : 0 ≤ x) (h1 : x ≤ 255) :
    Calls Try.prog 43 #[.int .u8 x] w fun e w' => e = .returned (.int .i64 (Lib.bitLen x.toNat)) ∧ w' = w := Any.bits_Len8 lays126 x w h0 h1

theorem long_any (s : ByteArray) (w : World) (hs : s.size ≤ maxLen) :
    Calls Try.prog 39 #[.agg #[.string s]] w fun e w' => e = .returned (.bool (decide (1048576 < (s.size : Int)))) ∧ Below w.heap.size w w' := by
  go_enter Try.func39, Try.ntmps39
  go_wp2
  go_ret
  exact ⟨rfl, by go_grown⟩

def sizeV (s : ByteArray) : Int := if h : 0 < s.size then if (s[s.size - 1]'(by omega)).toNat = 0 then -1 else 8 * ((s.size : Int) - 1) + (Lib.bitLen (s[s.size - 1]'(by omega)).toNat : Int) - 1 else -1

theorem size_nil (w : World) :
    Calls Try.prog 40 #[.agg #[.string ⟨#[]⟩]] w fun e w' => e = .returned (.int .i64 (-1)) ∧ Below w.heap.size w w' := by
  go_enter Try.func40, Try.ntmps40
  go_wp2
  go_ret
  exact ⟨rfl, by go_grown⟩

theorem isE (s : ByteArray) (h : 0 < s.size) : s.toList.isEmpty = false := by
  rw [ByteArray.toList_eq]; cases hl : s.data.toList with
  | nil => have h2 : s.data.toList.length = s.size := by simp
           rw [hl] at h2; simp at h2; omega
  | cons _ _ => rfl

theorem size_zero (s : ByteArray) (w : World) (hs : s.size ≤ 1048577) (h0 : 0 < s.size) (hb : ((s[s.size - 1].toNat : Int) == 0) = true) :
    Calls Try.prog 40 #[.agg #[.string s]] w fun e w' => e = .returned (.int .i64 (-1)) ∧ Below w.heap.size w w' := by
  have he := isE s h0
  have hi : 1 ≤ (s.size : Int) ∧ (s.size : Int) - 1 < s.size := by omega
  go_enter Try.func40, Try.ntmps40
  go_wp2
  go_ret
  exact ⟨rfl, by go_grown⟩

set_option maxHeartbeats 400000 in
theorem size_pos (s : ByteArray) (b : UInt8) (w : World) (hs : s.size ≤ 1048577) (h0 : 0 < s.size) (hb : s[s.size - 1] = b) (hb0 : ((b.toNat : Int) == 0) = false) :
    Calls Try.prog 40 #[.agg #[.string s]] w fun e w' => e = .returned (.int .i64 (8 * ((s.size : Int) - 1) + (Lib.bitLen b.toNat : Int) - 1)) ∧ Below w.heap.size w w' := by
  have he := isE s h0
  have hi : 1 ≤ (s.size : Int) ∧ (s.size : Int) - 1 < s.size := by omega
  have hbl := b.toNat_lt
  have hL : Lib.bitLen b.toNat ≤ 8 := by
    exact Lib.bitLen_le8 ⟨b.toNat, hbl⟩
  go_enter Try.func40, Try.ntmps40
  go_wp2
  refine abs (R := fun W => Code.wp _ _ _ _ W) (fun W => Below w.heap.size w W ∧ Blk W w.heap.size 65 [.string s])
    ⟨by go_grown, Blk.new _ _ _⟩ ?_
  rintro w0 ⟨hw0, hA⟩
  have a0 := hA.cell 0 rfl
  have al := hA.lt
  refine wp_region_B
    [(0, true), (1, true), (2, true), (3, true), (4, true), (5, true), (6, true), (7, true), (8, true), (9, true), (10, true), (11, false), (12, false), (13, true), (14, true), (15, true)]
    (by kernel_rfl) (by kernel_rfl) (fun c a d v w h => by cases d <;> exact h) (fun hS1 => ?_)
  repeat (first
    | (refine wpS_nil ?_)
    | (refine wpS_skip (o := ⟨_, _, _, _, _, _⟩) rfl ?_ ?_; (focus rfl); simp only [Act.put, List.setIfInBounds_toArray, List.set_cons_zero, List.set_cons_succ])
    | (refine wpS_lightB (o := ⟨_, _, _, _, _, _⟩) (v := ?_) rfl ?_ (fun w' hS' => ?_) ?_; rotate_left; (focus rfl); (focus (go_simp; try with_reducible rfl)); simp only [Act.put, List.setIfInBounds_toArray, List.set_cons_zero, List.set_cons_succ])
    | (refine wpS_heavyB hS1 (o := ⟨_, _, _, _, _, _⟩) rfl ?_ (fun K hK => ?_); (focus rfl)
       go_wp2_with (first
         | (go_at_call 43; refine (Len8_any _ _ (by omega) (by omega)).mono ?_; rintro e w1 ⟨rfl, rfl⟩))
       refine ⟨?_, fun hS1 => ?_⟩
       · first | exact Below.refl _ _ | exact hb1 | exact (Below.refl _ _).alloc (Nat.le_refl _) _)
    | (refine wpS_hskip hS1 (o := ⟨_, _, _, _, _, _⟩) rfl ?_ ?_; (focus rfl); simp only [Act.put, List.setIfInBounds_toArray, List.set_cons_zero, List.set_cons_succ]))

  go_wp2
  go_ret
  refine ⟨?_, hw0.trans (hS1.mono hw0.size)⟩
  go_simp
  rw [IntWalk.i64_in ((s.size : Int) - 1) ⟨by omega, by omega⟩, IntWalk.i64_in (8 * ((s.size : Int) - 1)) ⟨by omega, by omega⟩, IntWalk.i64_in (8 * ((s.size : Int) - 1) + (Lib.bitLen b.toNat : Int)) ⟨by omega, by omega⟩, IntWalk.i64_in _ ⟨by omega, by omega⟩]

theorem nil_of_size (s : ByteArray) (h : ¬ 0 < s.size) : s = ⟨#[]⟩ := by
  apply ByteArray.ext
  have : s.data.size = 0 := by show s.size = 0; omega
  exact Array.eq_empty_of_size_eq_zero this

theorem size_any (s : ByteArray) (w : World) (hs : s.size ≤ 1048577) :
    Calls Try.prog 40 #[.agg #[.string s]] w fun e w' => e = .returned (.int .i64 (sizeV s)) ∧ Below w.heap.size w w' := by
  by_cases h0 : 0 < s.size
  · by_cases hb : (s[s.size - 1]'(by omega)).toNat = 0
    · rw [sizeV, dif_pos h0, if_pos hb]; exact size_zero s w hs h0 (by rw [hb]; rfl)
    · rw [sizeV, dif_pos h0, if_neg hb]; exact size_pos s _ w hs h0 rfl (by simpa using hb)
  · rw [sizeV, dif_neg h0]
    obtain rfl := nil_of_size s h0
    exact size_nil w

def bitsE (s : ByteArray) : Int := firstNZ [ifB (decide (1048576 < (s.size : Int))) 4, ifB (decide (sizeV s < 0)) 22]
def bitsN (s : ByteArray) : Int := if bitsE s = 0 then sizeV s else 0

theorem sizeV_le (s : ByteArray) : -1 ≤ sizeV s ∧ sizeV s ≤ 8 * s.size := by
  unfold sizeV
  split
  · rename_i h; split
    · omega
    · have := Lib.bitLen_le8 ⟨(s[s.size - 1]'(by omega)).toNat, (s[s.size - 1]'(by omega)).toNat_lt⟩
      simp only at this
      omega
  · omega

set_option maxHeartbeats 800000 in
theorem Bits_bad (s : ByteArray) (w : World) (hs : s.size ≤ 1048577) (hE : (bitsE s != 0) = true) :
    Calls Try.prog 18 #[.string s] w fun e w' => e = .returned (.tuple #[.int .i64 (bitsN s), .int .i64 (bitsE s)]) ∧ Below w.heap.size w w' := by
  have hP : firstNZ [ifB (decide (1048576 < (s.size : Int))) 4, ifB (decide (sizeV s < 0)) 22] = bitsE s := rfl
  have hs' : s.size ≤ maxLen := by unfold maxLen; omega
  go_enter Try.func18, Try.ntmps18
  go_wp2
  refine abs (R := fun W => Code.wp _ _ _ _ W) (fun W => Below w.heap.size w W ∧ Blk W w.heap.size 65 [.string s])
    ⟨by go_grown, Blk.new w 65 [.string s]⟩ ?_
  rintro w0 ⟨hw0, hA⟩
  have a0 := hA.cell 0 rfl
  have al := hA.lt
  refine wp_region_B
    [(0, true), (3, true), (1, false), (2, false), (4, false), (5, true), (6, false), (7, false), (8, false), (9, true)]
    (by kernel_rfl) (by kernel_rfl) (fun c a d v w h => by cases d <;> exact h) (fun hS1 => ?_)
  repeat (first
    | (refine wpS_nil ?_)
    | (refine wpS_skip (o := ⟨_, _, _, _, _, _⟩) rfl ?_ ?_; (focus rfl); simp only [Act.put, List.setIfInBounds_toArray, List.set_cons_zero, List.set_cons_succ])
    | (refine wpS_lightB (o := ⟨_, _, _, _, _, _⟩) (v := ?_) rfl ?_ (fun w' hS' => ?_) ?_; rotate_left; (focus rfl); (focus (go_simp; try with_reducible rfl)); simp only [Act.put, List.setIfInBounds_toArray, List.set_cons_zero, List.set_cons_succ])
    | (refine wpS_heavyB hS1 (o := ⟨_, _, _, _, _, _⟩) rfl ?_ (fun K hK => ?_); (focus rfl)
       go_wp2_with (first
         | (go_at_call 39; refine (long_any s _ hs').mono ?_; rintro e w1 ⟨rfl, hb1⟩)
         | (go_at_call 40; refine (size_any s _ hs).mono ?_; rintro e w1 ⟨rfl, hb1⟩)
         | (go_at_call 36; refine (when_any _ _ _).mono ?_; rintro e w1 ⟨rfl, rfl⟩)
         | (go_at_call 35; refine (first2 _ _ _ _ _ (Blk.new' rfl _ _)).mono ?_; rintro e w1 ⟨rfl, rfl⟩))
       refine ⟨?_, fun hS1 => ?_⟩
       · first | exact Below.refl _ _ | exact hb1 | exact (Below.refl _ _).alloc (Nat.le_refl _) _)
    | (refine wpS_hskip hS1 (o := ⟨_, _, _, _, _, _⟩) rfl ?_ ?_; (focus rfl); simp only [Act.put, List.setIfInBounds_toArray, List.set_cons_zero, List.set_cons_succ]))
  refine abs (R := fun W => Exit.then _ _ _ _ W) (fun W => Below w.heap.size w W ∧ Blk W w.heap.size 65 [.string s])
    ⟨hw0.trans (hS1.mono hw0.size), hA.belowS hS1⟩ ?_
  rintro w2 ⟨hw2, hA2⟩
  have b0 := hA2.cell 0 rfl
  have bl := hA2.lt
  go_wp2
  go_ret2
  refine ⟨?_, hw2⟩
  have e : bitsN s = 0 := if_neg (by simpa using hE)
  rw [e]; rfl

set_option maxHeartbeats 800000 in
theorem Bits_ok (s : ByteArray) (w : World) (hs : s.size ≤ 1048577) (hE : bitsE s = 0) :
    Calls Try.prog 18 #[.string s] w fun e w' => e = .returned (.tuple #[.int .i64 (bitsN s), .int .i64 (bitsE s)]) ∧ Below w.heap.size w w' := by
  have hP : firstNZ [ifB (decide (1048576 < (s.size : Int))) 4, ifB (decide (sizeV s < 0)) 22] = bitsE s := rfl
  have hs' : s.size ≤ maxLen := by unfold maxLen; omega
  go_enter Try.func18, Try.ntmps18
  go_wp2
  refine abs (R := fun W => Code.wp _ _ _ _ W) (fun W => Below w.heap.size w W ∧ Blk W w.heap.size 65 [.string s])
    ⟨by go_grown, Blk.new w 65 [.string s]⟩ ?_
  rintro w0 ⟨hw0, hA⟩
  have a0 := hA.cell 0 rfl
  have al := hA.lt
  refine wp_region_B
    [(0, true), (3, true), (1, false), (2, false), (4, false), (5, true), (6, false), (7, false), (8, false), (9, true)]
    (by kernel_rfl) (by kernel_rfl) (fun c a d v w h => by cases d <;> exact h) (fun hS1 => ?_)
  repeat (first
    | (refine wpS_nil ?_)
    | (refine wpS_skip (o := ⟨_, _, _, _, _, _⟩) rfl ?_ ?_; (focus rfl); simp only [Act.put, List.setIfInBounds_toArray, List.set_cons_zero, List.set_cons_succ])
    | (refine wpS_lightB (o := ⟨_, _, _, _, _, _⟩) (v := ?_) rfl ?_ (fun w' hS' => ?_) ?_; rotate_left; (focus rfl); (focus (go_simp; try with_reducible rfl)); simp only [Act.put, List.setIfInBounds_toArray, List.set_cons_zero, List.set_cons_succ])
    | (refine wpS_heavyB hS1 (o := ⟨_, _, _, _, _, _⟩) rfl ?_ (fun K hK => ?_); (focus rfl)
       go_wp2_with (first
         | (go_at_call 39; refine (long_any s _ hs').mono ?_; rintro e w1 ⟨rfl, hb1⟩)
         | (go_at_call 40; refine (size_any s _ hs).mono ?_; rintro e w1 ⟨rfl, hb1⟩)
         | (go_at_call 36; refine (when_any _ _ _).mono ?_; rintro e w1 ⟨rfl, rfl⟩)
         | (go_at_call 35; refine (first2 _ _ _ _ _ (Blk.new' rfl _ _)).mono ?_; rintro e w1 ⟨rfl, rfl⟩))
       refine ⟨?_, fun hS1 => ?_⟩
       · first | exact Below.refl _ _ | exact hb1 | exact (Below.refl _ _).alloc (Nat.le_refl _) _)
    | (refine wpS_hskip hS1 (o := ⟨_, _, _, _, _, _⟩) rfl ?_ ?_; (focus rfl); simp only [Act.put, List.setIfInBounds_toArray, List.set_cons_zero, List.set_cons_succ]))
  refine abs (R := fun W => Exit.then _ _ _ _ W) (fun W => Below w.heap.size w W ∧ Blk W w.heap.size 65 [.string s])
    ⟨hw0.trans (hS1.mono hw0.size), hA.belowS hS1⟩ ?_
  rintro w2 ⟨hw2, hA2⟩
  have b0 := hA2.cell 0 rfl
  have bl := hA2.lt
  go_wp2_with (first
    | (go_at_call 40; refine (size_any s _ hs).mono ?_; rintro e w1 ⟨rfl, hb1⟩))
  go_ret2
  refine ⟨?_, hw2.trans (hb1.mono hw2.size)⟩
  have e : bitsN s = sizeV s := if_pos hE
  rw [e, hE]; rfl

theorem Bits_any (s : ByteArray) (w : World) (hs : s.size ≤ 1048577) :
    Calls Try.prog 18 #[.string s] w fun e w' => e = .returned (.tuple #[.int .i64 (bitsN s), .int .i64 (bitsE s)]) ∧ Below w.heap.size w w' := by
  by_cases h : bitsE s = 0
  · exact Bits_ok s w hs h
  · exact Bits_bad s w hs (by simpa using h)

end Go.Proofs.Ytlmoenjggggpkaa
namespace Go.Proofs.Ytlmoenjggggpkaa
open Go.RowKit Go.Chz
set_option linter.unusedVariables false

def putS (s : ByteArray) (part n k v : Int) : ByteArray := if putE s.size part n k v = 0 then ⟨(s.data.toList ++ emit (part.toNat + v.toNat * 2 ^ n.toNat) ((n + k).toNat / 8)).toArray⟩ else ⟨#[]⟩
def putP (s : ByteArray) (part n k v : Int) : Int := if putE s.size part n k v = 0 then (((part.toNat + v.toNat * 2 ^ n.toNat) / 256 ^ ((n + k).toNat / 8) : Nat) : Int) else 0
def putN (s : ByteArray) (part n k v : Int) : Int := if putE s.size part n k v = 0 then (n + k) % 8 else 0
theorem putV_eq (s : ByteArray) (part n k v : Int) : putV s part n k v = .tuple #[.agg #[.string (putS s part n k v), .int .i64 (putP s part n k v), .int .i64 (putN s part n k v)], .int .i64 (putE s.size part n k v)] := by
  unfold putV putS putP putN
  by_cases h : putE s.size part n k v = 0
  · simp only [h, if_true]
  · simp only [if_neg h]

theorem Put_c (s : ByteArray) (part n k v : Int) (w : World) (hs : s.size ≤ 1048577) (hv : 0 ≤ v) :
    Calls Try.prog 10 #[.agg #[.string s, .int .i64 part, .int .i64 n], .int .i64 k, .int .u64 v] w fun e w' => e = .returned (.tuple #[.agg #[.string (putS s part n k v), .int .i64 (putP s part n k v), .int .i64 (putN s part n k v)], .int .i64 (putE s.size part n k v)]) ∧ Below w.heap.size w w' := by
  rw [← putV_eq]; exact Put_all s part n k v w hs hv
theorem rPut_c (s : ByteArray) (part n k v : Int) (w : World) (hs : s.size ≤ 1048577) (hv : 0 ≤ v) :
    Calls Try.prog 11 #[.agg #[.string s, .int .i64 part, .int .i64 n], .int .i64 k, .int .u64 v] w fun e w' => e = .returned (.tuple #[.agg #[.string (putS s part n k v), .int .i64 (putP s part n k v), .int .i64 (putN s part n k v)], .int .i64 (putE s.size part n k v)]) ∧ Below w.heap.size w w' := by
  rw [← putV_eq]; exact rPut_all s part n k v w hs hv

set_option maxHeartbeats 800000 in
/-- the law's own put, where it succeeds -/
theorem lput_ok (s : ByteArray) (part n k v : Int) (w : World) (hs : s.size ≤ 1048577) (hv : 0 ≤ v) (hE : putE s.size part n k v = 0) :
    Calls Try.prog 24 #[.agg #[.string s, .int .i64 part, .int .i64 n], .int .i64 k, .int .u64 v] w fun e w' => e = .returned (.agg #[.string (putS s part n k v), .int .i64 (putP s part n k v), .int .i64 (putN s part n k v)]) ∧ Below w.heap.size w w' := by
  go_enter Try.func24, Try.ntmps24
  go_wp2_with (first
    | (go_at_call 10; refine (Put_c s part n k v _ hs hv).mono ?_; rintro e w1 ⟨rfl, hb1⟩; have hR := (Blk.new' (w := w.alloc (.cells #[.string s, .int .i64 part, .int .i64 n] 23)) (H := w.heap.size + 1) (by simp) 23 [.string ⟨#[]⟩, .int .i64 0, .int .i64 0]).belowS hb1; have hw1 : Below w.heap.size w w1 := Below.trans (by go_grown) (hb1.mono (by simp; omega)); have r0 := hR.cell 0 rfl; have r1 := hR.cell 1 rfl; have r2 := hR.cell 2 rfl; have g0 := hR.frozen 0; have g1 := hR.frozen 1; have g2 := hR.frozen 2; have hRl := hR.lt))
  refine bodyPost_ret (v := .agg #[.string (putS s part n k v), .int .i64 (putP s part n k v), .int .i64 (putN s part n k v)]) (results_1 rfl (res_cell (t := 23) (cs := [.string (putS s part n k v), .int .i64 (putP s part n k v), .int .i64 (putN s part n k v)]) rfl ((((hR.set 0 _).set 1 _).set 2 _).alloc _) Try.underlying23 rfl (by kernel_rfl))) rfl ⟨rfl, ?_⟩
  go_grown

set_option maxHeartbeats 800000 in
/-- the law's own put, where it fails -/
theorem lput_no (s : ByteArray) (part n k v : Int) (w : World) (hs : s.size ≤ 1048577) (hv : 0 ≤ v) (hE : (putE s.size part n k v == 0) = false) :
    Calls Try.prog 24 #[.agg #[.string s, .int .i64 part, .int .i64 n], .int .i64 k, .int .u64 v] w fun e w' => e = .returned (.agg #[.string s, .int .i64 part, .int .i64 n]) ∧ Below w.heap.size w w' := by
  go_enter Try.func24, Try.ntmps24
  go_wp2_with (first
    | (go_at_call 10; refine (Put_c s part n k v _ hs hv).mono ?_; rintro e w1 ⟨rfl, hb1⟩; have hA := ((Blk.new w 23 [.string s, .int .i64 part, .int .i64 n]).alloc (.cells #[.string ⟨#[]⟩, .int .i64 0, .int .i64 0] 23)).belowS hb1; have hR := (Blk.new' (w := w.alloc (.cells #[.string s, .int .i64 part, .int .i64 n] 23)) (H := w.heap.size + 1) (by simp) 23 [.string ⟨#[]⟩, .int .i64 0, .int .i64 0]).belowS hb1; have hw1 : Below w.heap.size w w1 := Below.trans (by go_grown) (hb1.mono (by simp; omega)); have r0 := hR.cell 0 rfl; have r1 := hR.cell 1 rfl; have r2 := hR.cell 2 rfl; have g0 := hR.frozen 0; have g1 := hR.frozen 1; have g2 := hR.frozen 2; have hRl := hR.lt; have a0 := hA.cell 0 rfl; have a1 := hA.cell 1 rfl; have a2 := hA.cell 2 rfl; have hAl := hA.lt))
  refine bodyPost_ret (v := .agg #[.string s, .int .i64 part, .int .i64 n]) (results_1 rfl (res_cell (t := 23) (cs := [.string s, .int .i64 part, .int .i64 n]) rfl ((((hR.set 0 _).set 1 _).set 2 _).alloc _) Try.underlying23 rfl (by kernel_rfl))) rfl ⟨rfl, ?_⟩
  go_grown

set_option maxHeartbeats 800000 in
theorem ends_ok (s t : ByteArray) (part n : Int) (w : World) (hs : s.size ≤ 1048577) (ht : doneS s part n = t) (hE : doneE s.size part n = 0) :
    Calls Try.prog 23 #[.agg #[.string s, .int .i64 part, .int .i64 n], .string t] w fun e w' => e = .returned (.bool true) ∧ Below w.heap.size w w' := by
  have hc : ∀ w, Calls Try.prog 14 #[.agg #[.string s, .int .i64 part, .int .i64 n]] w fun e w' => e = .returned (.tuple #[.string t, .int .i64 0]) ∧ Below w.heap.size w w' := by
    intro w; have h := Done_all s part n w hs; rw [ht, hE] at h; exact h
  clear ht hE
  go_enter Try.func23, Try.ntmps23
  go_wp2_with (first
    | (go_at_call 14; refine (hc _).mono ?_; rintro e w1 ⟨rfl, hb1⟩; have hw1 : Below w.heap.size w w1 := Below.trans (by go_grown) (hb1.mono (by simp))))
  go_ret
  exact ⟨rfl, hw1⟩

theorem bits13 : bitsN ⟨#[13]⟩ = 3 ∧ bitsE ⟨#[13]⟩ = 0 := by decide +kernel
theorem Bits13 (w : World) : Calls Try.prog 18 #[.string ⟨#[13]⟩] w fun e w' => e = .returned (.tuple #[.int .i64 3, .int .i64 0]) ∧ Below w.heap.size w w' := by
  have h := Bits_any ⟨#[13]⟩ w (by decide); rw [bits13.1, bits13.2] at h; exact h
theorem lput_at {s t : ByteArray} {part n k v a b : Int} (w : World) (hs : s.size ≤ 1048577) (hv : 0 ≤ v) (h : putE s.size part n k v = 0 ∧ putS s part n k v = t ∧ putP s part n k v = a ∧ putN s part n k v = b) :
    Calls Try.prog 24 #[.agg #[.string s, .int .i64 part, .int .i64 n], .int .i64 k, .int .u64 v] w fun e w' => e = .returned (.agg #[.string t, .int .i64 a, .int .i64 b]) ∧ Below w.heap.size w w' := by
  obtain ⟨h1, rfl, rfl, rfl⟩ := h
  exact lput_ok s part n k v w hs hv h1

theorem put35 (w : World) : Calls Try.prog 24 #[.agg #[.string ⟨#[]⟩, .int .i64 0, .int .i64 0], .int .i64 3, .int .u64 5] w fun e w' => e = .returned (.agg #[.string ⟨#[]⟩, .int .i64 5, .int .i64 3]) ∧ Below w.heap.size w w' :=
  lput_at w (by decide) (by decide) (by decide +kernel)
theorem put41 (w : World) : Calls Try.prog 24 #[.agg #[.string ⟨#[]⟩, .int .i64 0, .int .i64 0], .int .i64 4, .int .u64 1] w fun e w' => e = .returned (.agg #[.string ⟨#[]⟩, .int .i64 1, .int .i64 4]) ∧ Below w.heap.size w w' :=
  lput_at w (by decide) (by decide) (by decide +kernel)
theorem put633 (w : World) : Calls Try.prog 24 #[.agg #[.string ⟨#[]⟩, .int .i64 1, .int .i64 4], .int .i64 6, .int .u64 33] w fun e w' => e = .returned (.agg #[.string ⟨#[17]⟩, .int .i64 2, .int .i64 2]) ∧ Below w.heap.size w w' :=
  lput_at w (by decide) (by decide) (by decide +kernel)
theorem ends13 (w : World) : Calls Try.prog 23 #[.agg #[.string ⟨#[]⟩, .int .i64 5, .int .i64 3], .string ⟨#[13]⟩] w fun e w' => e = .returned (.bool true) ∧ Below w.heap.size w w' :=
  ends_ok _ _ _ _ w (by decide) (by decide +kernel) (by decide +kernel)
theorem ends176 (w : World) : Calls Try.prog 23 #[.agg #[.string ⟨#[17]⟩, .int .i64 2, .int .i64 2], .string ⟨#[17, 6]⟩] w fun e w' => e = .returned (.bool true) ∧ Below w.heap.size w w' :=
  ends_ok _ _ _ _ w (by decide) (by decide +kernel) (by decide +kernel)

set_option maxHeartbeats 1600000 in
theorem awake_any (w : World) : Calls Try.prog 9 #[] w fun e w' => e = .returned (.bool true) ∧ Below w.heap.size w w' := by
  go_enter Try.func9, Try.ntmps9
  go_wp2_with (first
    | (go_at_call 18; refine (Bits13 _).mono ?_; rintro e w1 ⟨rfl, hb1⟩; have hA1 := (Blk.new w 23 [.string ⟨#[]⟩, .int .i64 0, .int .i64 0]).belowS hb1; have hw1 : Below w.heap.size w w1 := Below.trans (by go_grown) (hb1.mono (by simp)); have a0 := hA1.cell 0 rfl; have a1 := hA1.cell 1 rfl; have a2 := hA1.cell 2 rfl; have hAl := hA1.lt; clear hb1))
  · refine (put35 _).mono ?_; rintro e w2 ⟨rfl, hb1⟩; have hA2 := hA1.belowS hb1; have hw2 := hw1.trans (hb1.mono hw1.size); have a0 := hA2.cell 0 rfl; have a1 := hA2.cell 1 rfl; have a2 := hA2.cell 2 rfl; have hAl := hA2.lt; clear hb1
    go_wp2_with (first | (go_at_call 23; refine (ends13 _).mono ?_; rintro e w3 ⟨rfl, hb1⟩; have hA3 := hA2.belowS hb1; have hw3 := hw2.trans (hb1.mono hw2.size); have a0 := hA3.cell 0 rfl; have a1 := hA3.cell 1 rfl; have a2 := hA3.cell 2 rfl; have hAl := hA3.lt; clear hb1))
    refine (put41 _).mono ?_; rintro e w4 ⟨rfl, hb1⟩; have hA4 := hA3.belowS hb1; have hw4 := hw3.trans (hb1.mono hw3.size); have a0 := hA4.cell 0 rfl; have a1 := hA4.cell 1 rfl; have a2 := hA4.cell 2 rfl; have hAl := hA4.lt; clear hb1
    go_wp2_with (first | (go_at_call 24; refine (put633 _).mono ?_; rintro e w5 ⟨rfl, hb1⟩; have hA5 := hA4.belowS hb1; have hw5 := hw4.trans (hb1.mono hw4.size); have a0 := hA5.cell 0 rfl; have a1 := hA5.cell 1 rfl; have a2 := hA5.cell 2 rfl; have hAl := hA5.lt; clear hb1) | (go_at_call 23; refine (ends176 _).mono ?_; rintro e w6 ⟨rfl, hb1⟩; have hA6 := hA5.belowS hb1; have hw6 := hw5.trans (hb1.mono hw5.size); have a0 := hA6.cell 0 rfl; have a1 := hA6.cell 1 rfl; have a2 := hA6.cell 2 rfl; have hAl := hA6.lt; clear hb1))
    go_ret
    exact ⟨rfl, hw6⟩
end Go.Proofs.Ytlmoenjggggpkaa
namespace Go.Proofs.Ytlmoenjggggpkaa
open Go.RowKit Go.Chz
set_option linter.unusedVariables false

theorem bit_test : ∀ b : Fin 256, ∀ j : Fin 8, Lib.bitLen b.val ≤ j.val + 1 → (bits BinOp.and IntKind.u8 ((b.val : Int) / 2 ^ j.val) 1 == 0) = decide (Lib.bitLen b.val ≤ j.val) := by decide +kernel
theorem bitLen_pos : ∀ b : Fin 256, b.val ≠ 0 → 1 ≤ Lib.bitLen b.val := by decide +kernel

set_option maxHeartbeats 800000 in
theorem rBits_ok (s : ByteArray) (b : UInt8) (w : World) (hs : s.size ≤ 1048576) (h0 : 0 < s.size) (hb : s[s.size - 1] = b) (hb0 : ((b.toNat : Int) == 0) = false) :
    Calls Try.prog 29 #[.string s] w fun e w' => e = .returned (.tuple #[.int .i64 (8 * ((s.size : Int) - 1) + (Lib.bitLen b.toNat : Int) - 1), .int .i64 0]) ∧ Below w.heap.size w w' := by
  have he := isE s h0
  have hi : 1 ≤ (s.size : Int) ∧ (s.size : Int) - 1 < s.size := by omega
  have hbl := b.toNat_lt
  have hL : Lib.bitLen b.toNat ≤ 8 := Lib.bitLen_le8 ⟨b.toNat, hbl⟩
  have hL0 : 1 ≤ Lib.bitLen b.toNat := by
    exact bitLen_pos ⟨b.toNat, hbl⟩ (by simpa using hb0)
  go_enter Try.func29, Try.ntmps29
  go_wp2
  go_loopg [4] 7 (fun q i wr => ∃ j : Nat, q = j ∧ i = .int .i64 (8 * ((s.size : Int) - 1) + (j : Int)) ∧ j ≤ 7 ∧ Hid (Lib.bitLen b.toNat ≤ j + 1) ∧ wr = w)
  case atStart =>
    exact ⟨7, rfl, by congr 1; omega, by omega, hL, rfl⟩
  case round =>
    obtain ⟨j, rfl, rfl, hj, hbj, rfl⟩ := hrel
    have hq : (8 * ((s.size : Int) - 1) + (gk : Int)).tdiv 8 = (s.size : Int) - 1 := by rw [Int.tdiv_eq_ediv_of_nonneg (by omega)]; omega
    have hr : (8 * ((s.size : Int) - 1) + (gk : Int)).tmod 8 = (gk : Int) := by rw [Int.tmod_eq_emod_of_nonneg (by omega)]; omega
    have hi2 : 0 ≤ (s.size : Int) - 1 ∧ (s.size : Int) - 1 < s.size := by omega
    have hbt := bit_test ⟨b.toNat, hbl⟩ ⟨gk, by omega⟩ hbj.out
    by_cases hend : Lib.bitLen b.toNat ≤ gk
    · rw [decide_eq_true hend] at hbt
      have hbt' : (bits BinOp.and IntKind.u8 ((b.toNat : Int) / 2 ^ gk) 1 == 0) = true := hbt
      have HE := Lib.hid hend
      clear hend hbt
      go_wp2
      go_roundg (gk - 1)
      case measure => have := HE.out; omega
      case rel =>
        have := HE.out
        exact ⟨gk - 1, rfl, by congr 1; omega, by omega, by show _ ≤ _; omega, rfl⟩
    · have e : (gk : Int) = (Lib.bitLen b.toNat : Int) - 1 := by have := hbj.out; omega
      rw [decide_eq_false hend] at hbt
      have hbt' : (bits BinOp.and IntKind.u8 ((b.toNat : Int) / 2 ^ gk) 1 == 0) = false := hbt
      have HE := Lib.hid e
      clear hend hbt e
      go_wp2
      go_ret2
      refine ⟨?_, Below.refl _ _⟩
      have e := HE.out
      refine congrArg (fun x => Ending.returned (Value.tuple #[Value.int .i64 x, Value.int .i64 0])) (?_ : 8 * ((s.size : Int) - 1) + (gk : Int) = _)
      omega

theorem rBits_long (s : ByteArray) (w : World) (hs : (s.size : Int) ≤ 9223372036854775807) (h : decide (1048576 < (s.size : Int)) = true) :
    Calls Try.prog 29 #[.string s] w fun e w' => e = .returned (.tuple #[.int .i64 0, .int .i64 4]) ∧ Below w.heap.size w w' := by
  go_enter Try.func29, Try.ntmps29
  go_wp2
  go_ret2
  exact ⟨rfl, Below.refl _ _⟩
theorem rBits_nil (w : World) :
    Calls Try.prog 29 #[.string ⟨#[]⟩] w fun e w' => e = .returned (.tuple #[.int .i64 0, .int .i64 22]) ∧ Below w.heap.size w w' := by
  go_enter Try.func29, Try.ntmps29
  go_wp2
  go_ret2
  exact ⟨rfl, Below.refl _ _⟩
theorem rBits_zero (s : ByteArray) (w : World) (hs : s.size ≤ 1048576) (h0 : 0 < s.size) (hb : ((s[s.size - 1].toNat : Int) == 0) = true) :
    Calls Try.prog 29 #[.string s] w fun e w' => e = .returned (.tuple #[.int .i64 0, .int .i64 22]) ∧ Below w.heap.size w w' := by
  have he := isE s h0
  have hi : 1 ≤ (s.size : Int) ∧ (s.size : Int) - 1 < s.size := by omega
  go_enter Try.func29, Try.ntmps29
  go_wp2
  go_ret2
  exact ⟨rfl, Below.refl _ _⟩

theorem sizeV_nil : sizeV ⟨#[]⟩ = -1 := by decide +kernel
theorem sizeV_pos (s : ByteArray) (h0 : 0 < s.size) (hb : ¬ (s[s.size - 1]'(by omega)).toNat = 0) : 0 ≤ sizeV s ∧ sizeV s = 8 * ((s.size : Int) - 1) + (Lib.bitLen (s[s.size - 1]'(by omega)).toNat : Int) - 1 := by
  have h2 := bitLen_pos ⟨(s[s.size - 1]'(by omega)).toNat, (s[s.size - 1]'(by omega)).toNat_lt⟩ hb
  have e : sizeV s = 8 * ((s.size : Int) - 1) + (Lib.bitLen (s[s.size - 1]'(by omega)).toNat : Int) - 1 := by rw [sizeV, dif_pos h0, if_neg hb]
  simp only at h2
  exact ⟨by omega, e⟩
theorem bitsE_val (s : ByteArray) : bitsE s = if 1048576 < s.size then 4 else if sizeV s < 0 then 22 else 0 := by
  unfold bitsE ifB
  by_cases h : 1048576 < s.size
  · rw [if_pos h, decide_eq_true (by omega)]; rfl
  · rw [if_neg h, decide_eq_false (by omega)]
    by_cases h2 : sizeV s < 0
    · rw [if_pos h2, decide_eq_true h2]; rfl
    · rw [if_neg h2, decide_eq_false h2]; rfl
theorem rBits_any (s : ByteArray) (w : World) (hs : s.size ≤ 1048577) :
    Calls Try.prog 29 #[.string s] w fun e w' => e = .returned (.tuple #[.int .i64 (bitsN s), .int .i64 (bitsE s)]) ∧ Below w.heap.size w w' := by
  have hE := bitsE_val s
  by_cases h : 1048576 < s.size
  · rw [if_pos h] at hE
    rw [bitsN, hE, if_neg (by decide)]
    exact rBits_long s w (by omega) (decide_eq_true (by omega))
  · rw [if_neg h] at hE
    by_cases h0 : 0 < s.size
    · by_cases hb : (s[s.size - 1]'(by omega)).toNat = 0
      · have e : sizeV s = -1 := by rw [sizeV, dif_pos h0, if_pos hb]
        rw [e, if_pos (by decide)] at hE
        rw [bitsN, hE, if_neg (by decide)]
        exact rBits_zero s w (by omega) h0 (by rw [hb]; rfl)
      · obtain ⟨h1, h2⟩ := sizeV_pos s h0 hb
        rw [if_neg (by omega)] at hE
        rw [bitsN, hE, if_pos rfl, h2]
        exact rBits_ok s _ w (by omega) h0 rfl (by simpa using hb)
    · obtain rfl := nil_of_size s h0
      rw [sizeV_nil, if_pos (by decide)] at hE
      rw [bitsN, hE, if_neg (by decide)]
      exact rBits_nil w
end Go.Proofs.Ytlmoenjggggpkaa
