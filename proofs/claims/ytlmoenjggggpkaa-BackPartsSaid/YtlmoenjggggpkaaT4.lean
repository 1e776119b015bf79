import Derived.Test.YtlmoenjggggpkaaT3
import Derived.Deep.Light
import Derived.Test.YtlmoenjggggpkaaMem
namespace Go.Proofs.Ytlmoenjggggpkaa
set_option linter.unusedVariables false
open Go.RowKit Go.Chz

def emit (T j : Nat) : List UInt8 := (List.range j).map fun i => UInt8.ofNat (T / 256 ^ i)
theorem emit_succ (T j : Nat) : emit T (j + 1) = emit T j ++ [UInt8.ofNat (T / 256 ^ j)] := by simp [emit, List.range_succ]
theorem emit_length (T j : Nat) : (emit T j).length = j := by simp [emit]

theorem s_len (s : ByteArray) : s.data.toList.length = s.size := by simp

theorem info5 : (Try.prog.info? 5).map (fun i => (i.zero, i.size, i.bytes)) = some (some (.int .u8 0), 1, 1) := by kernel_rfl

theorem u8_ofNat (x : Nat) : IntKind.u8.wrap (x : Int) = ((UInt8.ofNat x).toNat : Int) := by
  rw [IntKind.wrap_u8]; simp

set_option maxHeartbeats 400000 in
theorem put_any (s : ByteArray) (part n k v : Int) (T : Nat) (B g c : Nat) (w : World) (hs : s.size ≤ 1048577) (hp0 : 0 ≤ part) (hp1 : part < 256) (hn0 : 0 ≤ n) (hn1 : n ≤ 7) (hk0 : 0 ≤ k) (hk1 : k ≤ 32)
    (hT : bits BinOp.or IntKind.u64 part (IntKind.u64.wrap (v * 2 ^ n.toNat)) = (T : Int))
    (hb : Blk w B 67 [.string s, .int .u64 part, .int .i64 n]) (hg : Blk w g 63 [.int .u64 k, .int .u64 v]) :
    Calls Try.prog 38 #[.pointer (some ⟨B, 0, none⟩), .slice (some ⟨g, 0, none⟩) 1 c] w fun e w' => e = .returned (.tuple #[]) ∧ w.grownBy w' (some B) ∧
      Blk w' B 67 [.string ⟨(s.data.toList ++ emit T ((n + k).toNat / 8)).toArray⟩, .int .u64 ((T / 256 ^ ((n + k).toNat / 8) : Nat) : Int), .int .i64 ((n + k) % 8)] := by
  obtain ⟨i0, hi, hz0, hz1, hz2⟩ := info_parts info5
  have h0 := hb.cell 0 rfl
  have h1 := hb.cell 1 rfl
  have h2 := hb.cell 2 rfl
  have f0 := hb.frozen 0
  have f1 := hb.frozen 1
  have f2 := hb.frozen 2
  have c0 := hg.cell 0 rfl
  have c1 := hg.cell 1 rfl
  have hB := hb.lt
  go_enter Try.func38, Try.ntmps38
  go_wp2
  refine wp_loop_rounds 2 ?_
  rw [rounds_succ]
  go_wp2
  go_region
  go_wp2
  go_region
  go_wp2
  rw [rounds_succ]
  go_wp2_with ((with_reducible refine wpList_bytes_O (o := ⟨some 44, _, _, _, _, _⟩) rfl 9 42 (.tmp 43) rfl 5 s rfl Try.underlying9 Try.underlying42 Try.underlying5 (by unfold maxLen; omega) w.heap.size (by simp) ?_); intro c2 w2 hown hgr)
  have hb1 := ((hb.set 1 (.int .u64 (T : Int))).set 2 (.int .i64 (n + k))).alloc (.cells #[.int .u64 k, .int .u64 v] 63)
  have hb2 := hb1.drew.drew.only hgr (by simp)
  have hg2 := only_trans (only_drew (only_drew (only_alloc (only_setCell (only_setCell (only_refl w (some B)) (p := ⟨B, 1, none⟩) (.inl rfl) (.int .u64 (T : Int))) (p := ⟨B, 2, none⟩) (.inl rfl) (.int .i64 (n + k))) (.cells #[.int .u64 k, .int .u64 v] 63)))) hgr (fun _ h => by cases h)
  clear hgr h0 h1 h2 f0 f1 f2 c0 c1
  have hsz : (((w.setCell ⟨B, 1, none⟩ (.int .u64 (T : Int))).setCell ⟨B, 2, none⟩ (.int .i64 (n + k))).alloc (.cells #[.int .u64 k, .int .u64 v] 63)).drew.drew.heap.size = w.heap.size + 1 := by simp
  rw [hsz] at hown
  clear hsz hb1
  go_loopg [6] 5 (fun q out wr => ∃ (j : Nat) (A : Option Addr) (cc : Nat), q + j = 5 ∧ out = .slice A (s.size + j) cc ∧ 8 * (j : Int) ≤ n + k ∧ Hid (Own wr w.heap.size 5 1 A (s.size + j) cc (bcells (s.data.toList ++ emit T j))) ∧
     Hid (Blk wr B 67 [.string s, .int .u64 ((T / 256 ^ j : Nat) : Int), .int .i64 (n + k - 8 * j)]) ∧ Hid (w.grownBy wr (some B)))
  case atStart => 
    refine ⟨0, _, _, rfl, rfl, by omega, ?_, ?_, hg2⟩
    · simpa [emit, Hid] using hown
    · simpa [Hid] using hb2
  case round =>
    obtain ⟨j, A, cc, hq, rfl, hj, Hown, Hb, Hg⟩ := hrel
    clear hb2 hg2 hown
    have h0 := Hb.out.cell 0 rfl
    have h1 := Hb.out.cell 1 rfl
    have h2 := Hb.out.cell 2 rfl
    have f0 := Hb.out.frozen 0
    have f1 := Hb.out.frozen 1
    have f2 := Hb.out.frozen 2
    have hBr := Hb.out.lt
    by_cases h8 : 8 ≤ n + k - 8 * (j : Int)
    · go_wp2_with (at_builtin; refine wpList_append_O _ rfl (.tmp 57) (.tmp 63) 42 rfl w.heap.size 5 i0 (.int .u8 0) 1 1 Try.underlying42 hi hz0 hz1 hz2 rfl A (s.size + j) cc _ rfl (Hown.out.alloc _) _ 1 1 [.int .u8 (IntKind.u8.wrap ((T / 256 ^ j : Nat) : Int))] rfl rfl (new1 _ _ _) (by intro u hu; simp at hu; subst hu; rfl) (by unfold maxLen; omega) (by omega) (by have := Hg.out.size; simp; omega) ?_; intro A' c' w' hown' hgr' hat; have hbw := (Hb.out.alloc (.cells #[.int .u8 (IntKind.u8.wrap ((T / 256 ^ j : Nat) : Int))] 5)).only hgr' (Hb.out.ne_own Hown.out (by decide)); have k0 := hbw.cell 0 rfl; have k1 := hbw.cell 1 rfl; have k2 := hbw.cell 2 rfl; have l0 := hbw.frozen 0; have l1 := hbw.frozen 1; have l2 := hbw.frozen 2; have HB := Lib.hid hbw; have HO := Lib.hid hown'; have HG := Lib.hid (only_trans (only_alloc Hg.out _) hgr' (fun g' h => .inr (Hown.out.lt g' h).1)); clear hbw hown' hgr' hat)
      go_roundg (gk - 1)
      case measure => omega
      case rel =>
        go_light
        have hne : blk A' ≠ some B := (HB.out.ne_own HO.out (by decide)).symm
        have e1 : (T : Int) / 256 ^ j / 256 = ((T / 256 ^ (j + 1) : Nat) : Int) := by
          rw [Nat.pow_succ, ← Nat.div_div_eq_div_mul]; simp
        have e2 : n + k - 8 * (j : Int) - 8 = n + k - 8 * ((j + 1 : Nat) : Int) := by omega
        rw [e1, e2]
        refine ⟨j + 1, A', c', by omega, rfl, by omega, ?_, ?_, ?_⟩
        · have h1 := (HO.out.set_far (p := ⟨B, 1, none⟩) hne (.int .u64 ((T / 256 ^ (j + 1) : Nat) : Int))).set_far (p := ⟨B, 2, none⟩) hne (.int .i64 (n + k - 8 * ((j + 1 : Nat) : Int)))
          have e3 : bcells (s.data.toList ++ emit T j) ++ [Value.int IntKind.u8 (IntKind.u8.wrap ((T / 256 ^ j : Nat) : Int))] = bcells (s.data.toList ++ emit T (j + 1)) := by
            rw [emit_succ, ← List.append_assoc, bcells_append (s.data.toList ++ emit T j), u8_ofNat]; rfl
          rw [e3] at h1
          exact h1
        · exact (HB.out.set 1 (.int .u64 ((T / 256 ^ (j + 1) : Nat) : Int))).set 2 (.int .i64 (n + k - 8 * ((j + 1 : Nat) : Int)))
        · exact only_setCell (only_setCell HG.out (p := ⟨B, 1, none⟩) (.inl rfl) _) (p := ⟨B, 2, none⟩) (.inl rfl) _
    · have hc := Lib.hid (Hown.out.cellsAt)
      go_wp2_with (with_reducible refine wpList_string_O (o := ⟨some 74, _, _, _, _, _⟩) rfl 42 9 (.tmp 73) rfl 5 A (s.size + j) cc (s.data.toList ++ emit T j) rfl Try.underlying42 Try.underlying5 Try.underlying9 (by simp [emit_length]) hc.out ?_)
      go_end0
      have e1 : (n + k).toNat / 8 = j := by omega
      have e2 : (n + k) % 8 = n + k - 8 * (j : Int) := by omega
      rw [e1, e2]
      exact ⟨rfl, only_setCell Hg.out (p := ⟨B, 0, none⟩) (.inl rfl) _, Hb.out.set 0 _⟩
end Go.Proofs.Ytlmoenjggggpkaa
