/-
  A part of the proof of a statement of a chapter's seat; conditions: stated at each theorem.
-/
import Derived.Test.YtbdnmgbahigdhaaL16
set_option linter.unusedVariables false
set_option linter.unusedSectionVars false
set_option linter.unusedSimpArgs false
set_option linter.unusedVariables false
set_option maxRecDepth 100000
set_option maxHeartbeats 8000000
namespace Go.Proofs.Ytbdnmgbahigdhaa
open Go.Az Go
/-! ### The sum of the powers -/
def gB (L x : Nat) : Int := 2 ^ (L - Nat.log2 x)
def sB (L a : Nat) : Nat → Int
  | 0 => 0
  | n + 1 => sB L a n + gB L (a + n)
theorem sB_shift (L a : Nat) : ∀ n, sB L a (n + 1) = gB L a + sB L (a + 1) n
  | 0 => by simp [sB]
  | n + 1 => by
    rw [sB, sB_shift L a n, sB, show a + 1 + n = a + (n + 1) by omega]; omega
theorem log2_two {w : Nat} (h : 1 ≤ w) : Nat.log2 (w + w) = Nat.log2 w + 1 ∧ Nat.log2 (w + (w + 1)) = Nat.log2 w + 1 := by
  constructor
  · rw [Nat.log2_def, if_pos (by omega), show (w + w) / 2 = w by omega]
  · rw [Nat.log2_def, if_pos (by omega), show (w + (w + 1)) / 2 = w by omega]
theorem sB_full (L : Nat) : ∀ w : Nat, 1 ≤ w → w ≤ 2 ^ L → sB L w w = 2 ^ L
  | 0, h, _ => by omega
  | 1, _, _ => by
    show sB L 1 0 + gB L (1 + 0) = 2 ^ L
    have : Nat.log2 1 = 0 := by decide +kernel
    simp [sB, gB, this]
  | w + 2, _, h => by
    have ih := sB_full L (w + 1) (by omega) (by omega)
    have e1 := sB_shift L (w + 1) (w + 2)
    rw [sB, sB, ih] at e1
    obtain ⟨g1, g2⟩ := log2_two (w := w + 1) (by omega)
    have hl : Nat.log2 (w + 1) < L := (Nat.log2_lt (by omega)).2 (by omega)
    have g2 : Nat.log2 (w + 1 + (w + 2)) = Nat.log2 (w + 1) + 1 := g2
    have e2 : gB L (w + 1 + (w + 1)) + gB L (w + 1 + (w + 2)) = gB L (w + 1) := by
      unfold gB
      rw [g1, g2, show L - Nat.log2 (w + 1) = (L - (Nat.log2 (w + 1) + 1)) + 1 by omega, Int.pow_succ]; omega
    show sB L (w + 1 + 1) (w + 2) = 2 ^ L
    omega
theorem gB_bd (L a : Nat) (hL : L ≤ 7) : 0 ≤ gB L a ∧ gB L a ≤ 128 := by
  have h1 : (2 : Nat) ^ (L - Nat.log2 a) ≤ 2 ^ 7 := Nat.pow_le_pow_right (by omega) (by omega)
  have h2 : gB L a = ((2 ^ (L - Nat.log2 a) : Nat) : Int) := by simp [gB]
  have h3 : (0 : Int) ≤ ((2 ^ (L - Nat.log2 a) : Nat) : Int) := Int.natCast_nonneg _
  have h4 : ((2 ^ (L - Nat.log2 a) : Nat) : Int) ≤ 128 := by exact_mod_cast h1
  rw [h2]; exact ⟨h3, h4⟩
theorem sB_bd (L a : Nat) (hL : L ≤ 7) : ∀ n : Nat, 0 ≤ sB L a n ∧ sB L a n ≤ n * 128
  | 0 => ⟨Int.le_refl _, Int.le_refl _⟩
  | n + 1 => by
    have ih := sB_bd L a hL n
    have h1 : (2 : Nat) ^ (L - Nat.log2 (a + n)) ≤ 2 ^ 7 := Nat.pow_le_pow_right (by omega) (by omega)
    have h2 : gB L (a + n) = ((2 ^ (L - Nat.log2 (a + n)) : Nat) : Int) := by simp [gB]
    rw [sB, h2]
    have h3 : (0 : Int) ≤ ((2 ^ (L - Nat.log2 (a + n)) : Nat) : Int) := Int.natCast_nonneg _
    have h4 : ((2 ^ (L - Nat.log2 (a + n)) : Nat) : Int) ≤ 128 := by exact_mod_cast h1
    generalize ((2 ^ (L - Nat.log2 (a + n)) : Nat) : Int) = g at *
    omega
theorem sB_step (L : Nat) (w c : Int) (hw : 0 ≤ w) (hc : 0 ≤ c) : sB L w.toNat (c + 1).toNat = sB L w.toNat c.toNat + gB L (w + c).toNat := by
  rw [show (c + 1).toNat = c.toNat + 1 by omega, sB, show w.toNat + c.toNat = (w + c).toNat by omega]
theorem ctI_take_le (l : List Int) (i : Nat) (s : Int) : ctI (l.take i) s ≤ ctI l s := by
  have h := ctI_app (l.take i) (l.drop i) s
  rw [List.take_append_drop] at h
  have := ctI_nn (l.drop i) s
  omega
/-- A cell of a symbol: its number, and its bits. -/
theorem cell_fact {L : Nat} {ps : List Int} (hL : 5 ≤ L ∧ L ≤ 7) (he : dE L ps = 0) {s0 : Nat} (hs : s0 < ps.length) {i : Nat} (hi : i < (sprd (2 ^ L) ps).length) (hls : (sprd (2 ^ L) ps).getD i 0 = s0) :
    ps.getD s0 0 ≠ 0 ∧ (numQ L ps).getD i 0 = wantI (ps.getD s0 0) + ctI ((sprd (2 ^ L) ps).take i) s0 ∧ (2 : Int) ^ ((bitQ L ps).getD i 0).toNat = gB L (wantI (ps.getD s0 0) + ctI ((sprd (2 ^ L) ps).take i) s0).toNat ∧ 0 ≤ (bitQ L ps).getD i 0 ∧ (bitQ L ps).getD i 0 ≤ L := by
  obtain ⟨n, hn, h5, h12, hok, hl1, hl2, hlast⟩ := dE_ok he
  obtain rfl : n = L := by omega
  have hll := dist_len rfl hok
  rw [hll] at hi
  obtain ⟨k, c⟩ := cell_of hok hi
  obtain rfl : k = s0 := by have := c.at'; omega
  have hq : numQ n ps = nums ps (sprd (2 ^ n) ps) := by rw [numQ, if_pos he, Int.toNat_natCast]
  have hN : (numQ n ps).getD i 0 = numA ps (sprd (2 ^ n) ps) i := by rw [hq, nums_at (by omega)]
  have hb : baseN (ps.getD k 0) = wantI (ps.getD k 0) := by
    have := c.ge; have := c.ne
    unfold baseN wantI
    by_cases hp : ps.getD k 0 = -1
    · rw [if_pos (by omega), if_pos hp]
    · rw [if_neg (by omega), if_neg hp]
  have hA : numA ps (sprd (2 ^ n) ps) i = wantI (ps.getD k 0) + ctI ((sprd (2 ^ n) ps).take i) k := by
    rw [numA, c.at', Int.toNat_natCast, hb]
  have ht := ctI_take (l := sprd (2 ^ n) ps) (i := i) (by omega) (k : Int)
  rw [if_pos c.at'] at ht
  have ht2 := ctI_take_le (sprd (2 ^ n) ps) (i + 1) k
  have hct := sprd_ct hok k hs
  have hcn := ctI_nn ((sprd (2 ^ n) ps).take i) k
  have hcl := ctI_le (sprd (2 ^ n) ps) k
  have hz := pow_z n
  have hpow : (2 : Int) ^ (n + 1) = 2 * 2 ^ n := by rw [Int.pow_succ]; omega
  have h1 := hi_bd (wantI (ps.getD k 0) + ctI ((sprd (2 ^ n) ps).take i) k)
  have h2 := hi_lt (n := wantI (ps.getD k 0) + ctI ((sprd (2 ^ n) ps).take i) k) (k := n + 1) (by omega) (by omega)
  have hpos : 1 ≤ wantI (ps.getD k 0) + ctI ((sprd (2 ^ n) ps).take i) k := by omega
  have h3 : hiF (wantI (ps.getD k 0) + ctI ((sprd (2 ^ n) ps).take i) k) = Nat.log2 (wantI (ps.getD k 0) + ctI ((sprd (2 ^ n) ps).take i) k).toNat := by
    unfold hiF; rw [if_neg (by omega)]
  rw [bit_at (by rw [hq, nums_len, hll]; exact hi), hN, hA]
  refine ⟨c.ne, rfl, ?_, by omega, by omega⟩
  unfold gB
  rw [h3]
  congr 1
  omega
theorem law6 (n : Int) (h : Hp) (s : AV) (nums : List Int) (hN : Elts (encI .i64) 1 h s nums) : ACalls Try.prog 6 [I n, s] h (fun r _ => r = B true) := by
  have a : EI h s nums := mkEL iok 0 hN
  have pss := a.p.sl
  have S0 := Sep.nil h
  have c26 : ∀ Y L', Sep h Y L' → ACalls Try.prog 26 [I n, s] Y (fun r h' => ∃ z L ps, r = DA z ((L : Nat) : Int) ∧ SlC z ∧ Sep h h' (L' ++ [WI z ps]) ∧ dE L ps = 0 ∧ 5 ≤ L ∧ L ≤ 7 ∧ ps.length ≤ 20) := fun Y L' S =>
    (made26 Y n s nums).mono fun r h' _ ⟨z, L, ps, h1, h2, h3, h4⟩ => ⟨z, L, ps, h1, h2, S.join h3, h4⟩
  have c16 : ∀ (L : Nat) ps Y L' s, dE L ps = 0 → ps.length ≤ 20 → Sep h Y L' → EI Y s ps → ACalls Try.prog 16 [DA s L] Y (fun r h' => ∃ z, r = .tup [z, I 0] ∧ SlC z ∧ Sep h h' (L' ++ [WI z (sprd (2 ^ L) ps)])) := fun L ps Y L' s he hl S a => by
    have := of16 Y s L ps (by omega)
    rw [ofL, if_pos he, he, Int.toNat_natCast] at this
    exact this.mono fun r h' _ ⟨z, h1, h2, h3⟩ => ⟨z, h1, h2, S.join h3⟩
  have c18 : ∀ (L : Nat) ps Y L' s, dE L ps = 0 → ps.length ≤ 20 → Sep h Y L' → EI Y s ps → ACalls Try.prog 18 [DA s L] Y (fun r h' => ∃ z, r = .tup [z, I 0] ∧ SlC z ∧ Sep h h' (L' ++ [WI z (numQ L ps)])) := fun L ps Y L' s he hl S a => by
    have := numbers18 Y s L ps (by omega)
    rw [he] at this
    exact this.mono fun r h' _ ⟨z, h1, h2, h3⟩ => ⟨z, h1, h2, S.join h3⟩
  have c20 : ∀ (L : Nat) ps Y L' s, dE L ps = 0 → 5 ≤ L → L ≤ 7 → ps.length ≤ 20 → Sep h Y L' → EI Y s ps → ACalls Try.prog 20 [DA s L] Y (fun r h' => ∃ z, r = .tup [z, I 0] ∧ SlC z ∧ Sep h h' (L' ++ [WI z (bitQ L ps)])) := fun L ps Y L' s he h5 h7 hl S a => by
    have := bits20 Y s L ps (by omega) (fun _ => ⟨by omega, by omega⟩)
    rw [he] at this
    exact this.mono fun r h' _ ⟨z, h1, h2, h3⟩ => ⟨z, h1, h2, S.join h3⟩
  have c9 : ∀ (L : Nat) ps (sy : Int) Y L' s, ps.length ≤ 20 → Sep h Y L' → EI Y s ps → ACalls Try.prog 9 [DA s L, I sy] Y (fun r h' => ∃ z, r = .tup [z, I (cellE L ps sy)] ∧ SlC z ∧ Sep h h' (L' ++ [WI z (cellL L ps sy)])) := fun L ps sy Y L' s hl S a =>
    (cells9 Y s L ps sy (by omega)).mono fun r h' _ ⟨z, h1, h2, h3⟩ => ⟨z, h1, h2, S.join h3⟩
  refine ACalls.mono (N := fun r h' => r = B true ∧ h' = h) ?_ fun r h' _ hh => hh.1
  refine acalls_back ?_
  refine acalls_of_wk hm Try.func6 rfl ?_
  simp only [Try.ntmps6, List.length_cons, List.length_nil, Nat.reduceAdd, Nat.reduceSub, List.reduceReplicate, List.cons_append, List.nil_append]
  show wk _ _ none _ _ ⟨_, []⟩ _
  with_reducible refine s_seq ?_
  with_reducible refine s_reg ?_
  refine sassign ?_
  simp only [pu', p0', c1', c0', i1', z0', b8_nat]
  with_reducible refine s_end ?_
  with_reducible refine s_then ?_
  with_reducible refine s_seq ?_
  with_reducible refine s_reg ?_
  refine sM (hx := rfl) (law5 _) ?_
  simp only [pu', p0', c1', c0', i1', z0', b8_nat]
  refine sassign ?_
  simp only [pu', p0', c1', c0', i1', z0', b8_nat]
  with_reducible refine s_end ?_
  with_reducible refine s_then ?_
  with_reducible refine s_seq ?_
  with_reducible refine s_reg ?_
  refine smove ?_
  simp only [pu', p0', c1', c0', i1', z0', b8_nat]
  refine smove ?_
  simp only [pu', p0', c1', c0', i1', z0', b8_nat]
  refine sC (hx := rfl) ((c26 _ _ inferInstance).mono ?_)
  rintro _ m26 _ ⟨zd, L, ps, rfl, pzd, Sd, hdE, hL5, hL7, hpl⟩
  simp only [pu', p0', c1', c0', i1', n0', n3', n1', n2', a2', a1', a0', n4', Nat.reduceAdd, z0', n5', sa0, sa1, sa2, sa3, sa4, sa5, sa6, sa7, sa8, sa9, sa10, sa11]
  refine salloc ?_
  simp only [pu', p0', c1', c0', i1', n0', n3', n1', n2', a2', a1', a0', n4', Nat.reduceAdd, z0', n5', sa0, sa1, sa2, sa3, sa4, sa5, sa6, sa7, sa8, sa9, sa10, sa11]
  refine sstoreF ?_
  simp only [pu', p0', c1', c0', i1', n0', n3', n1', n2', a2', a1', a0', n4', Nat.reduceAdd, z0', n5', sa0, sa1, sa2, sa3, sa4, sa5, sa6, sa7, sa8, sa9, sa10, sa11]
  with_reducible refine s_end ?_
  with_reducible refine s_then ?_
  with_reducible refine s_seq ?_
  have c16 := fun Y L' s => c16 L ps Y L' s hdE hpl
  have c18 := fun Y L' s => c18 L ps Y L' s hdE hpl
  have c20 := fun Y L' s => c20 L ps Y L' s hdE hL5 hL7 hpl
  obtain ⟨n', hn', h5, h12, hok, hl1, hl2, hlast⟩ := dE_ok hdE
  obtain rfl : n' = L := by omega
  have hz := pow_z n'
  have hzb := okZ_pos hok.okz
  have hll := dist_len rfl hok
  have hsum := hok.sum
  have hcell := fun (s0 : Nat) (hs : s0 < ps.length) (i : Nat) (hi : i < (sprd (2 ^ n') ps).length) hls => cell_fact ⟨hL5, hL7⟩ hdE hs hi hls
  have hct := fun (s0 : Nat) (hs : s0 < ps.length) => sprd_ct hok s0 hs
  have hNl : (numQ n' ps).length = 2 ^ n' := by rw [numQ, if_pos hdE, Int.toNat_natCast, nums_len, hll]
  have hBl : (bitQ n' ps).length = 2 ^ n' := by rw [bitQ, List.length_map, hNl]
  have hge := fun (k : Nat) (hk : k < ps.length) => hok.ge _ (getD_mem hk)
  have hle := fun (k : Nat) (hk : k < ps.length) => pts_le ps _ (getD_mem hk)
  have hce : ∀ s0 : Nat, s0 < ps.length → (cellE n' ps s0 = 0 ∧ ((cellL n' ps s0).length : Int) = wantI (ps.getD s0 0) ∧ 1 ≤ wantI (ps.getD s0 0) ∧ wantI (ps.getD s0 0) ≤ 2 ^ n' ∧ sB n' (wantI (ps.getD s0 0)).toNat (wantI (ps.getD s0 0)).toNat = 2 ^ n') ∨ (cellE n' ps s0 = 7 ∧ (cellL n' ps s0).length = 0 ∧ wantI (ps.getD s0 0) = 0) := fun s0 hs => by
    by_cases hp : ps.getD s0 0 = 0
    · right
      have h7 : cellE n' ps s0 = 7 := ce_7 hdE (by omega) (by rw [Int.toNat_natCast]; exact hp)
      refine ⟨h7, ?_, by rw [hp]; rfl⟩
      rw [cellL, if_neg (by rw [h7]; decide)]; rfl
    · left
      have h0 : cellE n' ps s0 = 0 := ce_0 hdE (by omega) (by rw [Int.toNat_natCast]; exact hp)
      have hm := cell_many h0
      rw [Int.toNat_natCast] at hm
      have hwl : wantI (ps.getD s0 0) ≤ 2 ^ n' := by
        have := hle s0 hs
        unfold wantI
        split <;> omega
      refine ⟨h0, hm.1, hm.2, hwl, sB_full n' _ (by omega) (by omega)⟩
  clear hdE hlast hok h12
  generalize numQ n' ps = nl at *
  generalize bitQ n' ps = bl at *
  generalize sprd (2 ^ n') ps = l at *
  generalize n' = L at *
  with_reducible refine s_reg ?_
  refine sfad ?_
  simp only [pu', p0', c1', c0', i1', z0', b8_nat]
  refine sload1 ?_
  simp only [pu', p0', c1', c0', i1', z0', b8_nat]
  refine sconv ?_
  simp only [pu', p0', c1', c0', i1', z0', b8_nat]
  refine sshl1 ?_
  simp only [pu', p0', c1', c0', i1', z0', b8_nat]
  refine sassign ?_
  simp only [pu', p0', c1', c0', i1', z0', b8_nat]
  with_reducible refine s_end ?_
  with_reducible refine s_then ?_
  with_reducible refine s_seq ?_
  with_reducible refine s_reg ?_
  refine sloadW ?_
  simp only [pu', p0', c1', c0', i1', z0', b8_nat]
  refine sC (hx := rfl) ((c16 _ _ zd inferInstance inferInstance).mono ?_)
  rintro _ m16 _ ⟨zl, rfl, pzl, S1⟩
  simp only [pu', p0', c1', c0', i1', n0', n3', n1', n2', a2', a1', a0', n4', Nat.reduceAdd, z0', n5', sa0, sa1, sa2, sa3, sa4, sa5, sa6, sa7, sa8, sa9, sa10, sa11]
  refine smove ?_
  simp only [pu', p0', c1', c0', i1', z0', b8_nat]
  refine sext ?_
  simp only [pu', p0', c1', c0', i1', z0', b8_nat]
  refine sext ?_
  simp only [pu', p0', c1', c0', i1', z0', b8_nat]
  refine sassign ?_
  simp only [pu', p0', c1', c0', i1', z0', b8_nat]
  refine sassign ?_
  simp only [pu', p0', c1', c0', i1', z0', b8_nat]
  with_reducible refine s_end ?_
  with_reducible refine s_then ?_
  with_reducible refine s_seq ?_
  with_reducible refine s_reg ?_
  refine sloadW ?_
  simp only [pu', p0', c1', c0', i1', z0', b8_nat]
  refine sC (hx := rfl) ((c20 _ _ zd inferInstance inferInstance).mono ?_)
  rintro _ m20 _ ⟨zb, rfl, pzb, S2⟩
  simp only [pu', p0', c1', c0', i1', n0', n3', n1', n2', a2', a1', a0', n4', Nat.reduceAdd, z0', n5', sa0, sa1, sa2, sa3, sa4, sa5, sa6, sa7, sa8, sa9, sa10, sa11]
  refine smove ?_
  simp only [pu', p0', c1', c0', i1', z0', b8_nat]
  refine sext ?_
  simp only [pu', p0', c1', c0', i1', z0', b8_nat]
  refine sext ?_
  simp only [pu', p0', c1', c0', i1', z0', b8_nat]
  refine sassign ?_
  simp only [pu', p0', c1', c0', i1', z0', b8_nat]
  refine sassign ?_
  simp only [pu', p0', c1', c0', i1', z0', b8_nat]
  with_reducible refine s_end ?_
  with_reducible refine s_then ?_
  with_reducible refine s_seq ?_
  with_reducible refine s_reg ?_
  refine sloadW ?_
  simp only [pu', p0', c1', c0', i1', z0', b8_nat]
  refine sC (hx := rfl) ((c18 _ _ zd inferInstance inferInstance).mono ?_)
  rintro _ m18 _ ⟨zx, rfl, pzx, S3⟩
  simp only [pu', p0', c1', c0', i1', n0', n3', n1', n2', a2', a1', a0', n4', Nat.reduceAdd, z0', n5', sa0, sa1, sa2, sa3, sa4, sa5, sa6, sa7, sa8, sa9, sa10, sa11]
  refine smove ?_
  simp only [pu', p0', c1', c0', i1', z0', b8_nat]
  refine sext ?_
  simp only [pu', p0', c1', c0', i1', z0', b8_nat]
  refine sext ?_
  simp only [pu', p0', c1', c0', i1', z0', b8_nat]
  refine sassign ?_
  simp only [pu', p0', c1', c0', i1', z0', b8_nat]
  refine sassign ?_
  simp only [pu', p0', c1', c0', i1', z0', b8_nat]
  with_reducible refine s_end ?_
  with_reducible refine s_then ?_
  with_reducible refine s_seq ?_
  with_reducible refine s_seq ?_
  with_reducible refine s_reg ?_
  refine smove ?_
  simp only [pu', p0', c1', c0', i1', z0', b8_nat]
  refine sNe (fun hb => ?_) (fun hb => ?_)
  replace hb := dT' hb
  (exfalso; omega)
  replace hb := dF' hb
  simp only [pu', p0', c1', c0', i1', z0', b8_nat]
  refine smove ?_
  simp only [pu', p0', c1', c0', i1', z0', b8_nat]
  refine smove ?_
  simp only [pu', p0', c1', c0', i1', z0', b8_nat]
  refine sNe (fun hb => ?_) (fun hb => ?_)
  replace hb := dT' hb
  (exfalso; omega)
  replace hb := dF' hb
  simp only [pu', p0', c1', c0', i1', z0', b8_nat]
  refine spickF ?_
  simp only [pu', p0', c1', c0', i1', z0', b8_nat]
  refine smove ?_
  simp only [pu', p0', c1', c0', i1', z0', b8_nat]
  refine smove ?_
  simp only [pu', p0', c1', c0', i1', z0', b8_nat]
  refine sNe (fun hb => ?_) (fun hb => ?_)
  replace hb := dT' hb
  (exfalso; omega)
  replace hb := dF' hb
  simp only [pu', p0', c1', c0', i1', z0', b8_nat]
  refine spickF ?_
  simp only [pu', p0', c1', c0', i1', z0', b8_nat]
  refine smove ?_
  simp only [pu', p0', c1', c0', i1', z0', b8_nat]
  refine smove ?_
  simp only [pu', p0', c1', c0', i1', z0', b8_nat]
  refine slenE ?_
  simp only [pu', p0', c1', c0', i1', z0', b8_nat]
  refine smove ?_
  simp only [pu', p0', c1', c0', i1', z0', b8_nat]
  refine sNe (fun hb => ?_) (fun hb => ?_)
  replace hb := dT' hb
  (exfalso; omega)
  replace hb := dF' hb
  simp only [pu', p0', c1', c0', i1', z0', b8_nat]
  refine spickF ?_
  simp only [pu', p0', c1', c0', i1', z0', b8_nat]
  refine smove ?_
  simp only [pu', p0', c1', c0', i1', z0', b8_nat]
  refine smove ?_
  simp only [pu', p0', c1', c0', i1', z0', b8_nat]
  refine slenE ?_
  simp only [pu', p0', c1', c0', i1', z0', b8_nat]
  refine smove ?_
  simp only [pu', p0', c1', c0', i1', z0', b8_nat]
  refine sNe (fun hb => ?_) (fun hb => ?_)
  replace hb := dT' hb
  (exfalso; omega)
  replace hb := dF' hb
  simp only [pu', p0', c1', c0', i1', z0', b8_nat]
  refine spickF ?_
  simp only [pu', p0', c1', c0', i1', z0', b8_nat]
  refine smove ?_
  simp only [pu', p0', c1', c0', i1', z0', b8_nat]
  refine smove ?_
  simp only [pu', p0', c1', c0', i1', z0', b8_nat]
  refine slenE ?_
  simp only [pu', p0', c1', c0', i1', z0', b8_nat]
  refine smove ?_
  simp only [pu', p0', c1', c0', i1', z0', b8_nat]
  refine sNe (fun hb => ?_) (fun hb => ?_)
  replace hb := dT' hb
  (exfalso; omega)
  replace hb := dF' hb
  simp only [pu', p0', c1', c0', i1', z0', b8_nat]
  refine spickF ?_
  simp only [pu', p0', c1', c0', i1', z0', b8_nat]
  with_reducible refine s_end ?_
  with_reducible refine s_then ?_
  refine sCF ?_
  with_reducible refine s_skip ?_
  with_reducible refine s_then ?_
  with_reducible refine s_seq ?_
  with_reducible refine s_seq ?_
  with_reducible refine s_reg ?_
  refine sassign ?_
  simp only [pu', p0', c1', c0', i1', z0', b8_nat]
  with_reducible refine s_end ?_
  with_reducible refine s_then ?_
  with_reducible refine s_block ?_
  have hm26 : True := trivial
  refine s_loop hm (fun (b : RoA) s' => [s' 0, s' 1, s' 2, s' 3, s' 4, B true, .ptr m26.length 0, I (2 ^ L), zl, s' 9, zb, s' 11, zx, s' 13, I b.k, s' 15, s' 16, s' 17, s' 18, s' 19, s' 20, s' 21, s' 22, s' 23, s' 24, s' 25, s' 26, s' 27, s' 28, s' 29, s' 30, s' 31, s' 32, s' 33, s' 34, s' 35, s' 36, s' 37, s' 38, s' 39, s' 40, s' 41, s' 42, s' 43, s' 44, s' 45, s' 46, s' 47, s' 48, s' 49, s' 50, s' 51, s' 52, s' 53, s' 54, s' 55, s' 56, s' 57, s' 58, s' 59, s' 60, s' 61, s' 62, s' 63, s' 64, s' 65, s' 66, s' 67, s' 68, s' 69, s' 70, s' 71, s' 72, s' 73, s' 74, s' 75, s' 76, s' 77, s' 78, s' 79, s' 80, s' 81, s' 82, s' 83, s' 84, s' 85, s' 86, s' 87, s' 88, s' 89, s' 90, s' 91, s' 92, s' 93, s' 94, s' 95, s' 96, s' 97, s' 98, s' 99, s' 100, s' 101, s' 102, s' 103, s' 104, s' 105, s' 106, s' 107, s' 108, s' 109, s' 110, s' 111, s' 112, s' 113, s' 114, s' 115, s' 116, s' 117, s' 118, s' 119, s' 120, s' 121, s' 122, s' 123, s' 124, s' 125, s' 126, s' 127, s' 128, s' 129, s' 130, s' 131, s' 132, s' 133, s' 134, s' 135, s' 136, s' 137, s' 138, s' 139, s' 140, s' 141, s' 142, s' 143, s' 144, s' 145, s' 146, s' 147, s' 148, s' 149, s' 150, s' 151, s' 152, s' 153, s' 154, s' 155, s' 156, s' 157, s' 158, s' 159, s' 160, s' 161, s' 162, s' 163, s' 164, s' 165, s' 166, s' 167, s' 168, s' 169, s' 170, s' 171, s' 172, s' 173]) (fun b => b.G) (fun b => b.k ≤ ps.length ∧ Sep h b.G [WI zd ps, pcC m26.length (.cells [I L, zd] 24 true), WI zl l, WI zb bl, WI zx nl]) (fun b => ps.length - b.k) ⟨0, _⟩ (by rfl) rfl ⟨Nat.zero_le _, Sep.sub inferInstance (by repeat' first | exact List.Sublist.refl _ | exact List.sublist_append_left _ _ | exact List.nil_sublist _ | refine List.Sublist.cons_cons _ ?_ | refine List.Sublist.cons _ ?_ | refine List.Sublist.trans ?_ (List.sublist_append_left _ _))⟩ ?_
  rintro ⟨s0, G⟩ s' ⟨hs0, S4⟩
  simp only [] at hs0 S4 ⊢
  clear S1 S2 S3 Sd c16 c18 c20 c26
  by_cases hsl : s0 < ps.length
  · have hcell := hcell s0 hsl
    have hct := hct s0 hsl
    have hge := hge s0 hsl
    have hle := hle s0 hsl
    have hce := hce s0 hsl
    have c9 : ∀ Y, Sep h Y [WI zd ps, pcC m26.length (.cells [I L, zd] 24 true), WI zl l, WI zb bl, WI zx nl] → ACalls Try.prog 9 [DA zd L, I s0] Y (fun r h' => ∃ z, r = .tup [z, I (cellE L ps s0)] ∧ SlC z ∧ Sep h h' ([WI zd ps, pcC m26.length (.cells [I L, zd] 24 true), WI zl l, WI zb bl, WI zx nl] ++ [WI z (cellL L ps s0)])) := fun Y S => c9 L ps s0 Y _ zd hpl S inferInstance
    generalize cellE L ps s0 = ce at *
    generalize cellL L ps s0 = cl at *
    by_cases hp1 : ps.getD s0 0 = -1
    · have hw : wantI (ps.getD s0 0) = 1 := if_pos hp1
      focus
        with_reducible refine s_seq ?_
        with_reducible refine s_seq ?_
        with_reducible refine s_reg ?_
        refine smove ?_
        simp only [pu', p0', c1', c0', i1', z0', b8_nat]
        refine sfad ?_
        simp only [pu', p0', c1', c0', i1', z0', b8_nat]
        refine sload1 ?_
        simp only [pu', p0', c1', c0', i1', z0', b8_nat]
        refine slenE ?_
        simp only [pu', p0', c1', c0', i1', z0', b8_nat]
        refine sLt (fun hb => ?_) (fun hb => ?_)
        replace hb := dT' hb
        simp only [pu', p0', c1', c0', i1', z0', b8_nat]
        with_reducible refine s_end ?_
        with_reducible refine s_then ?_
        refine sCT ?_
        with_reducible refine s_skip ?_
        with_reducible refine s_then ?_
        with_reducible refine s_seq ?_
        with_reducible refine s_block ?_
        with_reducible refine s_seq ?_
        with_reducible refine s_reg ?_
        refine sfad ?_
        simp only [pu', p0', c1', c0', i1', z0', b8_nat]
        refine sload1 ?_
        simp only [pu', p0', c1', c0', i1', z0', b8_nat]
        refine smove ?_
        simp only [pu', p0', c1', c0', i1', z0', b8_nat]
        refine sidxE ?_
        simp only [pu', p0', c1', c0', i1', z0', b8_nat]
        refine sloadE1 ?_
        simp only [pu', p0', c1', c0', i1', z0', b8_nat]
        refine smax ?_
        simp only [pu', p0', c1', c0', i1', z0', b8_nat]
        refine sassign ?_
        simp only [pu', p0', c1', c0', i1', z0', b8_nat]
        with_reducible refine s_end ?_
        with_reducible refine s_then ?_
        with_reducible refine s_seq ?_
        with_reducible refine s_seq ?_
        with_reducible refine s_reg ?_
        refine sfad ?_
        simp only [pu', p0', c1', c0', i1', z0', b8_nat]
        refine sload1 ?_
        simp only [pu', p0', c1', c0', i1', z0', b8_nat]
        refine smove ?_
        simp only [pu', p0', c1', c0', i1', z0', b8_nat]
        refine sidxE ?_
        simp only [pu', p0', c1', c0', i1', z0', b8_nat]
        refine sloadE1 ?_
        simp only [pu', p0', c1', c0', i1', z0', b8_nat]
        refine sEq (fun hb => ?_) (fun hb => ?_)
        replace hb := dT' hb
        simp only [pu', p0', c1', c0', i1', z0', b8_nat]
        with_reducible refine s_end ?_
        with_reducible refine s_then ?_
        refine sCT ?_
        with_reducible refine s_reg ?_
        refine sassign ?_
        simp only [pu', p0', c1', c0', i1', z0', b8_nat]
        with_reducible refine s_end ?_
        with_reducible refine s_then ?_
        with_reducible refine s_seq ?_
        with_reducible refine s_reg ?_
        refine smove ?_
        simp only [pu', p0', c1', c0', i1', z0', b8_nat]
        refine sassign ?_
        simp only [pu', p0', c1', c0', i1', z0', b8_nat]
        refine sassign ?_
        simp only [pu', p0', c1', c0', i1', z0', b8_nat]
        refine sassign ?_
        simp only [pu', p0', c1', c0', i1', z0', b8_nat]
        with_reducible refine s_end ?_
        with_reducible refine s_then ?_
        with_reducible refine s_seq ?_
        with_reducible refine s_seq ?_
        with_reducible refine s_reg ?_
        refine sassign ?_
        simp only [pu', p0', c1', c0', i1', z0', b8_nat]
        with_reducible refine s_end ?_
        with_reducible refine s_then ?_
        with_reducible refine s_block ?_
        rotate_left 1
        replace hb := dF' hb
        exact absurd (by with_reducible assumption) hb
        replace hb := dF' hb
        (exfalso; omega)
      generalize wantI (ps.getD s0 0) = w at *
      refine s_loop hm (fun (b : Nat) s' => [s' 0, s' 1, s' 2, s' 3, s' 4, B true, .ptr m26.length 0, I (2 ^ L), zl, s' 9, zb, s' 11, zx, s' 13, I s0, I w, I (ctI (l.take b) s0), I (sB L w.toNat (ctI (l.take b) s0).toNat), I (w + ctI (l.take b) s0), I b, s' 20, s' 21, s' 22, s' 23, s' 24, s' 25, s' 26, s' 27, s' 28, s' 29, s' 30, s' 31, s' 32, s' 33, s' 34, s' 35, s' 36, s' 37, s' 38, s' 39, s' 40, s' 41, s' 42, s' 43, s' 44, s' 45, s' 46, s' 47, s' 48, s' 49, s' 50, s' 51, s' 52, s' 53, s' 54, s' 55, s' 56, s' 57, s' 58, s' 59, s' 60, s' 61, s' 62, s' 63, s' 64, s' 65, s' 66, s' 67, s' 68, s' 69, s' 70, s' 71, s' 72, s' 73, s' 74, s' 75, s' 76, s' 77, s' 78, s' 79, s' 80, s' 81, s' 82, s' 83, s' 84, s' 85, s' 86, s' 87, s' 88, s' 89, s' 90, s' 91, s' 92, s' 93, s' 94, s' 95, s' 96, s' 97, s' 98, s' 99, s' 100, s' 101, s' 102, s' 103, s' 104, s' 105, s' 106, s' 107, s' 108, s' 109, s' 110, s' 111, s' 112, s' 113, s' 114, s' 115, s' 116, s' 117, s' 118, s' 119, s' 120, s' 121, s' 122, s' 123, s' 124, s' 125, s' 126, s' 127, s' 128, s' 129, s' 130, s' 131, s' 132, s' 133, s' 134, s' 135, s' 136, s' 137, s' 138, s' 139, s' 140, s' 141, s' 142, s' 143, s' 144, s' 145, s' 146, s' 147, s' 148, s' 149, s' 150, s' 151, s' 152, s' 153, s' 154, s' 155, s' 156, s' 157, s' 158, s' 159, s' 160, s' 161, s' 162, s' 163, s' 164, s' 165, s' 166, s' 167, s' 168, s' 169, s' 170, s' 171, s' 172, s' 173]) (fun _ => G) (fun b => b ≤ l.length) (fun b => l.length - b) 0 (by rw [List.take_zero, ctI, Int.add_zero, hw]; rfl) rfl (Nat.zero_le _) ?_
      intro i s' hi
      have hc0 := ctI_nn (l.take i) s0
      have hc1 := ctI_take_le l i s0
      have hsb := sB_bd L w.toNat hL7 (ctI (l.take i) s0).toNat
      by_cases hil : i < l.length
      · have htk := ctI_take hil s0
        have hF := hcell i hil
        by_cases hls : l.getD i 0 = s0
        · obtain ⟨f1, f2, f3, f4, f5⟩ := hF hls
          rw [if_pos hls] at htk
          have hpw := sB_step L w (ctI (l.take i) s0) (by omega) hc0
          have hgb := gB_bd L (w + ctI (l.take i) s0).toNat hL7
          focus
            with_reducible refine s_seq ?_
            with_reducible refine s_seq ?_
            with_reducible refine s_reg ?_
            refine smove ?_
            simp only [pu', p0', c1', c0', i1', z0', b8_nat]
            refine smove ?_
            simp only [pu', p0', c1', c0', i1', z0', b8_nat]
            refine sLt (fun hb => ?_) (fun hb => ?_)
            replace hb := dT' hb
            simp only [pu', p0', c1', c0', i1', z0', b8_nat]
            with_reducible refine s_end ?_
            with_reducible refine s_then ?_
            refine sCT ?_
            with_reducible refine s_skip ?_
            with_reducible refine s_then ?_
            with_reducible refine s_seq ?_
            with_reducible refine s_block ?_
            with_reducible refine s_seq ?_
            with_reducible refine s_seq ?_
            with_reducible refine s_reg ?_
            refine smove ?_
            simp only [pu', p0', c1', c0', i1', z0', b8_nat]
            refine smove ?_
            simp only [pu', p0', c1', c0', i1', z0', b8_nat]
            refine sidxE ?_
            simp only [pu', p0', c1', c0', i1', z0', b8_nat]
            refine sloadE1 ?_
            simp only [pu', p0', c1', c0', i1', z0', b8_nat]
            refine smove ?_
            simp only [pu', p0', c1', c0', i1', z0', b8_nat]
            refine sNe (fun hb => ?_) (fun hb => ?_)
            replace hb := dT' hb
            (exfalso; omega)
            replace hb := dF' hb
            simp only [pu', p0', c1', c0', i1', z0', b8_nat]
            with_reducible refine s_end ?_
            with_reducible refine s_then ?_
            refine sCF ?_
            with_reducible refine s_skip ?_
            with_reducible refine s_then ?_
            with_reducible refine s_seq ?_
            with_reducible refine s_seq ?_
            (refine s_regQ (id := 20) [(0, true), (1, true), (2, true), (3, true), (4, true), (5, true), (6, true), (7, true), (8, true), (9, true), (10, true), (11, true), (12, true), (13, true), (14, true), (15, true), (16, true), (17, true), (18, true), (19, true), (20, true), (21, true)] (by kernel_rfl) (by conv => lhs; simp only [pickO, List.getElem?_cons_succ, List.getElem?_cons_zero]) ?_)
            refine qmove ?_
            simp only [pu', p0', c1', c0', i1', z0', b8_nat]
            refine qmove ?_
            simp only [pu', p0', c1', c0', i1', z0', b8_nat]
            refine qidxE ?_
            simp only [pu', p0', c1', c0', i1', z0', b8_nat]
            refine qloadE1 ?_
            simp only [pu', p0', c1', c0', i1', z0', b8_nat]
            refine qLt (fun hb => ?_) (fun hb => ?_)
            replace hb := dT' hb
            (exfalso; omega)
            replace hb := dF' hb
            simp only [pu', p0', c1', c0', i1', z0', b8_nat]
            refine qmove ?_
            simp only [pu', p0', c1', c0', i1', z0', b8_nat]
            refine qmove ?_
            simp only [pu', p0', c1', c0', i1', z0', b8_nat]
            refine qmove ?_
            simp only [pu', p0', c1', c0', i1', z0', b8_nat]
            refine qidxE ?_
            simp only [pu', p0', c1', c0', i1', z0', b8_nat]
            refine qloadE1 ?_
            simp only [pu', p0', c1', c0', i1', z0', b8_nat]
            refine qfad ?_
            simp only [pu', p0', c1', c0', i1', z0', b8_nat]
            refine qload1 ?_
            simp only [pu', p0', c1', c0', i1', z0', b8_nat]
            refine qGt (fun hb => ?_) (fun hb => ?_)
            replace hb := dT' hb
            (exfalso; omega)
            replace hb := dF' hb
            simp only [pu', p0', c1', c0', i1', z0', b8_nat]
            refine qpickF ?_
            simp only [pu', p0', c1', c0', i1', z0', b8_nat]
            refine qmove ?_
            simp only [pu', p0', c1', c0', i1', z0', b8_nat]
            refine qmove ?_
            simp only [pu', p0', c1', c0', i1', z0', b8_nat]
            refine qmove ?_
            simp only [pu', p0', c1', c0', i1', z0', b8_nat]
            refine qidxE ?_
            simp only [pu', p0', c1', c0', i1', z0', b8_nat]
            refine qloadE1 ?_
            simp only [pu', p0', c1', c0', i1', z0', b8_nat]
            refine qmove ?_
            simp only [pu', p0', c1', c0', i1', z0', b8_nat]
            refine qNe (fun hb => ?_) (fun hb => ?_)
            replace hb := dT' hb
            (exfalso; omega)
            replace hb := dF' hb
            simp only [pu', p0', c1', c0', i1', z0', b8_nat]
            refine qpickF ?_
            simp only [pu', p0', c1', c0', i1', z0', b8_nat]
            with_reducible refine q_end ?_
            with_reducible refine s_then ?_
            refine sCF ?_
            with_reducible refine s_skip ?_
            with_reducible refine s_then ?_
            (refine s_regQ (id := 22) [(0, true), (1, true), (2, true), (3, true), (4, true), (5, true), (6, true), (7, true), (8, true), (9, true), (10, true), (11, true), (12, true), (13, true), (14, true)] (by kernel_rfl) (by conv => lhs; simp only [pickO, List.getElem?_cons_succ, List.getElem?_cons_zero]) ?_)
            refine qmove ?_
            simp only [pu', p0', c1', c0', i1', z0', b8_nat]
            refine qadd ?_
            simp only [pu', p0', c1', c0', i1', z0', b8_nat]
            refine qmove ?_
            simp only [pu', p0', c1', c0', i1', z0', b8_nat]
            refine qmove ?_
            simp only [pu', p0', c1', c0', i1', z0', b8_nat]
            refine qmove ?_
            simp only [pu', p0', c1', c0', i1', z0', b8_nat]
            refine qidxE ?_
            simp only [pu', p0', c1', c0', i1', z0', b8_nat]
            refine qloadE1 ?_
            simp only [pu', p0', c1', c0', i1', z0', b8_nat]
            refine qconv ?_
            simp only [pu', p0', c1', c0', i1', z0', b8_nat]
            refine qshl1 ?_
            simp only [pu', p0', c1', c0', i1', z0', b8_nat]
            refine qadd ?_
            simp only [pu', p0', c1', c0', i1', z0', b8_nat]
            refine qmove ?_
            simp only [pu', p0', c1', c0', i1', z0', b8_nat]
            refine qadd ?_
            simp only [pu', p0', c1', c0', i1', z0', b8_nat]
            refine qassign ?_
            simp only [pu', p0', c1', c0', i1', z0', b8_nat]
            refine qassign ?_
            simp only [pu', p0', c1', c0', i1', z0', b8_nat]
            refine qassign ?_
            simp only [pu', p0', c1', c0', i1', z0', b8_nat]
            with_reducible refine q_end ?_
            with_reducible refine s_blkN ?_
            with_reducible refine s_then ?_
            with_reducible refine s_reg ?_
            refine smove ?_
            simp only [pu', p0', c1', c0', i1', z0', b8_nat]
            refine sadd ?_
            simp only [pu', p0', c1', c0', i1', z0', b8_nat]
            refine sassign ?_
            simp only [pu', p0', c1', c0', i1', z0', b8_nat]
            with_reducible refine s_end ?_
            rotate_left 1
            replace hb := dF' hb
            (exfalso; omega)
          refine l_next (i + 1) (by omega) (by omega) (by rw [htk, hpw, ← f3, Int.add_assoc]; rfl) rfl
        · rw [if_neg hls, Int.add_zero] at htk
          focus
            with_reducible refine s_seq ?_
            with_reducible refine s_seq ?_
            with_reducible refine s_reg ?_
            refine smove ?_
            simp only [pu', p0', c1', c0', i1', z0', b8_nat]
            refine smove ?_
            simp only [pu', p0', c1', c0', i1', z0', b8_nat]
            refine sLt (fun hb => ?_) (fun hb => ?_)
            replace hb := dT' hb
            simp only [pu', p0', c1', c0', i1', z0', b8_nat]
            with_reducible refine s_end ?_
            with_reducible refine s_then ?_
            refine sCT ?_
            with_reducible refine s_skip ?_
            with_reducible refine s_then ?_
            with_reducible refine s_seq ?_
            with_reducible refine s_block ?_
            with_reducible refine s_seq ?_
            with_reducible refine s_seq ?_
            with_reducible refine s_reg ?_
            refine smove ?_
            simp only [pu', p0', c1', c0', i1', z0', b8_nat]
            refine smove ?_
            simp only [pu', p0', c1', c0', i1', z0', b8_nat]
            refine sidxE ?_
            simp only [pu', p0', c1', c0', i1', z0', b8_nat]
            refine sloadE1 ?_
            simp only [pu', p0', c1', c0', i1', z0', b8_nat]
            refine smove ?_
            simp only [pu', p0', c1', c0', i1', z0', b8_nat]
            refine sNe (fun hb => ?_) (fun hb => ?_)
            replace hb := dT' hb
            simp only [pu', p0', c1', c0', i1', z0', b8_nat]
            with_reducible refine s_end ?_
            with_reducible refine s_then ?_
            refine sCT ?_
            with_reducible refine s_exit ?_
            with_reducible refine s_thenE ?_
            with_reducible refine s_blkE ?_
            with_reducible refine s_then ?_
            with_reducible refine s_reg ?_
            refine smove ?_
            simp only [pu', p0', c1', c0', i1', z0', b8_nat]
            refine sadd ?_
            simp only [pu', p0', c1', c0', i1', z0', b8_nat]
            refine sassign ?_
            simp only [pu', p0', c1', c0', i1', z0', b8_nat]
            with_reducible refine s_end ?_
            rotate_left 1
            replace hb := dF' hb
            exact absurd (by with_reducible assumption) hb
            replace hb := dF' hb
            (exfalso; omega)
          refine l_next (i + 1) (by omega) (by omega) (by rw [htk]; rfl) rfl
      · rw [List.take_of_length_le (by omega), hct]
        focus
          with_reducible refine s_seq ?_
          with_reducible refine s_seq ?_
          with_reducible refine s_reg ?_
          refine smove ?_
          simp only [pu', p0', c1', c0', i1', z0', b8_nat]
          refine smove ?_
          simp only [pu', p0', c1', c0', i1', z0', b8_nat]
          refine sLt (fun hb => ?_) (fun hb => ?_)
          replace hb := dT' hb
          (exfalso; omega)
          replace hb := dF' hb
          simp only [pu', p0', c1', c0', i1', z0', b8_nat]
          with_reducible refine s_end ?_
          with_reducible refine s_then ?_
          refine sCF ?_
          with_reducible refine s_exit ?_
          with_reducible refine s_thenE ?_
          with_reducible refine l_exit ?_
          with_reducible refine s_blkE ?_
          with_reducible refine s_then ?_
          with_reducible refine s_seq ?_
          with_reducible refine s_reg ?_
          refine sloadW ?_
          simp only [pu', p0', c1', c0', i1', z0', b8_nat]
          refine smove ?_
          simp only [pu', p0', c1', c0', i1', z0', b8_nat]
          refine sC (hx := rfl) ((c9 _ inferInstance).mono ?_)
          rintro _ m9 _ ⟨zc, rfl, pzc, S9⟩
          simp only [pu', p0', c1', c0', i1', n0', n3', n1', n2', a2', a1', a0', n4', Nat.reduceAdd, z0', n5', sa0, sa1, sa2, sa3, sa4, sa5, sa6, sa7, sa8, sa9, sa10, sa11]
          refine smove ?_
          simp only [pu', p0', c1', c0', i1', z0', b8_nat]
          refine sext ?_
          simp only [pu', p0', c1', c0', i1', z0', b8_nat]
          refine sext ?_
          simp only [pu', p0', c1', c0', i1', z0', b8_nat]
          refine sassign ?_
          simp only [pu', p0', c1', c0', i1', z0', b8_nat]
          refine sassign ?_
          simp only [pu', p0', c1', c0', i1', z0', b8_nat]
          with_reducible refine s_end ?_
          with_reducible refine s_then ?_
          with_reducible refine s_seq ?_
          with_reducible refine s_reg ?_
          refine smove ?_
          simp only [pu', p0', c1', c0', i1', z0', b8_nat]
          refine smove ?_
          simp only [pu', p0', c1', c0', i1', z0', b8_nat]
          refine sNe (fun hb => ?_) (fun hb => ?_)
          replace hb := dT' hb
          (exfalso; omega)
          replace hb := dF' hb
          simp only [pu', p0', c1', c0', i1', z0', b8_nat]
          refine smove ?_
          simp only [pu', p0', c1', c0', i1', z0', b8_nat]
          refine smove ?_
          simp only [pu', p0', c1', c0', i1', z0', b8_nat]
          refine slenE ?_
          simp only [pu', p0', c1', c0', i1', z0', b8_nat]
          refine smove ?_
          simp only [pu', p0', c1', c0', i1', z0', b8_nat]
          refine sNe (fun hb => ?_) (fun hb => ?_)
          replace hb := dT' hb
          (exfalso; omega)
          replace hb := dF' hb
          simp only [pu', p0', c1', c0', i1', z0', b8_nat]
          refine spickF ?_
          simp only [pu', p0', c1', c0', i1', z0', b8_nat]
          refine smove ?_
          simp only [pu', p0', c1', c0', i1', z0', b8_nat]
          refine smove ?_
          simp only [pu', p0', c1', c0', i1', z0', b8_nat]
          refine sEq (fun hb => ?_) (fun hb => ?_)
          replace hb := dT' hb
          (exfalso; omega)
          replace hb := dF' hb
          simp only [pu', p0', c1', c0', i1', z0', b8_nat]
          refine smove ?_
          simp only [pu', p0', c1', c0', i1', z0', b8_nat]
          refine sEq (fun hb => ?_) (fun hb => ?_)
          replace hb := dT' hb
          (exfalso; omega)
          replace hb := dF' hb
          simp only [pu', p0', c1', c0', i1', z0', b8_nat]
          refine sneB (fun hb => ?_) (fun hb => ?_)
          simp only [decide_eq_true_eq, Int.toNat_natCast, decide_eq_false_iff_not, Bool.not_eq_true', Bool.not_eq_false', not_true_eq_false, not_false_eq_true, beq_self_eq_true, Bool.and_true, Bool.true_and, Bool.and_false, Bool.false_and, Bool.and_eq_true, Bool.and_eq_false_iff, beq_iff_eq, beq_eq_false_iff_ne, ne_eq, Bool.not_true, Bool.not_false, Bool.true_eq_false, Bool.false_eq_true, Bool.not_eq_true, Bool.not_eq_false, and_true, true_and, and_false, false_and, or_false, false_or, or_true, true_or] at hb
          simp only [decide_eq_true_eq, Int.toNat_natCast, decide_eq_false_iff_not, Bool.not_eq_true', Bool.not_eq_false', not_true_eq_false, not_false_eq_true, beq_self_eq_true, Bool.and_true, Bool.true_and, Bool.and_false, Bool.false_and, Bool.and_eq_true, Bool.and_eq_false_iff, beq_iff_eq, beq_eq_false_iff_ne, ne_eq, Bool.not_true, Bool.not_false, Bool.true_eq_false, Bool.false_eq_true, Bool.not_eq_true, Bool.not_eq_false, and_true, true_and, and_false, false_and, or_false, false_or, or_true, true_or] at hb
          simp only [pu', p0', c1', c0', i1', z0', b8_nat]
          refine spickF ?_
          simp only [pu', p0', c1', c0', i1', z0', b8_nat]
          refine smove ?_
          simp only [pu', p0', c1', c0', i1', z0', b8_nat]
          refine smove ?_
          simp only [pu', p0', c1', c0', i1', z0', b8_nat]
          refine sGt (fun hb => ?_) (fun hb => ?_)
          replace hb := dT' hb
          simp only [pu', p0', c1', c0', i1', z0', b8_nat]
          refine smove ?_
          simp only [pu', p0', c1', c0', i1', z0', b8_nat]
          refine smove ?_
          simp only [pu', p0', c1', c0', i1', z0', b8_nat]
          refine sNe (fun hb => ?_) (fun hb => ?_)
          replace hb := dT' hb
          (exfalso; omega)
          replace hb := dF' hb
          simp only [pu', p0', c1', c0', i1', z0', b8_nat]
          refine smove ?_
          simp only [pu', p0', c1', c0', i1', z0', b8_nat]
          refine smove ?_
          simp only [pu', p0', c1', c0', i1', z0', b8_nat]
          refine smove ?_
          simp only [pu', p0', c1', c0', i1', z0', b8_nat]
          refine sNe (fun hb => ?_) (fun hb => ?_)
          replace hb := dT' hb
          (exfalso; omega)
          replace hb := dF' hb
          simp only [pu', p0', c1', c0', i1', z0', b8_nat]
          refine spickF ?_
          simp only [pu', p0', c1', c0', i1', z0', b8_nat]
          refine spickT ?_
          simp only [pu', p0', c1', c0', i1', z0', b8_nat]
          refine spickF ?_
          simp only [pu', p0', c1', c0', i1', z0', b8_nat]
          with_reducible refine s_end ?_
          with_reducible refine s_then ?_
          refine sCF ?_
          with_reducible refine s_skip ?_
          with_reducible refine s_blkN ?_
          with_reducible refine s_then ?_
          with_reducible refine s_reg ?_
          refine smove ?_
          simp only [pu', p0', c1', c0', i1', z0', b8_nat]
          refine sadd ?_
          simp only [pu', p0', c1', c0', i1', z0', b8_nat]
          refine sassign ?_
          simp only [pu', p0', c1', c0', i1', z0', b8_nat]
          with_reducible refine s_end ?_
          rotate_left 1
          replace hb := dF' hb
          (exfalso; omega)
        all_goals first
          | (exfalso; omega; done)
          | (refine l_next ⟨s0 + 1, _⟩ ⟨by simp only []; omega, Sep.sub inferInstance (by repeat' first | exact List.Sublist.refl _ | exact List.sublist_append_left _ _ | exact List.nil_sublist _ | refine List.Sublist.cons_cons _ ?_ | refine List.Sublist.cons _ ?_ | refine List.Sublist.trans ?_ (List.sublist_append_left _ _))⟩ (by simp only []; omega) (by rfl) rfl; done)
    · have hw : wantI (ps.getD s0 0) = (if ps.getD s0 0 < 0 then 0 else ps.getD s0 0) := by rw [wantI, if_neg hp1, if_neg (by omega)]
      focus
        with_reducible refine s_seq ?_
        with_reducible refine s_seq ?_
        with_reducible refine s_reg ?_
        refine smove ?_
        simp only [pu', p0', c1', c0', i1', z0', b8_nat]
        refine sfad ?_
        simp only [pu', p0', c1', c0', i1', z0', b8_nat]
        refine sload1 ?_
        simp only [pu', p0', c1', c0', i1', z0', b8_nat]
        refine slenE ?_
        simp only [pu', p0', c1', c0', i1', z0', b8_nat]
        refine sLt (fun hb => ?_) (fun hb => ?_)
        replace hb := dT' hb
        simp only [pu', p0', c1', c0', i1', z0', b8_nat]
        with_reducible refine s_end ?_
        with_reducible refine s_then ?_
        refine sCT ?_
        with_reducible refine s_skip ?_
        with_reducible refine s_then ?_
        with_reducible refine s_seq ?_
        with_reducible refine s_block ?_
        with_reducible refine s_seq ?_
        with_reducible refine s_reg ?_
        refine sfad ?_
        simp only [pu', p0', c1', c0', i1', z0', b8_nat]
        refine sload1 ?_
        simp only [pu', p0', c1', c0', i1', z0', b8_nat]
        refine smove ?_
        simp only [pu', p0', c1', c0', i1', z0', b8_nat]
        refine sidxE ?_
        simp only [pu', p0', c1', c0', i1', z0', b8_nat]
        refine sloadE1 ?_
        simp only [pu', p0', c1', c0', i1', z0', b8_nat]
        refine smax ?_
        simp only [pu', p0', c1', c0', i1', z0', b8_nat]
        refine sassign ?_
        simp only [pu', p0', c1', c0', i1', z0', b8_nat]
        with_reducible refine s_end ?_
        with_reducible refine s_then ?_
        with_reducible refine s_seq ?_
        with_reducible refine s_seq ?_
        with_reducible refine s_reg ?_
        refine sfad ?_
        simp only [pu', p0', c1', c0', i1', z0', b8_nat]
        refine sload1 ?_
        simp only [pu', p0', c1', c0', i1', z0', b8_nat]
        refine smove ?_
        simp only [pu', p0', c1', c0', i1', z0', b8_nat]
        refine sidxE ?_
        simp only [pu', p0', c1', c0', i1', z0', b8_nat]
        refine sloadE1 ?_
        simp only [pu', p0', c1', c0', i1', z0', b8_nat]
        refine sEq (fun hb => ?_) (fun hb => ?_)
        replace hb := dT' hb
        (exfalso; omega)
        replace hb := dF' hb
        simp only [pu', p0', c1', c0', i1', z0', b8_nat]
        with_reducible refine s_end ?_
        with_reducible refine s_then ?_
        refine sCF ?_
        with_reducible refine s_skip ?_
        with_reducible refine s_then ?_
        with_reducible refine s_seq ?_
        with_reducible refine s_reg ?_
        refine smove ?_
        simp only [pu', p0', c1', c0', i1', z0', b8_nat]
        refine sassign ?_
        simp only [pu', p0', c1', c0', i1', z0', b8_nat]
        refine sassign ?_
        simp only [pu', p0', c1', c0', i1', z0', b8_nat]
        refine sassign ?_
        simp only [pu', p0', c1', c0', i1', z0', b8_nat]
        with_reducible refine s_end ?_
        with_reducible refine s_then ?_
        with_reducible refine s_seq ?_
        with_reducible refine s_seq ?_
        with_reducible refine s_reg ?_
        refine sassign ?_
        simp only [pu', p0', c1', c0', i1', z0', b8_nat]
        with_reducible refine s_end ?_
        with_reducible refine s_then ?_
        with_reducible refine s_block ?_
        rotate_left 1
        replace hb := dF' hb
        (exfalso; omega)
      generalize wantI (ps.getD s0 0) = w at *
      refine s_loop hm (fun (b : Nat) s' => [s' 0, s' 1, s' 2, s' 3, s' 4, B true, .ptr m26.length 0, I (2 ^ L), zl, s' 9, zb, s' 11, zx, s' 13, I s0, I w, I (ctI (l.take b) s0), I (sB L w.toNat (ctI (l.take b) s0).toNat), I (w + ctI (l.take b) s0), I b, s' 20, s' 21, s' 22, s' 23, s' 24, s' 25, s' 26, s' 27, s' 28, s' 29, s' 30, s' 31, s' 32, s' 33, s' 34, s' 35, s' 36, s' 37, s' 38, s' 39, s' 40, s' 41, s' 42, s' 43, s' 44, s' 45, s' 46, s' 47, s' 48, s' 49, s' 50, s' 51, s' 52, s' 53, s' 54, s' 55, s' 56, s' 57, s' 58, s' 59, s' 60, s' 61, s' 62, s' 63, s' 64, s' 65, s' 66, s' 67, s' 68, s' 69, s' 70, s' 71, s' 72, s' 73, s' 74, s' 75, s' 76, s' 77, s' 78, s' 79, s' 80, s' 81, s' 82, s' 83, s' 84, s' 85, s' 86, s' 87, s' 88, s' 89, s' 90, s' 91, s' 92, s' 93, s' 94, s' 95, s' 96, s' 97, s' 98, s' 99, s' 100, s' 101, s' 102, s' 103, s' 104, s' 105, s' 106, s' 107, s' 108, s' 109, s' 110, s' 111, s' 112, s' 113, s' 114, s' 115, s' 116, s' 117, s' 118, s' 119, s' 120, s' 121, s' 122, s' 123, s' 124, s' 125, s' 126, s' 127, s' 128, s' 129, s' 130, s' 131, s' 132, s' 133, s' 134, s' 135, s' 136, s' 137, s' 138, s' 139, s' 140, s' 141, s' 142, s' 143, s' 144, s' 145, s' 146, s' 147, s' 148, s' 149, s' 150, s' 151, s' 152, s' 153, s' 154, s' 155, s' 156, s' 157, s' 158, s' 159, s' 160, s' 161, s' 162, s' 163, s' 164, s' 165, s' 166, s' 167, s' 168, s' 169, s' 170, s' 171, s' 172, s' 173]) (fun _ => G) (fun b => b ≤ l.length) (fun b => l.length - b) 0 (by rw [List.take_zero, ctI, Int.add_zero, hw]; rfl) rfl (Nat.zero_le _) ?_
      intro i s' hi
      have hc0 := ctI_nn (l.take i) s0
      have hc1 := ctI_take_le l i s0
      have hsb := sB_bd L w.toNat hL7 (ctI (l.take i) s0).toNat
      by_cases hil : i < l.length
      · have htk := ctI_take hil s0
        have hF := hcell i hil
        by_cases hls : l.getD i 0 = s0
        · obtain ⟨f1, f2, f3, f4, f5⟩ := hF hls
          rw [if_pos hls] at htk
          have hpw := sB_step L w (ctI (l.take i) s0) (by omega) hc0
          have hgb := gB_bd L (w + ctI (l.take i) s0).toNat hL7
          focus
            with_reducible refine s_seq ?_
            with_reducible refine s_seq ?_
            with_reducible refine s_reg ?_
            refine smove ?_
            simp only [pu', p0', c1', c0', i1', z0', b8_nat]
            refine smove ?_
            simp only [pu', p0', c1', c0', i1', z0', b8_nat]
            refine sLt (fun hb => ?_) (fun hb => ?_)
            replace hb := dT' hb
            simp only [pu', p0', c1', c0', i1', z0', b8_nat]
            with_reducible refine s_end ?_
            with_reducible refine s_then ?_
            refine sCT ?_
            with_reducible refine s_skip ?_
            with_reducible refine s_then ?_
            with_reducible refine s_seq ?_
            with_reducible refine s_block ?_
            with_reducible refine s_seq ?_
            with_reducible refine s_seq ?_
            with_reducible refine s_reg ?_
            refine smove ?_
            simp only [pu', p0', c1', c0', i1', z0', b8_nat]
            refine smove ?_
            simp only [pu', p0', c1', c0', i1', z0', b8_nat]
            refine sidxE ?_
            simp only [pu', p0', c1', c0', i1', z0', b8_nat]
            refine sloadE1 ?_
            simp only [pu', p0', c1', c0', i1', z0', b8_nat]
            refine smove ?_
            simp only [pu', p0', c1', c0', i1', z0', b8_nat]
            refine sNe (fun hb => ?_) (fun hb => ?_)
            replace hb := dT' hb
            (exfalso; omega)
            replace hb := dF' hb
            simp only [pu', p0', c1', c0', i1', z0', b8_nat]
            with_reducible refine s_end ?_
            with_reducible refine s_then ?_
            refine sCF ?_
            with_reducible refine s_skip ?_
            with_reducible refine s_then ?_
            with_reducible refine s_seq ?_
            with_reducible refine s_seq ?_
            (refine s_regQ (id := 20) [(0, true), (1, true), (2, true), (3, true), (4, true), (5, true), (6, true), (7, true), (8, true), (9, true), (10, true), (11, true), (12, true), (13, true), (14, true), (15, true), (16, true), (17, true), (18, true), (19, true), (20, true), (21, true)] (by kernel_rfl) (by conv => lhs; simp only [pickO, List.getElem?_cons_succ, List.getElem?_cons_zero]) ?_)
            refine qmove ?_
            simp only [pu', p0', c1', c0', i1', z0', b8_nat]
            refine qmove ?_
            simp only [pu', p0', c1', c0', i1', z0', b8_nat]
            refine qidxE ?_
            simp only [pu', p0', c1', c0', i1', z0', b8_nat]
            refine qloadE1 ?_
            simp only [pu', p0', c1', c0', i1', z0', b8_nat]
            refine qLt (fun hb => ?_) (fun hb => ?_)
            replace hb := dT' hb
            (exfalso; omega)
            replace hb := dF' hb
            simp only [pu', p0', c1', c0', i1', z0', b8_nat]
            refine qmove ?_
            simp only [pu', p0', c1', c0', i1', z0', b8_nat]
            refine qmove ?_
            simp only [pu', p0', c1', c0', i1', z0', b8_nat]
            refine qmove ?_
            simp only [pu', p0', c1', c0', i1', z0', b8_nat]
            refine qidxE ?_
            simp only [pu', p0', c1', c0', i1', z0', b8_nat]
            refine qloadE1 ?_
            simp only [pu', p0', c1', c0', i1', z0', b8_nat]
            refine qfad ?_
            simp only [pu', p0', c1', c0', i1', z0', b8_nat]
            refine qload1 ?_
            simp only [pu', p0', c1', c0', i1', z0', b8_nat]
            refine qGt (fun hb => ?_) (fun hb => ?_)
            replace hb := dT' hb
            (exfalso; omega)
            replace hb := dF' hb
            simp only [pu', p0', c1', c0', i1', z0', b8_nat]
            refine qpickF ?_
            simp only [pu', p0', c1', c0', i1', z0', b8_nat]
            refine qmove ?_
            simp only [pu', p0', c1', c0', i1', z0', b8_nat]
            refine qmove ?_
            simp only [pu', p0', c1', c0', i1', z0', b8_nat]
            refine qmove ?_
            simp only [pu', p0', c1', c0', i1', z0', b8_nat]
            refine qidxE ?_
            simp only [pu', p0', c1', c0', i1', z0', b8_nat]
            refine qloadE1 ?_
            simp only [pu', p0', c1', c0', i1', z0', b8_nat]
            refine qmove ?_
            simp only [pu', p0', c1', c0', i1', z0', b8_nat]
            refine qNe (fun hb => ?_) (fun hb => ?_)
            replace hb := dT' hb
            (exfalso; omega)
            replace hb := dF' hb
            simp only [pu', p0', c1', c0', i1', z0', b8_nat]
            refine qpickF ?_
            simp only [pu', p0', c1', c0', i1', z0', b8_nat]
            with_reducible refine q_end ?_
            with_reducible refine s_then ?_
            refine sCF ?_
            with_reducible refine s_skip ?_
            with_reducible refine s_then ?_
            (refine s_regQ (id := 22) [(0, true), (1, true), (2, true), (3, true), (4, true), (5, true), (6, true), (7, true), (8, true), (9, true), (10, true), (11, true), (12, true), (13, true), (14, true)] (by kernel_rfl) (by conv => lhs; simp only [pickO, List.getElem?_cons_succ, List.getElem?_cons_zero]) ?_)
            refine qmove ?_
            simp only [pu', p0', c1', c0', i1', z0', b8_nat]
            refine qadd ?_
            simp only [pu', p0', c1', c0', i1', z0', b8_nat]
            refine qmove ?_
            simp only [pu', p0', c1', c0', i1', z0', b8_nat]
            refine qmove ?_
            simp only [pu', p0', c1', c0', i1', z0', b8_nat]
            refine qmove ?_
            simp only [pu', p0', c1', c0', i1', z0', b8_nat]
            refine qidxE ?_
            simp only [pu', p0', c1', c0', i1', z0', b8_nat]
            refine qloadE1 ?_
            simp only [pu', p0', c1', c0', i1', z0', b8_nat]
            refine qconv ?_
            simp only [pu', p0', c1', c0', i1', z0', b8_nat]
            refine qshl1 ?_
            simp only [pu', p0', c1', c0', i1', z0', b8_nat]
            refine qadd ?_
            simp only [pu', p0', c1', c0', i1', z0', b8_nat]
            refine qmove ?_
            simp only [pu', p0', c1', c0', i1', z0', b8_nat]
            refine qadd ?_
            simp only [pu', p0', c1', c0', i1', z0', b8_nat]
            refine qassign ?_
            simp only [pu', p0', c1', c0', i1', z0', b8_nat]
            refine qassign ?_
            simp only [pu', p0', c1', c0', i1', z0', b8_nat]
            refine qassign ?_
            simp only [pu', p0', c1', c0', i1', z0', b8_nat]
            with_reducible refine q_end ?_
            with_reducible refine s_blkN ?_
            with_reducible refine s_then ?_
            with_reducible refine s_reg ?_
            refine smove ?_
            simp only [pu', p0', c1', c0', i1', z0', b8_nat]
            refine sadd ?_
            simp only [pu', p0', c1', c0', i1', z0', b8_nat]
            refine sassign ?_
            simp only [pu', p0', c1', c0', i1', z0', b8_nat]
            with_reducible refine s_end ?_
            rotate_left 1
            replace hb := dF' hb
            (exfalso; omega)
          refine l_next (i + 1) (by omega) (by omega) (by rw [htk, hpw, ← f3, Int.add_assoc]; rfl) rfl
        · rw [if_neg hls, Int.add_zero] at htk
          focus
            with_reducible refine s_seq ?_
            with_reducible refine s_seq ?_
            with_reducible refine s_reg ?_
            refine smove ?_
            simp only [pu', p0', c1', c0', i1', z0', b8_nat]
            refine smove ?_
            simp only [pu', p0', c1', c0', i1', z0', b8_nat]
            refine sLt (fun hb => ?_) (fun hb => ?_)
            replace hb := dT' hb
            simp only [pu', p0', c1', c0', i1', z0', b8_nat]
            with_reducible refine s_end ?_
            with_reducible refine s_then ?_
            refine sCT ?_
            with_reducible refine s_skip ?_
            with_reducible refine s_then ?_
            with_reducible refine s_seq ?_
            with_reducible refine s_block ?_
            with_reducible refine s_seq ?_
            with_reducible refine s_seq ?_
            with_reducible refine s_reg ?_
            refine smove ?_
            simp only [pu', p0', c1', c0', i1', z0', b8_nat]
            refine smove ?_
            simp only [pu', p0', c1', c0', i1', z0', b8_nat]
            refine sidxE ?_
            simp only [pu', p0', c1', c0', i1', z0', b8_nat]
            refine sloadE1 ?_
            simp only [pu', p0', c1', c0', i1', z0', b8_nat]
            refine smove ?_
            simp only [pu', p0', c1', c0', i1', z0', b8_nat]
            refine sNe (fun hb => ?_) (fun hb => ?_)
            replace hb := dT' hb
            simp only [pu', p0', c1', c0', i1', z0', b8_nat]
            with_reducible refine s_end ?_
            with_reducible refine s_then ?_
            refine sCT ?_
            with_reducible refine s_exit ?_
            with_reducible refine s_thenE ?_
            with_reducible refine s_blkE ?_
            with_reducible refine s_then ?_
            with_reducible refine s_reg ?_
            refine smove ?_
            simp only [pu', p0', c1', c0', i1', z0', b8_nat]
            refine sadd ?_
            simp only [pu', p0', c1', c0', i1', z0', b8_nat]
            refine sassign ?_
            simp only [pu', p0', c1', c0', i1', z0', b8_nat]
            with_reducible refine s_end ?_
            rotate_left 1
            replace hb := dF' hb
            exact absurd (by with_reducible assumption) hb
            replace hb := dF' hb
            (exfalso; omega)
          refine l_next (i + 1) (by omega) (by omega) (by rw [htk]; rfl) rfl
      · rw [List.take_of_length_le (by omega), hct]
        focus
          with_reducible refine s_seq ?_
          with_reducible refine s_seq ?_
          with_reducible refine s_reg ?_
          refine smove ?_
          simp only [pu', p0', c1', c0', i1', z0', b8_nat]
          refine smove ?_
          simp only [pu', p0', c1', c0', i1', z0', b8_nat]
          refine sLt (fun hb => ?_) (fun hb => ?_)
          replace hb := dT' hb
          (exfalso; omega)
          replace hb := dF' hb
          simp only [pu', p0', c1', c0', i1', z0', b8_nat]
          with_reducible refine s_end ?_
          with_reducible refine s_then ?_
          refine sCF ?_
          with_reducible refine s_exit ?_
          with_reducible refine s_thenE ?_
          with_reducible refine l_exit ?_
          with_reducible refine s_blkE ?_
          with_reducible refine s_then ?_
          with_reducible refine s_seq ?_
          with_reducible refine s_reg ?_
          refine sloadW ?_
          simp only [pu', p0', c1', c0', i1', z0', b8_nat]
          refine smove ?_
          simp only [pu', p0', c1', c0', i1', z0', b8_nat]
          refine sC (hx := rfl) ((c9 _ inferInstance).mono ?_)
          rintro _ m9 _ ⟨zc, rfl, pzc, S9⟩
          simp only [pu', p0', c1', c0', i1', n0', n3', n1', n2', a2', a1', a0', n4', Nat.reduceAdd, z0', n5', sa0, sa1, sa2, sa3, sa4, sa5, sa6, sa7, sa8, sa9, sa10, sa11]
          refine smove ?_
          simp only [pu', p0', c1', c0', i1', z0', b8_nat]
          refine sext ?_
          simp only [pu', p0', c1', c0', i1', z0', b8_nat]
          refine sext ?_
          simp only [pu', p0', c1', c0', i1', z0', b8_nat]
          refine sassign ?_
          simp only [pu', p0', c1', c0', i1', z0', b8_nat]
          refine sassign ?_
          simp only [pu', p0', c1', c0', i1', z0', b8_nat]
          with_reducible refine s_end ?_
          with_reducible refine s_then ?_
          with_reducible refine s_seq ?_
          with_reducible refine s_reg ?_
          refine smove ?_
          simp only [pu', p0', c1', c0', i1', z0', b8_nat]
          refine smove ?_
          simp only [pu', p0', c1', c0', i1', z0', b8_nat]
          refine sNe (fun hb => ?_) (fun hb => ?_)
          replace hb := dT' hb
          (exfalso; omega)
          replace hb := dF' hb
          simp only [pu', p0', c1', c0', i1', z0', b8_nat]
          refine smove ?_
          simp only [pu', p0', c1', c0', i1', z0', b8_nat]
          refine smove ?_
          simp only [pu', p0', c1', c0', i1', z0', b8_nat]
          refine slenE ?_
          simp only [pu', p0', c1', c0', i1', z0', b8_nat]
          refine smove ?_
          simp only [pu', p0', c1', c0', i1', z0', b8_nat]
          refine sNe (fun hb => ?_) (fun hb => ?_)
          replace hb := dT' hb
          (exfalso; omega)
          replace hb := dF' hb
          simp only [pu', p0', c1', c0', i1', z0', b8_nat]
          refine spickF ?_
          simp only [pu', p0', c1', c0', i1', z0', b8_nat]
          refine smove ?_
          simp only [pu', p0', c1', c0', i1', z0', b8_nat]
          refine smove ?_
          simp only [pu', p0', c1', c0', i1', z0', b8_nat]
          refine sEq (fun hb => ?_) (fun hb => ?_)
          replace hb := dT' hb
          simp only [pu', p0', c1', c0', i1', z0', b8_nat]
          refine smove ?_
          simp only [pu', p0', c1', c0', i1', z0', b8_nat]
          refine sEq (fun hb => ?_) (fun hb => ?_)
          replace hb := dT' hb
          simp only [pu', p0', c1', c0', i1', z0', b8_nat]
          refine sneB (fun hb => ?_) (fun hb => ?_)
          simp only [decide_eq_true_eq, Int.toNat_natCast, decide_eq_false_iff_not, Bool.not_eq_true', Bool.not_eq_false', not_true_eq_false, not_false_eq_true, beq_self_eq_true, Bool.and_true, Bool.true_and, Bool.and_false, Bool.false_and, Bool.and_eq_true, Bool.and_eq_false_iff, beq_iff_eq, beq_eq_false_iff_ne, ne_eq, Bool.not_true, Bool.not_false, Bool.true_eq_false, Bool.false_eq_true, Bool.not_eq_true, Bool.not_eq_false, and_true, true_and, and_false, false_and, or_false, false_or, or_true, true_or] at hb
          simp only [decide_eq_true_eq, Int.toNat_natCast, decide_eq_false_iff_not, Bool.not_eq_true', Bool.not_eq_false', not_true_eq_false, not_false_eq_true, beq_self_eq_true, Bool.and_true, Bool.true_and, Bool.and_false, Bool.false_and, Bool.and_eq_true, Bool.and_eq_false_iff, beq_iff_eq, beq_eq_false_iff_ne, ne_eq, Bool.not_true, Bool.not_false, Bool.true_eq_false, Bool.false_eq_true, Bool.not_eq_true, Bool.not_eq_false, and_true, true_and, and_false, false_and, or_false, false_or, or_true, true_or] at hb
          simp only [pu', p0', c1', c0', i1', z0', b8_nat]
          refine spickF ?_
          simp only [pu', p0', c1', c0', i1', z0', b8_nat]
          refine smove ?_
          simp only [pu', p0', c1', c0', i1', z0', b8_nat]
          refine smove ?_
          simp only [pu', p0', c1', c0', i1', z0', b8_nat]
          refine sGt (fun hb => ?_) (fun hb => ?_)
          replace hb := dT' hb
          (exfalso; omega)
          replace hb := dF' hb
          simp only [pu', p0', c1', c0', i1', z0', b8_nat]
          refine smove ?_
          simp only [pu', p0', c1', c0', i1', z0', b8_nat]
          refine sN ?_
          simp only [pu', p0', c1', c0', i1', z0', b8_nat]
          refine sN ?_
          simp only [pu', p0', c1', c0', i1', z0', b8_nat]
          refine sN ?_
          simp only [pu', p0', c1', c0', i1', z0', b8_nat]
          refine sN ?_
          simp only [pu', p0', c1', c0', i1', z0', b8_nat]
          refine sN ?_
          simp only [pu', p0', c1', c0', i1', z0', b8_nat]
          refine sN ?_
          simp only [pu', p0', c1', c0', i1', z0', b8_nat]
          refine sN ?_
          simp only [pu', p0', c1', c0', i1', z0', b8_nat]
          refine spickF ?_
          simp only [pu', p0', c1', c0', i1', z0', b8_nat]
          refine spickF ?_
          simp only [pu', p0', c1', c0', i1', z0', b8_nat]
          with_reducible refine s_end ?_
          with_reducible refine s_then ?_
          refine sCF ?_
          with_reducible refine s_skip ?_
          with_reducible refine s_blkN ?_
          with_reducible refine s_then ?_
          with_reducible refine s_reg ?_
          refine smove ?_
          simp only [pu', p0', c1', c0', i1', z0', b8_nat]
          refine sadd ?_
          simp only [pu', p0', c1', c0', i1', z0', b8_nat]
          refine sassign ?_
          simp only [pu', p0', c1', c0', i1', z0', b8_nat]
          with_reducible refine s_end ?_
          rotate_left 1
          replace hb := dF' hb
          (exfalso; omega)
          replace hb := dF' hb
          simp only [pu', p0', c1', c0', i1', z0', b8_nat]
          refine smove ?_
          simp only [pu', p0', c1', c0', i1', z0', b8_nat]
          refine sEq (fun hb => ?_) (fun hb => ?_)
          replace hb := dT' hb
          (exfalso; omega)
          replace hb := dF' hb
          simp only [pu', p0', c1', c0', i1', z0', b8_nat]
          refine sneB (fun hb => ?_) (fun hb => ?_)
          simp only [decide_eq_true_eq, Int.toNat_natCast, decide_eq_false_iff_not, Bool.not_eq_true', Bool.not_eq_false', not_true_eq_false, not_false_eq_true, beq_self_eq_true, Bool.and_true, Bool.true_and, Bool.and_false, Bool.false_and, Bool.and_eq_true, Bool.and_eq_false_iff, beq_iff_eq, beq_eq_false_iff_ne, ne_eq, Bool.not_true, Bool.not_false, Bool.true_eq_false, Bool.false_eq_true, Bool.not_eq_true, Bool.not_eq_false, and_true, true_and, and_false, false_and, or_false, false_or, or_true, true_or] at hb
          simp only [decide_eq_true_eq, Int.toNat_natCast, decide_eq_false_iff_not, Bool.not_eq_true', Bool.not_eq_false', not_true_eq_false, not_false_eq_true, beq_self_eq_true, Bool.and_true, Bool.true_and, Bool.and_false, Bool.false_and, Bool.and_eq_true, Bool.and_eq_false_iff, beq_iff_eq, beq_eq_false_iff_ne, ne_eq, Bool.not_true, Bool.not_false, Bool.true_eq_false, Bool.false_eq_true, Bool.not_eq_true, Bool.not_eq_false, and_true, true_and, and_false, false_and, or_false, false_or, or_true, true_or] at hb
          simp only [pu', p0', c1', c0', i1', z0', b8_nat]
          refine spickF ?_
          simp only [pu', p0', c1', c0', i1', z0', b8_nat]
          refine smove ?_
          simp only [pu', p0', c1', c0', i1', z0', b8_nat]
          refine smove ?_
          simp only [pu', p0', c1', c0', i1', z0', b8_nat]
          refine sGt (fun hb => ?_) (fun hb => ?_)
          replace hb := dT' hb
          simp only [pu', p0', c1', c0', i1', z0', b8_nat]
          refine smove ?_
          simp only [pu', p0', c1', c0', i1', z0', b8_nat]
          refine smove ?_
          simp only [pu', p0', c1', c0', i1', z0', b8_nat]
          refine sNe (fun hb => ?_) (fun hb => ?_)
          replace hb := dT' hb
          (exfalso; omega)
          replace hb := dF' hb
          simp only [pu', p0', c1', c0', i1', z0', b8_nat]
          refine smove ?_
          simp only [pu', p0', c1', c0', i1', z0', b8_nat]
          refine smove ?_
          simp only [pu', p0', c1', c0', i1', z0', b8_nat]
          refine smove ?_
          simp only [pu', p0', c1', c0', i1', z0', b8_nat]
          refine sNe (fun hb => ?_) (fun hb => ?_)
          replace hb := dT' hb
          (exfalso; omega)
          replace hb := dF' hb
          simp only [pu', p0', c1', c0', i1', z0', b8_nat]
          refine spickF ?_
          simp only [pu', p0', c1', c0', i1', z0', b8_nat]
          refine spickT ?_
          simp only [pu', p0', c1', c0', i1', z0', b8_nat]
          refine spickF ?_
          simp only [pu', p0', c1', c0', i1', z0', b8_nat]
          with_reducible refine s_end ?_
          with_reducible refine s_then ?_
          refine sCF ?_
          with_reducible refine s_skip ?_
          with_reducible refine s_blkN ?_
          with_reducible refine s_then ?_
          with_reducible refine s_reg ?_
          refine smove ?_
          simp only [pu', p0', c1', c0', i1', z0', b8_nat]
          refine sadd ?_
          simp only [pu', p0', c1', c0', i1', z0', b8_nat]
          refine sassign ?_
          simp only [pu', p0', c1', c0', i1', z0', b8_nat]
          with_reducible refine s_end ?_
          rotate_left 1
          replace hb := dF' hb
          (exfalso; omega)
        all_goals first
          | (exfalso; omega; done)
          | (refine l_next ⟨s0 + 1, _⟩ ⟨by simp only []; omega, Sep.sub inferInstance (by repeat' first | exact List.Sublist.refl _ | exact List.sublist_append_left _ _ | exact List.nil_sublist _ | refine List.Sublist.cons_cons _ ?_ | refine List.Sublist.cons _ ?_ | refine List.Sublist.trans ?_ (List.sublist_append_left _ _))⟩ (by simp only []; omega) (by rfl) rfl; done)
  · with_reducible refine s_seq ?_
    with_reducible refine s_seq ?_
    with_reducible refine s_reg ?_
    refine smove ?_
    simp only [pu', p0', c1', c0', i1', z0', b8_nat]
    refine sfad ?_
    simp only [pu', p0', c1', c0', i1', z0', b8_nat]
    refine sload1 ?_
    simp only [pu', p0', c1', c0', i1', z0', b8_nat]
    refine slenE ?_
    simp only [pu', p0', c1', c0', i1', z0', b8_nat]
    refine sLt (fun hb => ?_) (fun hb => ?_)
    replace hb := dT' hb
    (exfalso; omega)
    replace hb := dF' hb
    simp only [pu', p0', c1', c0', i1', z0', b8_nat]
    with_reducible refine s_end ?_
    with_reducible refine s_then ?_
    refine sCF ?_
    with_reducible refine s_exit ?_
    with_reducible refine s_thenE ?_
    with_reducible refine l_exit ?_
    with_reducible refine s_blkE ?_
    with_reducible refine s_then ?_
    with_reducible refine s_seq ?_
    with_reducible refine s_reg ?_
    refine smove ?_
    simp only [pu', p0', c1', c0', i1', z0', b8_nat]
    refine sassign ?_
    simp only [pu', p0', c1', c0', i1', z0', b8_nat]
    with_reducible refine s_end ?_
    with_reducible refine s_then ?_
    with_reducible refine s_ret ?_
    all_goals try with_reducible refine w_n ?_
    all_goals refine w_1 rfl (by first | exact v_t (by rfl) | exact v_c1 (C1.p) (by rfl) (HA.p) (by rfl) | exact v_cF (CA.p) (by rfl) (HA.p) (by rfl)) ?_
    exact ⟨rfl, Sep.ext, rfl, trivial⟩
end Go.Proofs.Ytbdnmgbahigdhaa
