/-
  A part of the proof of a statement of a chapter's seat; conditions: stated at each theorem.
-/
import Derived.Test.YtgjbmhclgmpjdaaGreatQ15
set_option linter.unusedVariables false
set_option linter.unusedSectionVars false
set_option linter.unusedSimpArgs false
set_option linter.unusedVariables false
set_option maxRecDepth 100000
set_option maxHeartbeats 8000000
namespace Go.Proofs.YtgjbmhclgmpjdaaGreat
open Go.Az Go
/-! ### Blocks one behind the other -/
structure Bk where
  s : Int
  k : Int
  q : List UInt8
def BkAt (l : List UInt8) (x : Int) (b : Bk) (e z : Int) : Prop :=
  0 ≤ b.s ∧ b.s ≤ 1024 ∧ (b.q.length : Int) = b.s ∧ at0 l x 0 + at0 l x 1 * 256 + at0 l x 2 * 65536 = 8 * b.s + 2 * b.k + e ∧ z ≤ l.length ∧
    ((b.k = 0 ∧ z = x + 3 + b.s ∧ b.q = sub l (x + 3) b.s) ∨ (b.k = 1 ∧ z = x + 3 + 1 ∧ b.q = List.replicate b.s.toNat (l.getD (x + 3).toNat 0)))
def Bks (l : List UInt8) : Int → List Bk → Int → Prop
  | _, [], _ => False
  | x, [b], z => BkAt l x b 1 z
  | x, b :: c :: r, z => ∃ y, BkAt l x b 0 y ∧ Bks l y (c :: r) z
def flat (bs : List Bk) : List UInt8 := bs.flatMap (·.q)
theorem flat_cons (b : Bk) (r : List Bk) : flat (b :: r) = b.q ++ flat r := rfl
section
variable {l o : List UInt8} {x m z : Int} {b : Bk} (h0 : 0 ≤ x) (hl : (l.length : Int) ≤ 1048576) (ho : (o.length : Int) ≤ m) (m0 : 0 ≤ m) (m1 : m ≤ 1048576)
include h0 hl ho m0 m1
theorem blk_ok {e : Int} (he : e = 0 ∨ e = 1) (hb : BkAt l x b e z) (hm1 : o.length + b.q.length ≤ m) :
    ACalls Tryz.prog 57 [St l, I x, stA, St o, I 1024, I m] [] (fun r _ => r = .tup [St (o ++ b.q), .agg stL, B (e == 1), I z, .agg [I 0, I 0]] ∧ r.sc 0 = true) := by
  obtain ⟨s, k, q⟩ := b
  obtain ⟨g0, g1, g2, g3, g4, ⟨rfl, rfl, g5⟩ | ⟨rfl, rfl, g5⟩⟩ := hb
  · simp only [] at *
    subst g5
    exact raw_any l o x m s e h0 hl ho m0 m1 g0 g1 he g4 g3 (by omega)
  · simp only [] at *
    subst g5
    exact rle_any l o x m s e h0 hl ho m0 m1 g0 g1 he g4 g3 (by omega)
theorem blk_no {e : Int} (he : e = 0 ∨ e = 1) (hb : BkAt l x b e z) (hm1 : m < o.length + b.q.length) :
    ACalls Tryz.prog 57 [St l, I x, stA, St o, I 1024, I m] [] (fun r _ => r = .tup [St [], .agg zsL, B false, I 0, .agg [I 18, I x]] ∧ r.sc 0 = true) := by
  obtain ⟨s, k, q⟩ := b
  obtain ⟨g0, g1, g2, g3, g4, ⟨rfl, rfl, g5⟩ | ⟨rfl, rfl, g5⟩⟩ := hb
  · simp only [] at *
    exact over_any l o x m s e h0 hl ho m0 m1 g0 g1 he 0 (.inl rfl) (by omega) g3 (by omega)
  · simp only [] at *
    exact over_any l o x m s e h0 hl ho m0 m1 g0 g1 he 1 (.inr rfl) (by omega) g3 (by omega)
end
theorem bkat_lt {l : List UInt8} {x e z : Int} {b : Bk} (hb : BkAt l x b e z) : x + 3 ≤ z ∧ z ≤ l.length := by
  obtain ⟨g0, g1, g2, g3, g4, ⟨_, rfl, _⟩ | ⟨_, rfl, _⟩⟩ := hb <;> omega
def nextB (x : Int) (b : Bk) : Int := x + 3 + (if b.k = 0 then b.s else 1)
theorem bkat_next {l : List UInt8} {x e z : Int} {b : Bk} (hb : BkAt l x b e z) : z = nextB x b := by
  unfold nextB
  obtain ⟨g0, g1, g2, g3, g4, ⟨hk, rfl, _⟩ | ⟨hk, rfl, _⟩⟩ := hb
  · rw [if_pos hk]
  · rw [if_neg (by omega)]
/-- Where the limit is broken. -/
def limAt (m : Int) : Int → Int → List Bk → Int
  | _, _, [] => 0
  | x, n, b :: r => if n + b.q.length ≤ m then limAt m (nextB x b) (n + b.q.length) r else x
theorem lim_no {m x n : Int} {b : Bk} {r : List Bk} (h : m < n + b.q.length) : limAt m x n (b :: r) = x := by rw [limAt, if_neg (by omega)]
theorem lim_go {m x n : Int} {b : Bk} {r : List Bk} (h : n + b.q.length ≤ m) : limAt m x n (b :: r) = limAt m (nextB x b) (n + b.q.length) r := by rw [limAt, if_pos h]
theorem fresh2 : ACalls Tryz.prog 55 [] [] (fun r _ => r = .agg stL ∧ r.sc 0 = true) := fresh_any
structure IS where
  x : Int
  o : List UInt8
  p : List UInt8
  nx : Int
  bs : List Bk
  G : Hp
theorem iter_any (l : List UInt8) (x0 m nx0 z : Int) (bs0 : List Bk) (lo lf : AObj) (h0 : 0 ≤ x0) (hl : (l.length : Int) ≤ 1048576) (m0 : 0 ≤ m) (m1 : m ≤ 1048576) (hb0 : Bks l x0 bs0 z)
    (hyN : ∀ (x : Int) (o p : List UInt8) (nx y : Int) (X : Hp) (E : List Pc), Sep [] X (LB l o p x m nx 0 0 lo stL E) → AYld Tryz.prog 10 [I y, B false] X (fun r h' => r = B true ∧ Sep [] h' (LB l o p x m y 0 0 lo stL [])))
    (hyL : ∀ (x : Int) (o p : List UInt8) (nx y : Int) (X : Hp) (E : List Pc), Sep [] X (LB l o p x m nx 0 0 lo stL E) → AYld Tryz.prog 10 [I y, B true] X (fun r h' => r = B false ∧ Sep [] h' (LB l o p x m y 0 0 lf stL []))) :
    ACalls Tryz.prog 54 [.yld 10, .ptr 4 0, .ptr 5 0, .ptr 6 0, .ptr 7 0, .ptr 8 0] [.cells [St []] 9 true, .cells [I nx0] 3 true, .cells [I 0, I 0] 27 true, .cells hdL 96 true, .cells [St l] 9 true, .cells [I x0] 3 true, .cells hdL 96 true, .cells [I m] 3 true, .cells [.fn (.func 50) [.ptr 0 0, .ptr 2 0]] 102 true, .dfr, lo]
      (fun _ h' => ((flat bs0).length ≤ m ∧ ∃ o x, Sep [] h' (LB l o (flat bs0) x m z 0 0 lf stL [])) ∨ (m < (flat bs0).length ∧ ∃ o x nx, Sep [] h' (LB l o [] x m nx 18 (limAt m x0 0 bs0) lo zsL []))) := by
  refine acalls_of_wk hm Tryz.func54 rfl ?_
  simp only [Tryz.ntmps54, List.length_cons, List.length_nil, Nat.reduceAdd, Nat.reduceSub, List.reduceReplicate, List.cons_append, List.nil_append]
  show wk _ _ none _ _ ⟨_, []⟩ _
  with_reducible refine s_seq ?_
  with_reducible refine s_reg ?_
  refine sK (hx := rfl) (fresh2) ?_
  simp only [pu', p0', c1', c0', i1', z0', b8_nat]
  refine salloc ?_
  simp only [pu', p0', c1', c0', i1', n0', n3', n1', n2', a2', a1', a0', n4', Nat.reduceAdd, z0', n5', sa0, sa1, sa2, sa3, sa4, sa5, sa6, sa7, sa8, sa9, sa10, sa11]
  refine salloc ?_
  simp only [pu', p0', c1', c0', i1', n0', n3', n1', n2', a2', a1', a0', n4', Nat.reduceAdd, z0', n5', sa0, sa1, sa2, sa3, sa4, sa5, sa6, sa7, sa8, sa9, sa10, sa11]
  refine sstoreF ?_
  simp only [pu', p0', c1', c0', i1', n0', n3', n1', n2', a2', a1', a0', n4', Nat.reduceAdd, z0', n5', sa0, sa1, sa2, sa3, sa4, sa5, sa6, sa7, sa8, sa9, sa10, sa11]
  refine sstore1 ?_
  simp only [pu', p0', c1', c0', i1', n0', n3', n1', n2', a2', a1', a0', n4', Nat.reduceAdd, z0', n5', sa0, sa1, sa2, sa3, sa4, sa5, sa6, sa7, sa8, sa9, sa10, sa11]
  with_reducible refine s_end ?_
  with_reducible refine s_then ?_
  with_reducible refine s_seq ?_
  with_reducible refine s_reg ?_
  refine sfunc6 ?_
  simp only [pu', p0', c1', c0', i1', z0', b8_nat]
  refine sassign ?_
  simp only [pu', p0', c1', c0', i1', z0', b8_nat]
  with_reducible refine s_end ?_
  with_reducible refine s_then ?_
  with_reducible refine s_block ?_
  refine s_loop hm (fun (b : IS) s' => [.yld 10, .ptr 4 0, .ptr 5 0, .ptr 6 0, .ptr 7 0, .ptr 8 0, s' 6, .ptr 11 0, .ptr 12 0, .fn (.func 56) [.ptr 4 0, .ptr 5 0, .ptr 11 0, .ptr 12 0, .ptr 6 0, .ptr 7 0], s' 10, s' 11, s' 12, s' 13, s' 14, s' 15, s' 16, s' 17, s' 18, s' 19, s' 20, s' 21, s' 22, s' 23, s' 24, s' 25, s' 26, s' 27, s' 28, s' 29, s' 30, s' 31, s' 32]) (fun b => b.G) (fun b => 0 ≤ b.x ∧ (b.o.length : Int) ≤ m ∧ Bks l b.x b.bs z ∧ b.o ++ flat b.bs = flat bs0 ∧ Sep [] b.G (LB l b.o b.p b.x m b.nx 0 0 lo stL []) ∧ limAt m b.x b.o.length b.bs = limAt m x0 0 bs0) (fun b => b.bs.length) ⟨x0, [], [], nx0, bs0, _⟩ (by rfl) rfl ⟨h0, by simpa using m0, hb0, rfl, Sep.lits [] _, rfl⟩ ?_
  rintro ⟨x, o, p, nx, bs, G⟩ s' ⟨g0, g1, g2, g3, S, g5⟩
  simp only [] at g0 g1 g2 g3 S g5 ⊢
  rcases bs with _ | ⟨b, _ | ⟨c, r⟩⟩
  · exact g2.elim
  · have g4 := bkat_lt g2
    by_cases hm1 : o.length + b.q.length ≤ m
    · have c1 := step_any l o p x m nx 0 0 lo [] G S stL (.inl rfl) (o ++ b.q) true z 0 0 (blk_ok g0 hl g1 m0 m1 (e := 1) (.inr rfl) g2 hm1)
      with_reducible refine s_block ?_
      with_reducible refine s_seq ?_
      with_reducible refine s_reg ?_
      refine smove ?_
      simp only [pu', p0', c1', c0', i1', z0', b8_nat]
      refine sC (hx := rfl) ((c1).mono ?_)
      rintro _ m56 _ ⟨rfl, S1⟩
      simp only [pu', p0', c1', c0', i1', n0', n3', n1', n2', a2', a1', a0', n4', Nat.reduceAdd, z0', n5', sa0, sa1, sa2, sa3, sa4, sa5, sa6, sa7, sa8, sa9, sa10, sa11]
      refine smove ?_
      simp only [pu', p0', c1', c0', i1', z0', b8_nat]
      refine sext ?_
      simp only [pu', p0', c1', c0', i1', z0', b8_nat]
      refine sext ?_
      simp only [pu', p0', c1', c0', i1', z0', b8_nat]
      refine salloc ?_
      simp only [pu', p0', c1', c0', i1', n0', n3', n1', n2', a2', a1', a0', n4', Nat.reduceAdd, z0', n5', sa0, sa1, sa2, sa3, sa4, sa5, sa6, sa7, sa8, sa9, sa10, sa11]
      refine sassign ?_
      simp only [pu', p0', c1', c0', i1', z0', b8_nat]
      refine sstoreF ?_
      simp only [pu', p0', c1', c0', i1', n0', n3', n1', n2', a2', a1', a0', n4', Nat.reduceAdd, z0', n5', sa0, sa1, sa2, sa3, sa4, sa5, sa6, sa7, sa8, sa9, sa10, sa11]
      with_reducible refine s_end ?_
      with_reducible refine s_then ?_
      with_reducible refine s_seq ?_
      with_reducible refine s_reg ?_
      refine sload1 ?_
      simp only [pu', p0', c1', c0', i1', z0', b8_nat]
      refine sload1 ?_
      simp only [pu', p0', c1', c0', i1', z0', b8_nat]
      refine sloadW ?_
      simp only [pu', p0', c1', c0', i1', z0', b8_nat]
      refine sC (hx := rfl) ((told_any l (o ++ b.q) p z m nx 0 0 lo stL [pcC _ _] _ (S1.push _) (o ++ b.q) 0 0).mono ?_)
      rintro _ m50 _ ⟨rfl, S2⟩
      simp only [pu', p0', c1', c0', i1', n0', n3', n1', n2', a2', a1', a0', n4', Nat.reduceAdd, z0', n5', sa0, sa1, sa2, sa3, sa4, sa5, sa6, sa7, sa8, sa9, sa10, sa11]
      with_reducible refine s_end ?_
      with_reducible refine s_then ?_
      with_reducible refine s_seq ?_
      with_reducible refine s_reg ?_
      refine sfad ?_
      simp only [pu', p0', c1', c0', i1', z0', b8_nat]
      refine sload1 ?_
      simp only [pu', p0', c1', c0', i1', z0', b8_nat]
      refine sNe (fun hb => ?_) (fun hb => ?_)
      replace hb := dT' hb
      (exfalso; omega)
      replace hb := dF' hb
      simp only [pu', p0', c1', c0', i1', z0', b8_nat]
      refine smove ?_
      simp only [pu', p0', c1', c0', i1', z0', b8_nat]
      refine smove ?_
      simp only [pu', p0', c1', c0', i1', z0', b8_nat]
      refine sload1 ?_
      simp only [pu', p0', c1', c0', i1', z0', b8_nat]
      refine smove ?_
      simp only [pu', p0', c1', c0', i1', z0', b8_nat]
      refine sY (hx := rfl) ((hyL z (o ++ b.q) (o ++ b.q) nx z _ _ S2).mono ?_)
      rintro r X _ ⟨rfl, S3⟩
      simp only [Fr.put, List.set_cons_succ, List.set_cons_zero, Int.toNat_natCast, Nat.zero_add]
      refine snotF ?_
      simp only [pu', p0', c1', c0', i1', z0', b8_nat]
      refine spickF ?_
      simp only [pu', p0', c1', c0', i1', z0', b8_nat]
      with_reducible refine s_end ?_
      with_reducible refine s_then ?_
      refine sCT ?_
      with_reducible refine s_ret ?_
      with_reducible refine s_blkR ?_
      with_reducible refine l_ret ?_
      with_reducible refine s_blkR ?_
      all_goals try with_reducible refine w_n ?_
      all_goals refine w_0 rfl  ?_
      have e : flat bs0 = o ++ b.q := by rw [← g3]; simp [flat]
      rw [e]
      exact .inl ⟨by rw [List.length_append]; omega, _, _, S3⟩
    · have hmm : m < o.length + b.q.length := by omega
      have c1 := step_any l o p x m nx 0 0 lo [] G S zsL (.inr rfl) [] false 0 18 x (blk_no g0 hl g1 m0 m1 (e := 1) (.inr rfl) g2 hmm)
      focus
        with_reducible refine s_block ?_
        with_reducible refine s_seq ?_
        with_reducible refine s_reg ?_
        refine smove ?_
        simp only [pu', p0', c1', c0', i1', z0', b8_nat]
        refine sC (hx := rfl) ((c1).mono ?_)
        rintro _ m56 _ ⟨rfl, S1⟩
        simp only [pu', p0', c1', c0', i1', n0', n3', n1', n2', a2', a1', a0', n4', Nat.reduceAdd, z0', n5', sa0, sa1, sa2, sa3, sa4, sa5, sa6, sa7, sa8, sa9, sa10, sa11]
        refine smove ?_
        simp only [pu', p0', c1', c0', i1', z0', b8_nat]
        refine sext ?_
        simp only [pu', p0', c1', c0', i1', z0', b8_nat]
        refine sext ?_
        simp only [pu', p0', c1', c0', i1', z0', b8_nat]
        refine salloc ?_
        simp only [pu', p0', c1', c0', i1', n0', n3', n1', n2', a2', a1', a0', n4', Nat.reduceAdd, z0', n5', sa0, sa1, sa2, sa3, sa4, sa5, sa6, sa7, sa8, sa9, sa10, sa11]
        refine sassign ?_
        simp only [pu', p0', c1', c0', i1', z0', b8_nat]
        refine sstoreF ?_
        simp only [pu', p0', c1', c0', i1', n0', n3', n1', n2', a2', a1', a0', n4', Nat.reduceAdd, z0', n5', sa0, sa1, sa2, sa3, sa4, sa5, sa6, sa7, sa8, sa9, sa10, sa11]
        with_reducible refine s_end ?_
        with_reducible refine s_then ?_
        with_reducible refine s_seq ?_
        with_reducible refine s_reg ?_
        refine sload1 ?_
        simp only [pu', p0', c1', c0', i1', z0', b8_nat]
        refine sload1 ?_
        simp only [pu', p0', c1', c0', i1', z0', b8_nat]
        refine sloadW ?_
        simp only [pu', p0', c1', c0', i1', z0', b8_nat]
        refine sC (hx := rfl) ((told_any l [] p 0 m nx 0 0 lo zsL [pcC _ _] _ (S1.push _) [] 18 x).mono ?_)
        rintro _ m50 _ ⟨rfl, S2⟩
        simp only [pu', p0', c1', c0', i1', n0', n3', n1', n2', a2', a1', a0', n4', Nat.reduceAdd, z0', n5', sa0, sa1, sa2, sa3, sa4, sa5, sa6, sa7, sa8, sa9, sa10, sa11]
        with_reducible refine s_end ?_
        with_reducible refine s_then ?_
        with_reducible refine s_seq ?_
        with_reducible refine s_reg ?_
        refine sfad ?_
        simp only [pu', p0', c1', c0', i1', z0', b8_nat]
        refine sload1 ?_
        simp only [pu', p0', c1', c0', i1', z0', b8_nat]
        refine sNe (fun hb => ?_) (fun hb => ?_)
        replace hb := dT' hb
        simp only [pu', p0', c1', c0', i1', z0', b8_nat]
        refine smove ?_
        simp only [pu', p0', c1', c0', i1', z0', b8_nat]
        (with_reducible refine s_gN ?_ ?_; exact wG rfl rfl rfl rfl rfl)
        simp only [pu', p0', c1', c0', i1', z0', b8_nat]
        (with_reducible refine s_gN ?_ ?_; exact wG rfl rfl rfl rfl rfl)
        simp only [pu', p0', c1', c0', i1', z0', b8_nat]
        (with_reducible refine s_gN ?_ ?_; exact wG rfl rfl rfl rfl rfl)
        simp only [pu', p0', c1', c0', i1', z0', b8_nat]
        (with_reducible refine s_gN ?_ ?_; exact wG rfl rfl rfl rfl rfl)
        simp only [pu', p0', c1', c0', i1', z0', b8_nat]
        (with_reducible refine s_gN ?_ ?_; exact wG rfl rfl rfl rfl rfl)
        simp only [pu', p0', c1', c0', i1', z0', b8_nat]
        refine spickT ?_
        simp only [pu', p0', c1', c0', i1', z0', b8_nat]
        with_reducible refine s_end ?_
        with_reducible refine s_then ?_
        refine sCT ?_
        with_reducible refine s_ret ?_
        with_reducible refine s_blkR ?_
        with_reducible refine l_ret ?_
        with_reducible refine s_blkR ?_
        rotate_left 1
        replace hb := dF' hb
        (exfalso; omega)
      all_goals try with_reducible refine w_n ?_
      all_goals refine w_0 rfl  ?_
      rw [lim_no hmm] at g5
      rw [← g5]
      refine .inr ⟨?_, _, _, _, Sep.sub S2 (by repeat' first | exact List.Sublist.refl _ | exact List.sublist_append_left _ _ | exact List.nil_sublist _ | refine List.Sublist.cons_cons _ ?_ | refine List.Sublist.cons _ ?_ | refine List.Sublist.trans ?_ (List.sublist_append_left _ _))⟩
      rw [← g3, flat_cons, List.length_append, List.length_append]
      omega
  · obtain ⟨y, g2a, g2b⟩ := g2
    have g4 := bkat_lt g2a
    by_cases hm1 : o.length + b.q.length ≤ m
    · have c1 := step_any l o p x m nx 0 0 lo [] G S stL (.inl rfl) (o ++ b.q) false y 0 0 (blk_ok g0 hl g1 m0 m1 (e := 0) (.inl rfl) g2a hm1)
      with_reducible refine s_block ?_
      with_reducible refine s_seq ?_
      with_reducible refine s_reg ?_
      refine smove ?_
      simp only [pu', p0', c1', c0', i1', z0', b8_nat]
      refine sC (hx := rfl) ((c1).mono ?_)
      rintro _ m56 _ ⟨rfl, S1⟩
      simp only [pu', p0', c1', c0', i1', n0', n3', n1', n2', a2', a1', a0', n4', Nat.reduceAdd, z0', n5', sa0, sa1, sa2, sa3, sa4, sa5, sa6, sa7, sa8, sa9, sa10, sa11]
      refine smove ?_
      simp only [pu', p0', c1', c0', i1', z0', b8_nat]
      refine sext ?_
      simp only [pu', p0', c1', c0', i1', z0', b8_nat]
      refine sext ?_
      simp only [pu', p0', c1', c0', i1', z0', b8_nat]
      refine salloc ?_
      simp only [pu', p0', c1', c0', i1', n0', n3', n1', n2', a2', a1', a0', n4', Nat.reduceAdd, z0', n5', sa0, sa1, sa2, sa3, sa4, sa5, sa6, sa7, sa8, sa9, sa10, sa11]
      refine sassign ?_
      simp only [pu', p0', c1', c0', i1', z0', b8_nat]
      refine sstoreF ?_
      simp only [pu', p0', c1', c0', i1', n0', n3', n1', n2', a2', a1', a0', n4', Nat.reduceAdd, z0', n5', sa0, sa1, sa2, sa3, sa4, sa5, sa6, sa7, sa8, sa9, sa10, sa11]
      with_reducible refine s_end ?_
      with_reducible refine s_then ?_
      with_reducible refine s_seq ?_
      with_reducible refine s_reg ?_
      refine sload1 ?_
      simp only [pu', p0', c1', c0', i1', z0', b8_nat]
      refine sload1 ?_
      simp only [pu', p0', c1', c0', i1', z0', b8_nat]
      refine sloadW ?_
      simp only [pu', p0', c1', c0', i1', z0', b8_nat]
      refine sC (hx := rfl) ((told_any l (o ++ b.q) p y m nx 0 0 lo stL [pcC _ _] _ (S1.push _) (o ++ b.q) 0 0).mono ?_)
      rintro _ m50 _ ⟨rfl, S2⟩
      simp only [pu', p0', c1', c0', i1', n0', n3', n1', n2', a2', a1', a0', n4', Nat.reduceAdd, z0', n5', sa0, sa1, sa2, sa3, sa4, sa5, sa6, sa7, sa8, sa9, sa10, sa11]
      with_reducible refine s_end ?_
      with_reducible refine s_then ?_
      with_reducible refine s_seq ?_
      with_reducible refine s_reg ?_
      refine sfad ?_
      simp only [pu', p0', c1', c0', i1', z0', b8_nat]
      refine sload1 ?_
      simp only [pu', p0', c1', c0', i1', z0', b8_nat]
      refine sNe (fun hb => ?_) (fun hb => ?_)
      replace hb := dT' hb
      (exfalso; omega)
      replace hb := dF' hb
      simp only [pu', p0', c1', c0', i1', z0', b8_nat]
      refine smove ?_
      simp only [pu', p0', c1', c0', i1', z0', b8_nat]
      refine smove ?_
      simp only [pu', p0', c1', c0', i1', z0', b8_nat]
      refine sload1 ?_
      simp only [pu', p0', c1', c0', i1', z0', b8_nat]
      refine smove ?_
      simp only [pu', p0', c1', c0', i1', z0', b8_nat]
      refine sY (hx := rfl) ((hyN y (o ++ b.q) (o ++ b.q) nx y _ _ S2).mono ?_)
      rintro r' X _ ⟨rfl, S3⟩
      simp only [Fr.put, List.set_cons_succ, List.set_cons_zero, Int.toNat_natCast, Nat.zero_add]
      refine snotT ?_
      simp only [pu', p0', c1', c0', i1', z0', b8_nat]
      refine spickF ?_
      simp only [pu', p0', c1', c0', i1', z0', b8_nat]
      with_reducible refine s_end ?_
      with_reducible refine s_then ?_
      refine sCF ?_
      with_reducible refine s_skip ?_
      with_reducible refine s_blkN ?_
      refine l_next ⟨y, o ++ b.q, o ++ b.q, y, c :: r, X⟩ ⟨by simp only []; omega, by simp only [List.length_append]; omega, g2b, by rw [← g3, flat_cons b, List.append_assoc], S3, by rw [← g5, lim_go hm1, ← bkat_next g2a, List.length_append]; simp only [Int.natCast_add]⟩ (by simp only [List.length_cons]; omega) (by rfl) rfl
    · have hmm : m < o.length + b.q.length := by omega
      have c1 := step_any l o p x m nx 0 0 lo [] G S zsL (.inr rfl) [] false 0 18 x (blk_no g0 hl g1 m0 m1 (e := 0) (.inl rfl) g2a hmm)
      focus
        with_reducible refine s_block ?_
        with_reducible refine s_seq ?_
        with_reducible refine s_reg ?_
        refine smove ?_
        simp only [pu', p0', c1', c0', i1', z0', b8_nat]
        refine sC (hx := rfl) ((c1).mono ?_)
        rintro _ m56 _ ⟨rfl, S1⟩
        simp only [pu', p0', c1', c0', i1', n0', n3', n1', n2', a2', a1', a0', n4', Nat.reduceAdd, z0', n5', sa0, sa1, sa2, sa3, sa4, sa5, sa6, sa7, sa8, sa9, sa10, sa11]
        refine smove ?_
        simp only [pu', p0', c1', c0', i1', z0', b8_nat]
        refine sext ?_
        simp only [pu', p0', c1', c0', i1', z0', b8_nat]
        refine sext ?_
        simp only [pu', p0', c1', c0', i1', z0', b8_nat]
        refine salloc ?_
        simp only [pu', p0', c1', c0', i1', n0', n3', n1', n2', a2', a1', a0', n4', Nat.reduceAdd, z0', n5', sa0, sa1, sa2, sa3, sa4, sa5, sa6, sa7, sa8, sa9, sa10, sa11]
        refine sassign ?_
        simp only [pu', p0', c1', c0', i1', z0', b8_nat]
        refine sstoreF ?_
        simp only [pu', p0', c1', c0', i1', n0', n3', n1', n2', a2', a1', a0', n4', Nat.reduceAdd, z0', n5', sa0, sa1, sa2, sa3, sa4, sa5, sa6, sa7, sa8, sa9, sa10, sa11]
        with_reducible refine s_end ?_
        with_reducible refine s_then ?_
        with_reducible refine s_seq ?_
        with_reducible refine s_reg ?_
        refine sload1 ?_
        simp only [pu', p0', c1', c0', i1', z0', b8_nat]
        refine sload1 ?_
        simp only [pu', p0', c1', c0', i1', z0', b8_nat]
        refine sloadW ?_
        simp only [pu', p0', c1', c0', i1', z0', b8_nat]
        refine sC (hx := rfl) ((told_any l [] p 0 m nx 0 0 lo zsL [pcC _ _] _ (S1.push _) [] 18 x).mono ?_)
        rintro _ m50 _ ⟨rfl, S2⟩
        simp only [pu', p0', c1', c0', i1', n0', n3', n1', n2', a2', a1', a0', n4', Nat.reduceAdd, z0', n5', sa0, sa1, sa2, sa3, sa4, sa5, sa6, sa7, sa8, sa9, sa10, sa11]
        with_reducible refine s_end ?_
        with_reducible refine s_then ?_
        with_reducible refine s_seq ?_
        with_reducible refine s_reg ?_
        refine sfad ?_
        simp only [pu', p0', c1', c0', i1', z0', b8_nat]
        refine sload1 ?_
        simp only [pu', p0', c1', c0', i1', z0', b8_nat]
        refine sNe (fun hb => ?_) (fun hb => ?_)
        replace hb := dT' hb
        simp only [pu', p0', c1', c0', i1', z0', b8_nat]
        refine smove ?_
        simp only [pu', p0', c1', c0', i1', z0', b8_nat]
        (with_reducible refine s_gN ?_ ?_; exact wG rfl rfl rfl rfl rfl)
        simp only [pu', p0', c1', c0', i1', z0', b8_nat]
        (with_reducible refine s_gN ?_ ?_; exact wG rfl rfl rfl rfl rfl)
        simp only [pu', p0', c1', c0', i1', z0', b8_nat]
        (with_reducible refine s_gN ?_ ?_; exact wG rfl rfl rfl rfl rfl)
        simp only [pu', p0', c1', c0', i1', z0', b8_nat]
        (with_reducible refine s_gN ?_ ?_; exact wG rfl rfl rfl rfl rfl)
        simp only [pu', p0', c1', c0', i1', z0', b8_nat]
        (with_reducible refine s_gN ?_ ?_; exact wG rfl rfl rfl rfl rfl)
        simp only [pu', p0', c1', c0', i1', z0', b8_nat]
        refine spickT ?_
        simp only [pu', p0', c1', c0', i1', z0', b8_nat]
        with_reducible refine s_end ?_
        with_reducible refine s_then ?_
        refine sCT ?_
        with_reducible refine s_ret ?_
        with_reducible refine s_blkR ?_
        with_reducible refine l_ret ?_
        with_reducible refine s_blkR ?_
        rotate_left 1
        replace hb := dF' hb
        (exfalso; omega)
      all_goals try with_reducible refine w_n ?_
      all_goals refine w_0 rfl  ?_
      rw [lim_no hmm] at g5
      rw [← g5]
      refine .inr ⟨?_, _, _, _, Sep.sub S2 (by repeat' first | exact List.Sublist.refl _ | exact List.sublist_append_left _ _ | exact List.nil_sublist _ | refine List.Sublist.cons_cons _ ?_ | refine List.Sublist.cons _ ?_ | refine List.Sublist.trans ?_ (List.sublist_append_left _ _))⟩
      rw [← g3, flat_cons, List.length_append, List.length_append]
      omega
end Go.Proofs.YtgjbmhclgmpjdaaGreat
