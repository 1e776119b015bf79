/-
  A part of the proof of a statement of a chapter's seat; conditions: stated at each theorem.
-/
import Derived.Test.YthhbhekccacmlaaH6
import Derived.Test.YthhbhekccacmlaaAzZK
set_option linter.unusedSimpArgs false
set_option linter.unusedVariables false
set_option linter.unusedSectionVars false
set_option maxRecDepth 100000
set_option maxHeartbeats 4000000
namespace Go.Proofs.Ythhbhekccacmlaa
open Go.Az Go
/-! ### All frames -/
theorem iok : EncOk (encI .i64) 1 := encI_ok .i64
def encS (t : List UInt8) : List AV := [St t]
theorem encS_ok : EncOk encS 1 := fun _ => ⟨rfl, rfl⟩
abbrev WI (z : AV) (l : List Int) : Pc := pcW (encI .i64) 1 3 z l
abbrev WS (z : AV) (l : List (List UInt8)) : Pc := pcW encS 1 9 z l
abbrev nilS : AV := .v (.slice none 0 0)
abbrev LP (n : Nat) (l : List UInt8) (x : Int) (a b : AV) (ks : List Int) (ts : List (List UInt8)) (lo : AObj) (E : List Pc) : List Pc :=
  pcC n (.cells [a] 37 true) :: pcC (n + 1) (.cells [b] 38 true) :: pcC (n + 2) (.cells [I 0] 3 true) :: pcC (n + 3) (.cells [I 0, I 0] 32 true) :: pcC (n + 4) (rdr l x) :: pcC (n + 5) (.cells [.ptr (n + 4) 0] 53 true) :: pcC (n + 6) .dfr :: pcC (n + 7) lo :: WI a ks :: WS b ts :: E
abbrev LQ (n : Nat) (l : List UInt8) (x e f : Int) (lf : AObj) : List Pc :=
  [pcC n (.cells [nilS] 37 true), pcC (n + 1) (.cells [nilS] 38 true), pcC (n + 2) (.cells [I 0] 3 true), pcC (n + 3) (.cells [I e, I f] 32 true), pcC (n + 4) (rdr l x), pcC (n + 6) .dfr, pcC (n + 7) lf]
structure AllR where
  ks : List Int
  ts : List (List UInt8)
  x : Int
  e : Int
  f : Int
def allR (l : List UInt8) : Nat → Int → List Int → List (List UInt8) → AllR
  | 0, x, ks, ts => ⟨ks, ts, x, 0, 0⟩
  | n + 1, x, ks, ts => if beg (l.drop x.toNat) = 1 then (if (nxt l x).e = 0 then allR l n (nxt l x).x (ks ++ [(nxt l x).k]) (ts ++ [(nxt l x).t]) else ⟨[], [], 0, (nxt l x).e, (nxt l x).a⟩) else ⟨ks, ts, x, 0, 0⟩
theorem allR_stop {l : List UInt8} {m : Nat} {x : Int} {ks : List Int} {ts : List (List UInt8)} (hb : ¬ beg (l.drop x.toNat) = 1) : allR l (m + 1) x ks ts = ⟨ks, ts, x, 0, 0⟩ := by rw [allR, if_neg hb]
theorem allR_go {l : List UInt8} {m : Nat} {x : Int} {ks : List Int} {ts : List (List UInt8)} (hb : beg (l.drop x.toNat) = 1) (he : (nxt l x).e = 0) : allR l (m + 1) x ks ts = allR l m (nxt l x).x (ks ++ [(nxt l x).k]) (ts ++ [(nxt l x).t]) := by rw [allR, if_pos hb, if_pos he]
theorem allR_bad {l : List UInt8} {m : Nat} {x : Int} {ks : List Int} {ts : List (List UInt8)} (hb : beg (l.drop x.toNat) = 1) (he : ¬ (nxt l x).e = 0) : allR l (m + 1) x ks ts = ⟨[], [], 0, (nxt l x).e, (nxt l x).a⟩ := by rw [allR, if_pos hb, if_neg he]
theorem nxt_fwd {l : List UInt8} {x : Int} (h0 : 0 ≤ x) (h1 : x ≤ l.length) (hb : beg (l.drop x.toNat) = 1) (he : (nxt l x).e = 0) : x + 8 ≤ (nxt l x).x ∧ (nxt l x).x ≤ l.length := by
  obtain ⟨R, hR⟩ : ∃ R, R = l.drop x.toNat := ⟨_, rfl⟩
  have hRl : (R.length : Int) = l.length - x := by rw [hR, List.length_drop]; omega
  have q2 := num4_rng (R.drop 4)
  rw [← hR] at hb
  by_cases b4 : (R.length : Int) < 8 ∨ (R.length : Int) - 8 < num4 (R.drop 4)
  · rw [nx_c hR hb b4] at he; cases he
  · rw [nx_f hR hb b4]
    show x + 8 ≤ x + (8 + num4 (R.drop 4)) ∧ x + (8 + num4 (R.drop 4)) ≤ l.length
    omega
structure FS where
  x : Int
  a : AV
  b : AV
  ks : List Int
  ts : List (List UInt8)
  G : Hp
  m : Nat
theorem frames_any (h : Hp) (n : Nat) (l : List UInt8) (x0 : Int) (lo lf : AObj) (G0 : Hp) (hl : (l.length : Int) ≤ 1000000000000) (h0 : 0 ≤ x0) (h1 : x0 ≤ l.length)
    (S0 : Sep h G0 (LP n l x0 nilS nilS [] [] lo []))
    (hy1 : ∀ (x : Int) (a b : AV) (ks : List Int) (ts : List (List UInt8)) (X : Hp) (E : List Pc) (k : Int) (t : List UInt8) (f : Int), ks.length ≤ l.length → ts.length = ks.length → Sep h X (LP n l x a b ks ts lo E) → AYld Try.prog (n + 7) [.agg [I k, St t, I 0, I f]] X (fun r h' => r = B true ∧ ∃ a' b', Sep h h' (LP n l x a' b' (ks ++ [k]) (ts ++ [t]) lo E)))
    (hy2 : ∀ (x : Int) (a b : AV) (ks : List Int) (ts : List (List UInt8)) (X : Hp) (E : List Pc) (k : Int) (t : List UInt8) (e f : Int), e ≠ 0 → Sep h X (LP n l x a b ks ts lo E) → AYld Try.prog (n + 7) [.agg [I k, St t, I e, I f]] X (fun r h' => r = B false ∧ Sep h h' (LQ n l x e f lf))) :
    ACalls Try.prog 37 [.yld (n + 7), .ptr (n + 5) 0] G0 (fun _ h' => ∃ q, q = allR l (l.length + 1) x0 [] [] ∧ ((q.e = 0 ∧ ∃ a b, Sep h h' (LP n l q.x a b q.ks q.ts lo [])) ∨ (q.e ≠ 0 ∧ ∃ x, Sep h h' (LQ n l x q.e q.f lf)))) := by
  refine acalls_of_wk hm Try.func37 rfl ?_
  simp only [Try.ntmps37, List.length_cons, List.length_nil, Nat.reduceAdd, Nat.reduceSub, List.reduceReplicate, List.cons_append, List.nil_append]
  show wk _ _ none _ _ ⟨_, []⟩ _
  with_reducible refine s_block ?_
  refine s_loop hm (fun (b : FS) s' => [.yld (n + 7), .ptr (n + 5) 0, s' 2, s' 3, s' 4, s' 5, s' 6, s' 7, s' 8, s' 9, s' 10, s' 11, s' 12, s' 13, s' 14, s' 15, s' 16, s' 17, s' 18]) (fun b => b.G) (fun b => 0 ≤ b.x ∧ b.x ≤ l.length ∧ (b.ks.length : Int) ≤ b.x ∧ b.ts.length = b.ks.length ∧ Sep h b.G (LP n l b.x b.a b.b b.ks b.ts lo []) ∧ (l.length - b.x).toNat < b.m ∧ allR l (l.length + 1) x0 [] [] = allR l b.m b.x b.ks b.ts) (fun b => (l.length - b.x).toNat) ⟨x0, nilS, nilS, [], [], G0, l.length + 1⟩ (by rfl) rfl ⟨h0, h1, by simp [h0], rfl, S0, by simp only []; omega, rfl⟩ ?_
  rintro ⟨x, a, b, ks, ts, G, m⟩ s' ⟨g0, g1, g2, g3, S, g4, g5⟩
  simp only [] at g0 g1 g2 g3 S g4 g5 ⊢
  have c1 := begins_any G (n + 4) l x inferInstance g0 g1 (by omega)
  have c2 := next_any G (n + 4) l x inferInstance g0 g1 (by omega)
  obtain ⟨m, rfl⟩ : ∃ k, m = k + 1 := ⟨m - 1, by omega⟩
  by_cases hb1 : beg (l.drop x.toNat) = 1
  · have hf := nxt_fwd g0 g1 hb1
    rw [hb1] at c1
    have g6 := fun e => g5.trans (allR_go (m := m) (x := x) (ks := ks) (ts := ts) hb1 e)
    have g7 := fun e => g5.trans (allR_bad (m := m) (x := x) (ks := ks) (ts := ts) hb1 e)
    generalize hq : nxt l x = q at *
    obtain ⟨k, t, e, f, x'⟩ := q
    have c3 : ACalls Try.prog 30 [.ptr (n + 4) 0] G (fun r h' => r = NxA ⟨k, t, e, f, x'⟩ ∧ Sep h h' (LP n l x' a b ks ts lo [])) := c2.mono fun r h' _ hh => ⟨hh.1, by rw [hh.2]; infer_instance⟩
    simp only [] at hf g6 g7
    by_cases he : e = 0
    · subst he
      have g5 := g6 rfl
      have hf := hf rfl
      focus
        with_reducible refine s_seq ?_
        with_reducible refine s_seq ?_
        with_reducible refine s_reg ?_
        refine sload1 ?_
        simp only [pu', p0', c1', c0', i1', z0', b8_nat]
        refine sM (hx := rfl) (c1) ?_
        simp only [pu', p0', c1', c0', i1', z0', b8_nat]
        refine sEq (fun hb => ?_) (fun hb => ?_)
        replace hb := dT' hb
        simp only [pu', p0', c1', c0', i1', z0', b8_nat]
        with_reducible refine s_end ?_
        with_reducible refine s_then ?_
        refine sCT ?_
        with_reducible refine s_skip ?_
        with_reducible refine s_then ?_
        with_reducible refine s_block ?_
        with_reducible refine s_seq ?_
        with_reducible refine s_reg ?_
        refine sload1 ?_
        simp only [pu', p0', c1', c0', i1', z0', b8_nat]
        refine sC (hx := rfl) ((c3).mono ?_)
        rintro _ _ _ ⟨rfl, S1⟩
        simp only [pu', p0', c1', c0', i1', n0', n3', n1', n2', a2', a1', a0', n4', Nat.reduceAdd, z0', n5', sa0, sa1, sa2, sa3, sa4, sa5, sa6, sa7, sa8, sa9, sa10, sa11]
        refine salloc ?_
        simp only [pu', p0', c1', c0', i1', n0', n3', n1', n2', a2', a1', a0', n4', Nat.reduceAdd, z0', n5', sa0, sa1, sa2, sa3, sa4, sa5, sa6, sa7, sa8, sa9, sa10, sa11]
        refine sstoreF ?_
        simp only [pu', p0', c1', c0', i1', n0', n3', n1', n2', a2', a1', a0', n4', Nat.reduceAdd, z0', n5', sa0, sa1, sa2, sa3, sa4, sa5, sa6, sa7, sa8, sa9, sa10, sa11]
        with_reducible refine s_end ?_
        with_reducible refine s_then ?_
        with_reducible refine s_seq ?_
        with_reducible refine s_reg ?_
        refine smove ?_
        simp only [pu', p0', c1', c0', i1', z0', b8_nat]
        refine sloadW ?_
        simp only [pu', p0', c1', c0', i1', z0', b8_nat]
        rotate_left 1
        replace hb := dF' hb
        exact absurd rfl hb
      refine sY (hx := rfl) ((hy1 x' a b ks ts _ [pcC _ (.cells [I k, St t, I 0, I f] 57 true)] k t f (by omega) g3 (S1.push _)).mono ?_)
      rintro r X _ ⟨rfl, a', b', S2⟩
      simp only [Fr.put, List.set_cons_succ, List.set_cons_zero, Int.toNat_natCast, Nat.zero_add]
      refine snotT ?_
      simp only [pu', p0', c1', c0', i1', z0', b8_nat]
      refine smove ?_
      simp only [pu', p0', c1', c0', i1', z0', b8_nat]
      refine sfad ?_
      simp only [pu', p0', c1', c0', i1', z0', b8_nat]
      refine sfad ?_
      simp only [pu', p0', c1', c0', i1', z0', b8_nat]
      refine sload1 ?_
      simp only [pu', p0', c1', c0', i1', z0', b8_nat]
      refine sNe (fun hb => ?_) (fun hb => ?_)
      replace hb := dT' hb
      (exfalso; omega)
      replace hb := dF' hb
      simp only [pu', p0', c1', c0', i1', z0', b8_nat]
      refine spickF ?_
      simp only [pu', p0', c1', c0', i1', z0', b8_nat]
      with_reducible refine s_end ?_
      with_reducible refine s_then ?_
      refine sCF ?_
      with_reducible refine s_skip ?_
      with_reducible refine s_blkN ?_
      refine l_next ⟨x', a', b', ks ++ [k], ts ++ [t], X, m⟩ ⟨by simp only []; omega, by simp only []; omega, by simp only [List.length_append, List.length_singleton]; omega, by simp [g3], S2.sub (by simp), by simp only []; omega, g5⟩ (by simp only []; omega) (by rfl) rfl
    · have g5 := g7 he
      focus
        with_reducible refine s_seq ?_
        with_reducible refine s_seq ?_
        with_reducible refine s_reg ?_
        refine sload1 ?_
        simp only [pu', p0', c1', c0', i1', z0', b8_nat]
        refine sM (hx := rfl) (c1) ?_
        simp only [pu', p0', c1', c0', i1', z0', b8_nat]
        refine sEq (fun hb => ?_) (fun hb => ?_)
        replace hb := dT' hb
        simp only [pu', p0', c1', c0', i1', z0', b8_nat]
        with_reducible refine s_end ?_
        with_reducible refine s_then ?_
        refine sCT ?_
        with_reducible refine s_skip ?_
        with_reducible refine s_then ?_
        with_reducible refine s_block ?_
        with_reducible refine s_seq ?_
        with_reducible refine s_reg ?_
        refine sload1 ?_
        simp only [pu', p0', c1', c0', i1', z0', b8_nat]
        refine sC (hx := rfl) ((c3).mono ?_)
        rintro _ _ _ ⟨rfl, S1⟩
        simp only [pu', p0', c1', c0', i1', n0', n3', n1', n2', a2', a1', a0', n4', Nat.reduceAdd, z0', n5', sa0, sa1, sa2, sa3, sa4, sa5, sa6, sa7, sa8, sa9, sa10, sa11]
        refine salloc ?_
        simp only [pu', p0', c1', c0', i1', n0', n3', n1', n2', a2', a1', a0', n4', Nat.reduceAdd, z0', n5', sa0, sa1, sa2, sa3, sa4, sa5, sa6, sa7, sa8, sa9, sa10, sa11]
        refine sstoreF ?_
        simp only [pu', p0', c1', c0', i1', n0', n3', n1', n2', a2', a1', a0', n4', Nat.reduceAdd, z0', n5', sa0, sa1, sa2, sa3, sa4, sa5, sa6, sa7, sa8, sa9, sa10, sa11]
        with_reducible refine s_end ?_
        with_reducible refine s_then ?_
        with_reducible refine s_seq ?_
        with_reducible refine s_reg ?_
        refine smove ?_
        simp only [pu', p0', c1', c0', i1', z0', b8_nat]
        refine sloadW ?_
        simp only [pu', p0', c1', c0', i1', z0', b8_nat]
        rotate_left 1
        replace hb := dF' hb
        exact absurd rfl hb
      refine sY (hx := rfl) ((hy2 x' a b ks ts _ [pcC _ (.cells [I k, St t, I e, I f] 57 true)] k t e f he (S1.push _)).mono ?_)
      rintro r X _ ⟨rfl, S2⟩
      simp only [Fr.put, List.set_cons_succ, List.set_cons_zero, Int.toNat_natCast, Nat.zero_add]
      refine snotF ?_
      simp only [pu', p0', c1', c0', i1', z0', b8_nat]
      refine smove ?_
      simp only [pu', p0', c1', c0', i1', z0', b8_nat]
      refine sN ?_
      simp only [pu', p0', c1', c0', i1', z0', b8_nat]
      refine sN ?_
      simp only [pu', p0', c1', c0', i1', z0', b8_nat]
      refine sN ?_
      simp only [pu', p0', c1', c0', i1', z0', b8_nat]
      refine sN ?_
      simp only [pu', p0', c1', c0', i1', z0', b8_nat]
      refine spickT ?_
      simp only [pu', p0', c1', c0', i1', z0', b8_nat]
      with_reducible refine s_end ?_
      with_reducible refine s_then ?_
      refine sCT ?_
      with_reducible refine s_ret ?_
      with_reducible refine s_blkR ?_
      with_reducible refine l_ret ?_
      with_reducible refine s_blkR ?_
      all_goals try with_reducible refine w_n ?_
      all_goals refine w_0 rfl  ?_
      refine ⟨_, g5.symm, .inr ⟨he, _, S2⟩⟩
  · have g5 := g5.trans (allR_stop hb1)
    with_reducible refine s_seq ?_
    with_reducible refine s_seq ?_
    with_reducible refine s_reg ?_
    refine sload1 ?_
    simp only [pu', p0', c1', c0', i1', z0', b8_nat]
    refine sM (hx := rfl) (c1) ?_
    simp only [pu', p0', c1', c0', i1', z0', b8_nat]
    refine sEq (fun hb => ?_) (fun hb => ?_)
    replace hb := dT' hb
    (exfalso; omega)
    replace hb := dF' hb
    simp only [pu', p0', c1', c0', i1', z0', b8_nat]
    with_reducible refine s_end ?_
    with_reducible refine s_then ?_
    refine sCF ?_
    with_reducible refine s_exit ?_
    with_reducible refine s_thenE ?_
    with_reducible refine l_exit ?_
    with_reducible refine s_blkE ?_
    all_goals try with_reducible refine w_n ?_
    all_goals refine w_0 rfl  ?_
    exact ⟨_, g5.symm, .inl ⟨rfl, _, _, S⟩⟩
theorem frames_lp {h : Hp} {n : Nat} {l : List UInt8} {x0 : Int} {tm : List AV} {ps : Array Tmp} {asg bd : Code} {d : Nat} {G0 : Hp} (hl : (l.length : Int) ≤ 1000000000000) (h0 : 0 ≤ x0) (h1 : x0 ≤ l.length)
    (S0 : Sep h G0 (LP n l x0 nilS nilS [] [] (.loop .ready none tm ps asg bd d) []))
    (hy1 : ∀ (x : Int) (a b : AV) (ks : List Int) (ts : List (List UInt8)) (X : Hp) (E : List Pc) (k : Int) (t : List UInt8) (f : Int), ks.length ≤ l.length → ts.length = ks.length → Sep h X (LP n l x a b ks ts (.loop .ready none tm ps asg bd d) E) → AYld Try.prog (n + 7) [.agg [I k, St t, I 0, I f]] X (fun r h' => r = B true ∧ ∃ a' b', Sep h h' (LP n l x a' b' (ks ++ [k]) (ts ++ [t]) (.loop .ready none tm ps asg bd d) E)))
    (hy2 : ∀ (x : Int) (a b : AV) (ks : List Int) (ts : List (List UInt8)) (X : Hp) (E : List Pc) (k : Int) (t : List UInt8) (e f : Int), e ≠ 0 → Sep h X (LP n l x a b ks ts (.loop .ready none tm ps asg bd d) E) → AYld Try.prog (n + 7) [.agg [I k, St t, I e, I f]] X (fun r h' => r = B false ∧ Sep h h' (LQ n l x e f (.loop .done (some .ret) tm ps asg bd d)))) :
    ACalls Try.prog 37 [.yld (n + 7), .ptr (n + 5) 0] G0 (fun _ h' => ∃ q, q = allR l (l.length + 1) x0 [] [] ∧ ((q.e = 0 ∧ ∃ a b, Sep h h' (LP n l q.x a b q.ks q.ts (.loop .ready none tm ps asg bd d) [])) ∨ (q.e ≠ 0 ∧ ∃ x, Sep h h' (LQ n l x q.e q.f (.loop .done (some .ret) tm ps asg bd d))))) :=
  frames_any h n l x0 _ _ G0 hl h0 h1 S0 hy1 hy2
end Go.Proofs.Ythhbhekccacmlaa
