/-
  A part of the proof of a statement of a chapter's seat; conditions: stated at each theorem.
-/
import Derived.Test.YtckljanplahbkaaM31
set_option linter.unusedVariables false
set_option linter.unusedSectionVars false
set_option linter.unusedSimpArgs false
set_option linter.unusedVariables false
set_option maxRecDepth 100000
set_option maxHeartbeats 8000000
namespace Go.Proofs.Ytckljanplahbkaa
open Go.Az Go
/-! ### The depths of counts -/
theorem posA_many {l : List Int} (h : ∀ i, i < l.length → 0 ≤ l.getD i 0) : ∀ i, i ≤ l.length → ((posA (l.take i) 0).length : Int) = mnyF l i
  | 0, _ => by simp [posA, mnyF]
  | i + 1, hi => by
    have ih := posA_many h i (by omega)
    have hb := h i (by omega)
    rw [posA_take (by omega), List.length_append, mnyF]
    by_cases e : l.getD i 0 = 0
    · rw [if_pos e, if_neg (by omega)]; simp; omega
    · rw [if_neg e, if_pos (by omega)]; simp; omega
def famL (ns : List Nd) : List Pc := ns.map fun x => WI x.z x.l
theorem famL_app (a b : List Nd) : famL (a ++ b) = famL a ++ famL b := List.map_append
theorem rem_perm {α : Type} {d : α} {l : List α} {k : Nat} (h : k < l.length) : l.Perm (l.getD k d :: (l.take k ++ l.drop (k + 1))) := by
  have e := List.take_append_drop k l
  rw [dropT (d := d) h] at e
  have h2 : (l.take k ++ l.getD k d :: l.drop (k + 1)).Perm (l.getD k d :: (l.take k ++ l.drop (k + 1))) := List.perm_middle
  rwa [e] at h2
theorem sep_lit {h Y : Hp} {L : List Pc} {i : Nat} {cs : List AV} {e : TypeId} {α : Type} {enc : α → List AV} {q : Nat} {l : List α} (S1 : Sep h Y (pcC i (.cells cs e true) :: L)) (hcs : cs = l.flatMap enc) (hl : cs.length = l.length * q) : Sep h Y (pcW enc q e (.sl i 0 l.length l.length false) l :: L) := by
  have hi : Y[i]? = some (.cells cs e true) := S1.all (pcC i (.cells cs e true)) (by simp)
  refine ⟨S1.ext, fun p hp => ?_, fun p hp j hj => ?_, ?_⟩
  · rcases List.mem_cons.1 hp with rfl | hp
    · exact .inr ⟨i, 0, l.length, false, cs, rfl, hi, by omega, by rw [List.drop_zero, ← hl, List.take_length]; exact hcs, (fun h => by cases h), fun _ => ⟨Nat.le_refl _, by omega⟩⟩
    · exact S1.all p (List.mem_cons_of_mem _ hp)
  · rcases List.mem_cons.1 hp with rfl | hp
    · exact S1.low (pcC i (.cells cs e true)) (by simp) j hj
    · exact S1.low p (List.mem_cons_of_mem _ hp) j hj
  · have d := S1.dis
    rw [List.pairwise_cons] at d ⊢
    exact ⟨fun p hp j hj => d.1 p hp j hj, d.2⟩
theorem sep_fam {h Y : Hp} {A F : List Pc} {q : Pc} {i : Nat} {x : Int} (S : Sep h Y (A ++ F ++ [pcC i (.cells [I x] 3 true), q])) : Sep h Y (A ++ (F ++ [WI (.sl i 0 1 1 false) [x]])) := by
  have S1 : Sep h Y (A ++ F ++ [pcC i (.cells [I x] 3 true)]) := S.sub (List.Sublist.append_left ((List.nil_sublist _).cons_cons _) _)
  have S2 : Sep h Y (pcC i (.cells [I x] 3 true) :: (A ++ F)) := S1.perm List.perm_append_comm
  have S3 := sep_lit (l := [x]) (enc := encI .i64) (q := 1) S2 rfl rfl
  rw [← List.append_assoc]
  exact S3.perm (List.perm_append_comm (l₁ := [_]))
theorem own_in {α : Type} {h Y : Hp} {L : List Pc} {z : AV} {enc : α → List AV} {q : Nat} {e : TypeId} {l : List α} [S : Sep h Y L] [x : MemW α L z enc q e l] : Own enc q e Y z l := S.all _ x.p
theorem incO_le {o l : List Int} (hn : l.Nodup) (h0 : ∀ i ∈ l, 0 ≤ i ∧ i < o.length) (k : Nat) : o.getD k 0 ≤ (incO o l).getD k 0 ∧ (incO o l).getD k 0 ≤ o.getD k 0 + 1 := by
  by_cases hk : (k : Int) ∈ l
  · rw [incO_in l o k hn (fun i hi => (h0 i hi).1) (by have := (h0 _ hk).2; omega) hk]; omega
  · rw [incO_out l o k fun i hi e => hk (by have := h0 i hi; rw [show (k : Int) = i by omega]; exact hi)]; omega
theorem bd_67 {c n : Int} {b : Bool} {z : AV} (p : SlC z) : bld Try.prog 67 [(0, I c), (1, B b), (2, I n), (3, z)] = some (.agg [I c, B b, I n, z]) := by
  rcases p.p with rfl | ⟨i, o, m, k, u, rfl⟩ <;> kernel_rfl
instance {c n : Int} {b : Bool} {z : AV} [p : SlC z] : BD Try.prog 67 [(0, I c), (1, B b), (2, I n), (3, z)] (.agg [I c, B b, I n, z]) := ⟨bd_67 p⟩
theorem bs_65o {c n : Int} {b : Bool} {z : AV} (p : SlC z) : bslC Try.prog 65 1 [(0, .agg [I c, B b, I n, z])] = some (67, [I c, B b, I n, z]) := by
  rcases p.p with rfl | ⟨i, o, m, k, u, rfl⟩ <;> kernel_rfl
instance {c n : Int} {b : Bool} {z : AV} [p : SlC z] : BS Try.prog 65 1 [(0, .agg [I c, B b, I n, z])] 67 [I c, B b, I n, z] := ⟨bs_65o p⟩
instance (x : Nd) : BS Try.prog 65 1 [(0, NA x)] 67 (encN x) := ⟨bs_65o x.pz⟩
theorem sep_two {h Y : Hp} {a b c d e f x y : Pc} {F F2 : List Pc} (hF : F.Perm (x :: y :: F2)) (S : Sep h Y ((([a, b] ++ F ++ [c]) ++ [d]) ++ [e] ++ [f])) : Sep h Y ([a, e, d, f, x, y] ++ F2) := by
  have S1 : Sep h Y ([a] ++ (F ++ [d, e, f])) := by
    refine S.sub ?_
    have e1 : (([a, b] ++ F ++ [c]) ++ [d]) ++ [e] ++ [f] = a :: b :: (F ++ c :: [d, e, f]) := by simp
    rw [e1]
    exact ((List.Sublist.append_left (List.sublist_cons_self c _) F).cons b).cons_cons a
  refine S1.perm ?_
  have p1 : (F ++ [d, e, f]).Perm ([d, e, f] ++ (x :: y :: F2)) := List.perm_append_comm.trans (hF.append_left _)
  have p2 : ([d, e, f] ++ (x :: y :: F2)).Perm ([e, d, f] ++ (x :: y :: F2)) := (List.Perm.swap e d [f]).append_right _
  exact (p1.trans p2).cons a
theorem sep_end {h Y : Hp} {w a b c d : Pc} {F : List Pc} (S : Sep h Y ([w, a, b] ++ F ++ [c] ++ [d])) : Sep h Y ([a, b] ++ (F ++ [w])) := by
  have S1 : Sep h Y (w :: ([a, b] ++ F)) := by
    refine S.sub ?_
    rw [List.append_assoc]
    exact List.sublist_append_left _ _
  rw [← List.append_assoc]
  exact S1.perm (List.perm_append_comm (l₁ := [_]))
structure DpC where
  z : AV
  pz : SlC z
  i : Nat
  G : Hp
structure DpD where
  j : Nat
  G : Hp
theorem all_mem {p : Nd → Prop} {ns : List Nd} (h : ∀ j, j < ns.length → p (ns.getD j nd0)) : ∀ u ∈ ns, p u := fun u hu => by
  obtain ⟨j, hj, e⟩ := List.getElem_of_mem hu
  have := h j hj
  rwa [List.getD_eq_getElem?_getD, List.getElem?_eq_getElem hj, Option.getD_some, e] at this
theorem sumN_nn : ∀ (ns : List Nd), (∀ x ∈ ns, 0 ≤ x.c) → 0 ≤ sumN ns
  | [], _ => Int.le_refl _
  | x :: r, h => by
    have := h x (by simp)
    have := sumN_nn r fun y hy => h y (by simp [hy])
    rw [sumN]; omega
theorem posS_bd {l : List Int} (h : ∀ i, i < l.length → l.getD i 0 ≤ 1000) : ∀ i, i ≤ l.length → posS (l.take i) ≤ 1000 * i
  | 0, _ => by simp [posS]
  | i + 1, hi => by
    have := posS_bd h i (by omega)
    have := h i (by omega)
    rw [posS_take (by omega)]
    push_cast; split <;> omega
theorem Forest.two {cs o : List Int} {x y : Nd} {r : List Nd} (f : Forest cs o (x :: y :: r)) (hl : cs.length ≤ 60) : (x.l ++ y.l).Nodup ∧ (x.l ++ y.l).length ≤ 60 ∧ ∀ i ∈ x.l ++ y.l, 0 ≤ i ∧ i < o.length ∧ 0 ≤ o.getD i.toNat 0 ∧ o.getD i.toNat 0 ≤ 60 := by
  have hnd : (symsN (x :: y :: r)).Nodup := f.pm.symm.nodup (posA_nodup cs 0)
  have e1 : symsN (x :: y :: r) = x.l ++ (y.l ++ symsN r) := by simp [symsN]
  have h1 := f.pm.length_eq
  have h2 := posA_len cs 0
  rw [e1, ← List.append_assoc] at hnd
  rw [e1, ← List.append_assoc, List.length_append, List.length_append] at h1
  have okx := f.nd x (by simp)
  have oky := f.nd y (by simp)
  have lx := okx.ln
  have ly := oky.ln
  refine ⟨(List.nodup_append.1 hnd).1, by rw [List.length_append]; omega, fun i hi => ?_⟩
  rcases List.mem_append.1 hi with h | h
  · have := okx.mem i h; omega
  · have := oky.mem i h; omega
structure DpA where
  i : Nat
  z : AV
  ns : List Nd
  G : Hp
structure DpB where
  m : Nat
  z : AV
  ns : List Nd
  o : List Int
  G : Hp
theorem depths48 {h : Hp} (s : AV) {l : List Int} [a : EI h s l] (hs : CsOk l) : ACalls Try.prog 48 [s] h (fun r h' => ∃ z o, r = z ∧ SlC z ∧ Sep h h' [WI z o] ∧ DepOk l o) := by
  have pss := a.p.sl
  have S0 := Sep.nil h
  have hl := hs.len
  have hpm := posA_many (l := l) fun i hi => (hs.bd i hi).1
  have h2p := hs.two
  have c52 : ∀ Y L' z ns, Sep h Y L' → Own encN 4 67 Y z ns → 1 ≤ ns.length → ns.length ≤ 60 → ACalls Try.prog 52 [z] Y (fun r h' => ∃ (k : Nat) (z' : AV), r = .tup [NA (ns.getD k nd0), z'] ∧ SlC z' ∧ Sep h h' (L' ++ [WN z' (ns.take k ++ ns.drop (k + 1))]) ∧ k < ns.length ∧ ∀ j, j < ns.length → (ns.getD k nd0).c ≤ (ns.getD j nd0).c) := fun Y L' z ns S hO h1 h2 =>
    (first52 (h := Y) z ns hO h1 h2).mono fun r h' _ ⟨k, z', g1, g2, g3, g4⟩ => ⟨k, z', g1, g2, S.join g3, g4⟩
  refine acalls_of_wk hm Try.func48 rfl ?_
  simp only [Try.ntmps48, List.length_cons, List.length_nil, Nat.reduceAdd, Nat.reduceSub, List.reduceReplicate, List.cons_append, List.nil_append]
  show wk _ _ none _ _ ⟨_, []⟩ _
  with_reducible refine s_seq ?_
  with_reducible refine s_reg ?_
  refine sassign ?_
  simp only [pu', p0', c1', c0', i1', z0', b8_nat]
  with_reducible refine s_end ?_
  with_reducible refine s_then ?_
  with_reducible refine s_seq ?_
  with_reducible refine s_reg ?_
  refine smove ?_
  simp only [pu', p0', c1', c0', i1', z0', b8_nat]
  refine slenE ?_
  simp only [pu', p0', c1', c0', i1', z0', b8_nat]
  (refine s_mks (n := (l.length : Int)) (encI .i64) (0 : Int) (fun zo Y1 pzo T1 => ?_) inferInstance iok inferInstance rfl (by omega) (by omega) (by omega); simp only [Fr.put, List.set_cons_succ, List.set_cons_zero, Int.toNat_natCast, Nat.zero_add])
  refine sassign ?_
  simp only [pu', p0', c1', c0', i1', z0', b8_nat]
  with_reducible refine s_end ?_
  with_reducible refine s_then ?_
  with_reducible refine s_seq ?_
  with_reducible refine s_reg ?_
  refine sassign ?_
  simp only [pu', p0', c1', c0', i1', z0', b8_nat]
  with_reducible refine s_end ?_
  with_reducible refine s_then ?_
  with_reducible refine s_seq ?_
  with_reducible refine s_seq ?_
  with_reducible refine s_reg ?_
  refine sassign ?_
  simp only [pu', p0', c1', c0', i1', z0', b8_nat]
  with_reducible refine s_end ?_
  with_reducible refine s_then ?_
  with_reducible refine s_block ?_
  rw [Int.toNat_natCast] at T1
  refine s_loop hm (fun (b : DpA) s' => [s, s' 1, s' 2, zo, b.z, I b.i, s' 6, s' 7, s' 8, s' 9, s' 10, s' 11, s' 12, s' 13, s' 14, s' 15, s' 16, s' 17, s' 18, s' 19, s' 20, s' 21, s' 22, s' 23, s' 24, s' 25, s' 26, s' 27, s' 28, s' 29, s' 30, s' 31, s' 32, s' 33, s' 34, s' 35, s' 36, s' 37, s' 38, s' 39, s' 40, s' 41, s' 42, s' 43, s' 44, s' 45, s' 46, s' 47, s' 48, s' 49, s' 50, s' 51, s' 52, s' 53, s' 54, s' 55, s' 56, s' 57, s' 58, s' 59, s' 60, s' 61, s' 62, s' 63, s' 64, s' 65, s' 66, s' 67, s' 68, s' 69, s' 70, s' 71, s' 72, s' 73, s' 74, s' 75, s' 76, s' 77, s' 78, s' 79, s' 80, s' 81, s' 82, s' 83, s' 84, s' 85, s' 86, s' 87]) (fun b => b.G) (fun b => b.i ≤ l.length ∧ SlC b.z ∧ b.ns.length ≤ b.i ∧ symsN b.ns = posA (l.take b.i) 0 ∧ (∀ x ∈ b.ns, LfOk l.length x) ∧ sumN b.ns = posS (l.take b.i) ∧ Sep h b.G ([WI zo (List.replicate l.length 0), WN b.z b.ns] ++ famL b.ns)) (fun b => l.length - b.i) ⟨0, nilS, [], _⟩ (by rfl) rfl ⟨Nat.zero_le _, inferInstance, Nat.le_refl _, rfl, fun x hx => (by cases hx), rfl, Sep.addNil T1 encN 4 67⟩ ?_
  clear T1
  rintro ⟨i, z, ns, G⟩ s' ⟨hi, pz, hnl, hsy, hlf, hsm, S1⟩
  simp only [] at hi pz hnl hsy hlf hsm S1 ⊢
  by_cases hil : i < l.length
  · have hb := hs.bd i hil
    have tA := posA_take hil
    have tS := posS_take hil
    by_cases hp : 0 < l.getD i 0
    · rw [if_pos hp] at tA tS
      focus
        with_reducible refine s_seq ?_
        with_reducible refine s_seq ?_
        with_reducible refine s_reg ?_
        refine smove ?_
        simp only [pu', p0', c1', c0', i1', z0', b8_nat]
        refine smove ?_
        simp only [pu', p0', c1', c0', i1', z0', b8_nat]
        refine slenE ?_
        simp only [pu', p0', c1', c0', i1', z0', b8_nat]
        refine sLt (fun hb => ?_) (fun hb => ?_)
        replace hb := dT' hb
        simp only [pu', p0', c1', c0', i1', z0', b8_nat]
        with_reducible refine s_end ?_
        with_reducible refine s_then ?_
        refine sCT ?_
        with_reducible refine s_skip ?_
        with_reducible refine s_then ?_
        with_reducible refine s_seq ?_
        with_reducible refine s_block ?_
        with_reducible refine s_seq ?_
        with_reducible refine s_reg ?_
        refine smove ?_
        simp only [pu', p0', c1', c0', i1', z0', b8_nat]
        refine smove ?_
        simp only [pu', p0', c1', c0', i1', z0', b8_nat]
        refine sidxE ?_
        simp only [pu', p0', c1', c0', i1', z0', b8_nat]
        refine sloadE1 ?_
        simp only [pu', p0', c1', c0', i1', z0', b8_nat]
        refine sGt (fun hb => ?_) (fun hb => ?_)
        replace hb := dT' hb
        simp only [pu', p0', c1', c0', i1', z0', b8_nat]
        with_reducible refine s_end ?_
        with_reducible refine s_then ?_
        refine sCT ?_
        with_reducible refine s_reg ?_
        refine smove ?_
        simp only [pu', p0', c1', c0', i1', z0', b8_nat]
        refine smove ?_
        simp only [pu', p0', c1', c0', i1', z0', b8_nat]
        refine smove ?_
        simp only [pu', p0', c1', c0', i1', z0', b8_nat]
        refine sidxE ?_
        simp only [pu', p0', c1', c0', i1', z0', b8_nat]
        refine sloadE1 ?_
        simp only [pu', p0', c1', c0', i1', z0', b8_nat]
        refine smove ?_
        simp only [pu', p0', c1', c0', i1', z0', b8_nat]
        refine smove ?_
        simp only [pu', p0', c1', c0', i1', z0', b8_nat]
        refine sbsl ?_
        simp only [pu', p0', c1', c0', i1', n0', n3', n1', n2', a2', a1', a0', n4', Nat.reduceAdd, z0', n5', sa0, sa1, sa2, sa3, sa4, sa5, sa6, sa7, sa8, sa9, sa10, sa11]
        refine sbuild ?_
        simp only [pu', p0', c1', c0', i1', z0', b8_nat]
        refine sbsl ?_
        simp only [pu', p0', c1', c0', i1', n0', n3', n1', n2', a2', a1', a0', n4', Nat.reduceAdd, z0', n5', sa0, sa1, sa2, sa3, sa4, sa5, sa6, sa7, sa8, sa9, sa10, sa11]
        (refine s_app 1 (l2 := [(⟨l.getD i 0, true, i, .sl G.length 0 1 1 false, inferInstance, [(i : Int)], 0, 0⟩ : Nd)]) (fun z1 Y1 T1 x1 => ?_) inferInstance rfl encN_ok (elts_at (l := [(⟨l.getD i 0, true, i, .sl G.length 0 1 1 false, inferInstance, [(i : Int)], 0, 0⟩ : Nd)]) encN_ok inferInstance rfl) (by simp only [List.length_cons, List.length_nil]; omega) inferInstance inferInstance; simp only [a1', c1', c0'] at T1; have pz1 := T1.sl 1 rfl; simp only [Fr.put, List.set_cons_succ, List.set_cons_zero, Int.toNat_natCast, Nat.zero_add])
        refine sassign ?_
        simp only [pu', p0', c1', c0', i1', z0', b8_nat]
        with_reducible refine s_end ?_
        with_reducible refine s_blkN ?_
        with_reducible refine s_then ?_
        with_reducible refine s_reg ?_
        refine smove ?_
        simp only [pu', p0', c1', c0', i1', z0', b8_nat]
        refine sadd ?_
        simp only [pu', p0', c1', c0', i1', z0', b8_nat]
        refine sassign ?_
        simp only [pu', p0', c1', c0', i1', z0', b8_nat]
        with_reducible refine s_end ?_
        rotate_left 1
        replace hb := dF' hb
        exact absurd (by with_reducible assumption) hb
        replace hb := dF' hb
        (exfalso; omega)
      all_goals
        refine l_next ⟨i + 1, z1, ns ++ [(⟨l.getD i 0, true, i, .sl G.length 0 1 1 false, inferInstance, [(i : Int)], 0, 0⟩ : Nd)], _⟩ ⟨by simp only []; omega, pz1, by simp only [List.length_append, List.length_singleton]; omega, ?_, fun x hx => ?_, ?_, ?_⟩ (by simp only []; omega) (by rfl) rfl
        · simp only []
          rw [tA, ← hsy]; simp [symsN]
        · rcases List.mem_append.1 hx with hx | hx
          · exact hlf x hx
          · rw [List.mem_singleton.1 hx]
            exact ⟨rfl, rfl, by simp only []; omega, i, rfl, by omega, by omega⟩
        · simp only []
          rw [tS, ← hsm, sumN_perm List.perm_append_comm]
          show l.getD i 0 + sumN ns = sumN ns + l.getD i 0
          omega
        · simp only []
          rw [famL_app]
          exact sep_fam (A := [_, _]) (F := famL ns) T1
    · rw [if_neg hp] at tA tS
      rw [List.append_nil] at tA
      rw [Int.add_zero] at tS
      focus
        with_reducible refine s_seq ?_
        with_reducible refine s_seq ?_
        with_reducible refine s_reg ?_
        refine smove ?_
        simp only [pu', p0', c1', c0', i1', z0', b8_nat]
        refine smove ?_
        simp only [pu', p0', c1', c0', i1', z0', b8_nat]
        refine slenE ?_
        simp only [pu', p0', c1', c0', i1', z0', b8_nat]
        refine sLt (fun hb => ?_) (fun hb => ?_)
        replace hb := dT' hb
        simp only [pu', p0', c1', c0', i1', z0', b8_nat]
        with_reducible refine s_end ?_
        with_reducible refine s_then ?_
        refine sCT ?_
        with_reducible refine s_skip ?_
        with_reducible refine s_then ?_
        with_reducible refine s_seq ?_
        with_reducible refine s_block ?_
        with_reducible refine s_seq ?_
        with_reducible refine s_reg ?_
        refine smove ?_
        simp only [pu', p0', c1', c0', i1', z0', b8_nat]
        refine smove ?_
        simp only [pu', p0', c1', c0', i1', z0', b8_nat]
        refine sidxE ?_
        simp only [pu', p0', c1', c0', i1', z0', b8_nat]
        refine sloadE1 ?_
        simp only [pu', p0', c1', c0', i1', z0', b8_nat]
        refine sGt (fun hb => ?_) (fun hb => ?_)
        replace hb := dT' hb
        (exfalso; omega)
        replace hb := dF' hb
        simp only [pu', p0', c1', c0', i1', z0', b8_nat]
        with_reducible refine s_end ?_
        with_reducible refine s_then ?_
        refine sCF ?_
        with_reducible refine s_skip ?_
        with_reducible refine s_blkN ?_
        with_reducible refine s_then ?_
        with_reducible refine s_reg ?_
        refine smove ?_
        simp only [pu', p0', c1', c0', i1', z0', b8_nat]
        refine sadd ?_
        simp only [pu', p0', c1', c0', i1', z0', b8_nat]
        refine sassign ?_
        simp only [pu', p0', c1', c0', i1', z0', b8_nat]
        with_reducible refine s_end ?_
        rotate_left 1
        replace hb := dF' hb
        (exfalso; omega)
      all_goals
        refine l_next ⟨i + 1, z, ns, G⟩ ⟨by simp only []; omega, pz, by simp only []; omega, by simp only []; rw [tA]; exact hsy, hlf, by simp only []; rw [tS]; exact hsm, S1⟩ (by simp only []; omega) (by rfl) rfl
  · have hie : i = l.length := by omega
    subst hie
    rw [List.take_length] at hsy hsm
    have hfo := Forest.init hsy hlf hsm
    have hn1 : 1 ≤ ns.length := by
      have h1 := hpm l.length (Nat.le_refl _)
      rw [List.take_length, ← hsy] at h1
      cases ns with
      | nil => simp [symsN] at h1; omega
      | cons x r => simp
    clear hsy hlf hsm hil hi
    with_reducible refine s_seq ?_
    with_reducible refine s_seq ?_
    with_reducible refine s_reg ?_
    refine smove ?_
    simp only [pu', p0', c1', c0', i1', z0', b8_nat]
    refine smove ?_
    simp only [pu', p0', c1', c0', i1', z0', b8_nat]
    refine slenE ?_
    simp only [pu', p0', c1', c0', i1', z0', b8_nat]
    refine sLt (fun hb => ?_) (fun hb => ?_)
    replace hb := dT' hb
    (exfalso; omega)
    replace hb := dF' hb
    simp only [pu', p0', c1', c0', i1', z0', b8_nat]
    with_reducible refine s_end ?_
    with_reducible refine s_then ?_
    refine sCF ?_
    with_reducible refine s_exit ?_
    with_reducible refine s_thenE ?_
    with_reducible refine l_exit ?_
    with_reducible refine s_blkE ?_
    with_reducible refine s_then ?_
    with_reducible refine s_seq ?_
    with_reducible refine s_seq ?_
    with_reducible refine s_reg ?_
    refine sassign ?_
    simp only [pu', p0', c1', c0', i1', z0', b8_nat]
    with_reducible refine s_end ?_
    with_reducible refine s_then ?_
    with_reducible refine s_block ?_
    refine s_loop hm (fun (b : DpB) s' => [s' 0, s' 1, s' 2, zo, b.z, s' 5, I b.m, s' 7, s' 8, s' 9, s' 10, s' 11, s' 12, s' 13, s' 14, s' 15, s' 16, s' 17, s' 18, s' 19, s' 20, s' 21, s' 22, s' 23, s' 24, s' 25, s' 26, s' 27, s' 28, s' 29, s' 30, s' 31, s' 32, s' 33, s' 34, s' 35, s' 36, s' 37, s' 38, s' 39, s' 40, s' 41, s' 42, s' 43, s' 44, s' 45, s' 46, s' 47, s' 48, s' 49, s' 50, s' 51, s' 52, s' 53, s' 54, s' 55, s' 56, s' 57, s' 58, s' 59, s' 60, s' 61, s' 62, s' 63, s' 64, s' 65, s' 66, s' 67, s' 68, s' 69, s' 70, s' 71, s' 72, s' 73, s' 74, s' 75, s' 76, s' 77, s' 78, s' 79, s' 80, s' 81, s' 82, s' 83, s' 84, s' 85, s' 86, s' 87]) (fun b => b.G) (fun b => SlC b.z ∧ 1 ≤ b.ns.length ∧ b.ns.length + b.m ≤ 60 ∧ Forest l b.o b.ns ∧ Sep h b.G ([WI zo b.o, WN b.z b.ns] ++ famL b.ns)) (fun b => b.ns.length) ⟨0, z, ns, _, G⟩ (by rfl) rfl ⟨pz, hn1, by simp only []; omega, hfo, S1⟩ ?_
    clear S1 hfo hn1 hnl pz
    rintro ⟨m, z, ns, o, G⟩ s' ⟨pz, hn1, hnm, hfo, S1⟩
    simp only [] at pz hn1 hnm hfo S1 ⊢
    by_cases hn : 1 < ns.length
    · with_reducible refine s_seq ?_
      with_reducible refine s_seq ?_
      with_reducible refine s_reg ?_
      refine smove ?_
      simp only [pu', p0', c1', c0', i1', z0', b8_nat]
      refine slenE ?_
      simp only [pu', p0', c1', c0', i1', z0', b8_nat]
      refine sGt (fun hb => ?_) (fun hb => ?_)
      replace hb := dT' hb
      simp only [pu', p0', c1', c0', i1', z0', b8_nat]
      with_reducible refine s_end ?_
      with_reducible refine s_then ?_
      refine sCT ?_
      with_reducible refine s_skip ?_
      with_reducible refine s_then ?_
      with_reducible refine s_seq ?_
      with_reducible refine s_block ?_
      with_reducible refine s_seq ?_
      with_reducible refine s_reg ?_
      refine smove ?_
      simp only [pu', p0', c1', c0', i1', z0', b8_nat]
      refine sC (hx := rfl) ((c52 _ _ z ns inferInstance own_in (by omega) (by omega)).mono ?_)
      rintro _ m52 _ ⟨k, z1, rfl, pz1, S2, hk, hkm⟩
      simp only [pu', p0', c1', c0', i1', n0', n3', n1', n2', a2', a1', a0', n4', Nat.reduceAdd, z0', n5', sa0, sa1, sa2, sa3, sa4, sa5, sa6, sa7, sa8, sa9, sa10, sa11]
      refine smove ?_
      simp only [pu', p0', c1', c0', i1', z0', b8_nat]
      refine sext ?_
      simp only [pu', p0', c1', c0', i1', z0', b8_nat]
      refine sext ?_
      simp only [pu', p0', c1', c0', i1', z0', b8_nat]
      refine salloc ?_
      simp only [pu', p0', c1', c0', i1', n0', n3', n1', n2', a2', a1', a0', n4', Nat.reduceAdd, z0', n5', sa0, sa1, sa2, sa3, sa4, sa5, sa6, sa7, sa8, sa9, sa10, sa11]
      refine sstoreF ?_
      simp only [pu', p0', c1', c0', i1', n0', n3', n1', n2', a2', a1', a0', n4', Nat.reduceAdd, z0', n5', sa0, sa1, sa2, sa3, sa4, sa5, sa6, sa7, sa8, sa9, sa10, sa11]
      refine sassign ?_
      simp only [pu', p0', c1', c0', i1', z0', b8_nat]
      with_reducible refine s_end ?_
      with_reducible refine s_then ?_
      with_reducible refine s_seq ?_
      rotate_left 1
      replace hb := dF' hb
      (exfalso; omega)
      refine wk_gen (S2.push _) (fun Yx S2x => ?_)
      clear S2
      generalize m52.length = ix at *
      have hl1 : (ns.take k ++ ns.drop (k + 1)).length = ns.length - 1 := by simp only [List.length_append, List.length_take, List.length_drop]; omega
      have hP1 := rem_perm (d := nd0) hk
      have hx0 := all_mem (p := fun u => (ns.getD k nd0).c ≤ u.c) hkm
      generalize ns.take k ++ ns.drop (k + 1) = ns1 at *
      generalize ns.getD k nd0 = x at *
      clear hkm
      with_reducible refine s_reg ?_
      refine smove ?_
      simp only [pu', p0', c1', c0', i1', z0', b8_nat]
      refine sC (hx := rfl) ((c52 _ _ z1 ns1 inferInstance own_in (by omega) (by omega)).mono ?_)
      rintro _ m52 _ ⟨k2, z2, rfl, pz2, S3, hk2, hkm2⟩
      simp only [pu', p0', c1', c0', i1', n0', n3', n1', n2', a2', a1', a0', n4', Nat.reduceAdd, z0', n5', sa0, sa1, sa2, sa3, sa4, sa5, sa6, sa7, sa8, sa9, sa10, sa11]
      refine smove ?_
      simp only [pu', p0', c1', c0', i1', z0', b8_nat]
      refine sext ?_
      simp only [pu', p0', c1', c0', i1', z0', b8_nat]
      refine sext ?_
      simp only [pu', p0', c1', c0', i1', z0', b8_nat]
      refine salloc ?_
      simp only [pu', p0', c1', c0', i1', n0', n3', n1', n2', a2', a1', a0', n4', Nat.reduceAdd, z0', n5', sa0, sa1, sa2, sa3, sa4, sa5, sa6, sa7, sa8, sa9, sa10, sa11]
      refine sstoreF ?_
      simp only [pu', p0', c1', c0', i1', n0', n3', n1', n2', a2', a1', a0', n4', Nat.reduceAdd, z0', n5', sa0, sa1, sa2, sa3, sa4, sa5, sa6, sa7, sa8, sa9, sa10, sa11]
      refine sassign ?_
      simp only [pu', p0', c1', c0', i1', z0', b8_nat]
      with_reducible refine s_end ?_
      with_reducible refine s_then ?_
      with_reducible refine s_seq ?_
      have hP2 := rem_perm (d := nd0) hk2
      have hl2 : (ns1.take k2 ++ ns1.drop (k2 + 1)).length = ns1.length - 1 := by simp only [List.length_append, List.length_take, List.length_drop]; omega
      have hy0 := all_mem (p := fun u => (ns1.getD k2 nd0).c ≤ u.c) hkm2
      refine wk_gen (S3.push _) (fun Yy S3x => ?_)
      clear S3 S2x S1
      generalize m52.length = iy at *
      generalize ns1.take k2 ++ ns1.drop (k2 + 1) = ns2 at *
      generalize ns1.getD k2 nd0 = y at *
      clear hkm2
      have hP : ns.Perm (x :: y :: ns2) := hP1.trans (hP2.cons x)
      have hfx := hfo.perm hP
      have S4 := sep_two (F := famL ns) (F2 := famL ns2) (x := WI x.z x.l) (y := WI y.z y.l) (show (famL ns).Perm (WI x.z x.l :: WI y.z y.l :: famL ns2) from hP.map _) S3x
      clear S3x
      have hxa : ∀ u ∈ y :: ns2, x.c ≤ u.c := fun u hu => hx0 u (hP.mem_iff.2 (List.mem_cons_of_mem _ hu))
      have hya : ∀ u ∈ ns2, y.c ≤ u.c := fun u hu => hy0 u (hP2.mem_iff.2 (List.mem_cons_of_mem _ hu))
      have okx := hfx.nd x (by simp)
      have oky := hfx.nd y (by simp)
      have hlx : x.l.length ≤ 60 ∧ y.l.length ≤ 60 := by
        have h1 := hfx.pm.length_eq
        have h2 := posA_len l 0
        simp only [symsN, List.flatMap_cons, List.length_append] at h1
        omega
      have hxy : 1 ≤ x.c ∧ 1 ≤ y.c ∧ x.c + y.c ≤ 60000 := by
        have h1 := hfx.sm
        have h2 := okx.c1
        have h3 := oky.c1
        have h4 := fb_pos x.h
        have h5 := fb_pos y.h
        have h6 := sumN_nn ns2 fun u hu => by have := (hfx.nd u (by simp [hu])).c1; have := fb_pos u.h; omega
        have h7 := posS_bd (fun i hi => (hs.bd i hi).2) l.length (Nat.le_refl _)
        rw [List.take_length] at h7
        rw [sumN, sumN] at h1
        omega
      have pxz := x.pz
      have pyz := y.pz
      refine s_cut (fun (b : DpC) s' => [s' 0, s' 1, s' 2, zo, s' 4, s' 5, I m, s' 7, z2, s' 9, .ptr b.i 0, s' 11, s' 12, s' 13, s' 14, s' 15, s' 16, s' 17, s' 18, s' 19, s' 20, s' 21, s' 22, s' 23, s' 24, s' 25, s' 26, s' 27, s' 28, s' 29, s' 30, s' 31, s' 32, s' 33, s' 34, s' 35, s' 36, s' 37, s' 38, s' 39, s' 40, s' 41, s' 42, s' 43, s' 44, s' 45, s' 46, s' 47, s' 48, s' 49, s' 50, s' 51, s' 52, s' 53, s' 54, s' 55, s' 56, s' 57, s' 58, s' 59, s' 60, s' 61, s' 62, s' 63, s' 64, s' 65, s' 66, s' 67, s' 68, s' 69, s' 70, s' 71, s' 72, s' 73, s' 74, s' 75, s' 76, s' 77, s' 78, s' 79, s' 80, s' 81, s' 82, s' 83, s' 84, s' 85, s' 86, s' 87]) (fun b => b.G) (fun b => Sep h b.G ([WI b.z (x.l ++ y.l), WI zo o, WN z2 ns2] ++ famL ns2 ++ [pcC b.i (.cells (encN ⟨x.c + y.c, false, m, b.z, b.pz, x.l ++ y.l, max x.h y.h + 1, y.c⟩) 67 true)])) ?_ ?_
      · (refine s_regT (id := 13) (.light 0 (.light 1 (.light 2 (.light 3 (.light 4 (.light 5 (.light 7 (.light 8 (.light 10 (.light 11 (.alt 6 [] (.alt 9 [8] (.alt 12 [8, 11] (.light 13 (.alt 14 [8, 11] (.alt 15 [0, 1, 2, 3, 4, 5, 7, 8, 10, 11, 13] (.done) (.no)) (.no))) (.alt 14 [8] (.alt 12 [8, 11] (.light 13 (.alt 15 [0, 1, 2, 3, 4, 5, 7, 8, 10, 11, 13] (.done) (.no))) (.no)) (.no))) (.alt 14 [] (.alt 9 [8] (.alt 12 [8, 11] (.light 13 (.alt 15 [0, 1, 2, 3, 4, 5, 7, 8, 10, 11, 13] (.done) (.no))) (.no)) (.no)) (.no))) (.alt 14 [] (.alt 6 [] (.alt 9 [8] (.alt 12 [8, 11] (.light 13 (.alt 15 [0, 1, 2, 3, 4, 5, 7, 8, 10, 11, 13] (.done) (.no))) (.no)) (.no)) (.no)) (.no))))))))))))) [6, 9, 12, 14, 15] (by kernel_rfl) (by conv => lhs; simp only [pickT, List.getElem?_cons_succ, List.getElem?_cons_zero]) ?_)
        refine tfad ?_
        simp only [pu', p0', c1', c0', i1', z0', b8_nat]
        refine tload1 ?_
        simp only [pu', p0', c1', c0', i1', z0', b8_nat]
        refine tfad ?_
        simp only [pu', p0', c1', c0', i1', z0', b8_nat]
        refine tload1 ?_
        simp only [pu', p0', c1', c0', i1', z0', b8_nat]
        refine tadd ?_
        simp only [pu', p0', c1', c0', i1', z0', b8_nat]
        refine tmove ?_
        simp only [pu', p0', c1', c0', i1', z0', b8_nat]
        refine tfad ?_
        simp only [pu', p0', c1', c0', i1', z0', b8_nat]
        refine tload1 ?_
        simp only [pu', p0', c1', c0', i1', z0', b8_nat]
        refine tfad ?_
        simp only [pu', p0', c1', c0', i1', z0', b8_nat]
        refine tload1 ?_
        simp only [pu', p0', c1', c0', i1', z0', b8_nat]
        with_reducible refine u_both ?_ ?_
        refine ubsl ?_
        simp only [pu', p0', c1', c0', i1', n0', n3', n1', n2', a2', a1', a0', n4', Nat.reduceAdd, z0', n5', sa0, sa1, sa2, sa3, sa4, sa5, sa6, sa7, sa8, sa9, sa10, sa11]
        with_reducible refine u_both ?_ ?_
        (refine u_app0 h (fun z3 Y3 pz3 T3 => ?_); (try simp only [List.append_nil, List.nil_append] at T3); refine ⟨(by repeat' first | exact trivial | refine ⟨.inl rfl, ?_⟩ | refine ⟨.inr (ha_eq inferInstance inferInstance), ?_⟩), ?_⟩; simp only [Fr.put, List.set_cons_succ, List.set_cons_zero, Int.toNat_natCast, Nat.zero_add])
        with_reducible refine u_both ?_ ?_
        (refine u_app 0 (l2 := y.l) (fun z4 Y4 T4 x4 => ?_) inferInstance rfl iok (EL.p (d := (0 : Int))) (by omega) inferInstance inferInstance; simp only [a1', c1', c0', List.append_nil, List.nil_append] at T4; have pz4 := T4.sl 0 rfl; refine ⟨(by repeat' first | exact trivial | refine ⟨.inl rfl, ?_⟩ | refine ⟨.inr (ha_eq inferInstance inferInstance), ?_⟩), ?_⟩; simp only [Fr.put, List.set_cons_succ, List.set_cons_zero, Int.toNat_natCast, Nat.zero_add])
        refine tbuild ?_
        simp only [pu', p0', c1', c0', i1', z0', b8_nat]
        refine ualloc ?_
        simp only [pu', p0', c1', c0', i1', n0', n3', n1', n2', a2', a1', a0', n4', Nat.reduceAdd, z0', n5', sa0, sa1, sa2, sa3, sa4, sa5, sa6, sa7, sa8, sa9, sa10, sa11]
        refine ustoreF ?_
        simp only [pu', p0', c1', c0', i1', n0', n3', n1', n2', a2', a1', a0', n4', Nat.reduceAdd, z0', n5', sa0, sa1, sa2, sa3, sa4, sa5, sa6, sa7, sa8, sa9, sa10, sa11]
        with_reducible refine t_end ?_
        with_reducible refine s_then ?_
        rotate_left 1
        refine ualloc ?_
        simp only [pu', p0', c1', c0', i1', n0', n3', n1', n2', a2', a1', a0', n4', Nat.reduceAdd, z0', n5', sa0, sa1, sa2, sa3, sa4, sa5, sa6, sa7, sa8, sa9, sa10, sa11]
        (refine u_app 0 (l2 := y.l) (fun z4 Y4 T4 x4 => ?_) inferInstance rfl iok (EL.p (d := (0 : Int))) (by omega) inferInstance inferInstance; simp only [a1', c1', c0', List.append_nil, List.nil_append] at T4; have pz4 := T4.sl 0 rfl; refine ⟨(by repeat' first | exact trivial | refine ⟨.inl rfl, ?_⟩ | refine ⟨.inr (ha_eq inferInstance inferInstance), ?_⟩), ?_⟩; simp only [Fr.put, List.set_cons_succ, List.set_cons_zero, Int.toNat_natCast, Nat.zero_add])
        refine tbuild ?_
        simp only [pu', p0', c1', c0', i1', z0', b8_nat]
        refine ustoreF ?_
        simp only [pu', p0', c1', c0', i1', n0', n3', n1', n2', a2', a1', a0', n4', Nat.reduceAdd, z0', n5', sa0, sa1, sa2, sa3, sa4, sa5, sa6, sa7, sa8, sa9, sa10, sa11]
        with_reducible refine t_end ?_
        with_reducible refine s_then ?_
        rotate_left 1
        refine ualloc ?_
        simp only [pu', p0', c1', c0', i1', n0', n3', n1', n2', a2', a1', a0', n4', Nat.reduceAdd, z0', n5', sa0, sa1, sa2, sa3, sa4, sa5, sa6, sa7, sa8, sa9, sa10, sa11]
        (refine u_app0 h (fun z3 Y3 pz3 T3 => ?_); (try simp only [List.append_nil, List.nil_append] at T3); refine ⟨(by repeat' first | exact trivial | refine ⟨.inl rfl, ?_⟩ | refine ⟨.inr (ha_eq inferInstance inferInstance), ?_⟩), ?_⟩; simp only [Fr.put, List.set_cons_succ, List.set_cons_zero, Int.toNat_natCast, Nat.zero_add])
        (refine u_app 0 (l2 := y.l) (fun z4 Y4 T4 x4 => ?_) inferInstance rfl iok (EL.p (d := (0 : Int))) (by omega) inferInstance inferInstance; simp only [a1', c1', c0', List.append_nil, List.nil_append] at T4; have pz4 := T4.sl 0 rfl; refine ⟨(by repeat' first | exact trivial | refine ⟨.inl rfl, ?_⟩ | refine ⟨.inr (ha_eq inferInstance inferInstance), ?_⟩), ?_⟩; simp only [Fr.put, List.set_cons_succ, List.set_cons_zero, Int.toNat_natCast, Nat.zero_add])
        refine tbuild ?_
        simp only [pu', p0', c1', c0', i1', z0', b8_nat]
        refine ustoreF ?_
        simp only [pu', p0', c1', c0', i1', n0', n3', n1', n2', a2', a1', a0', n4', Nat.reduceAdd, z0', n5', sa0, sa1, sa2, sa3, sa4, sa5, sa6, sa7, sa8, sa9, sa10, sa11]
        with_reducible refine t_end ?_
        with_reducible refine s_then ?_
        rotate_left 1
        refine ualloc ?_
        simp only [pu', p0', c1', c0', i1', n0', n3', n1', n2', a2', a1', a0', n4', Nat.reduceAdd, z0', n5', sa0, sa1, sa2, sa3, sa4, sa5, sa6, sa7, sa8, sa9, sa10, sa11]
        refine ubsl ?_
        simp only [pu', p0', c1', c0', i1', n0', n3', n1', n2', a2', a1', a0', n4', Nat.reduceAdd, z0', n5', sa0, sa1, sa2, sa3, sa4, sa5, sa6, sa7, sa8, sa9, sa10, sa11]
        (refine u_app0 h (fun z3 Y3 pz3 T3 => ?_); (try simp only [List.append_nil, List.nil_append] at T3); refine ⟨(by repeat' first | exact trivial | refine ⟨.inl rfl, ?_⟩ | refine ⟨.inr (ha_eq inferInstance inferInstance), ?_⟩), ?_⟩; simp only [Fr.put, List.set_cons_succ, List.set_cons_zero, Int.toNat_natCast, Nat.zero_add])
        (refine u_app 0 (l2 := y.l) (fun z4 Y4 T4 x4 => ?_) inferInstance rfl iok (EL.p (d := (0 : Int))) (by omega) inferInstance inferInstance; simp only [a1', c1', c0', List.append_nil, List.nil_append] at T4; have pz4 := T4.sl 0 rfl; refine ⟨(by repeat' first | exact trivial | refine ⟨.inl rfl, ?_⟩ | refine ⟨.inr (ha_eq inferInstance inferInstance), ?_⟩), ?_⟩; simp only [Fr.put, List.set_cons_succ, List.set_cons_zero, Int.toNat_natCast, Nat.zero_add])
        refine tbuild ?_
        simp only [pu', p0', c1', c0', i1', z0', b8_nat]
        refine ustoreF ?_
        simp only [pu', p0', c1', c0', i1', n0', n3', n1', n2', a2', a1', a0', n4', Nat.reduceAdd, z0', n5', sa0, sa1, sa2, sa3, sa4, sa5, sa6, sa7, sa8, sa9, sa10, sa11]
        with_reducible refine t_end ?_
        with_reducible refine s_then ?_
        rotate_left 1
        all_goals
          refine at_in ⟨z4, pz4, _, _⟩ ?_ (by rfl) (by rfl)
          exact Sep.sub inferInstance (by repeat' first | exact List.Sublist.refl _ | exact List.sublist_append_left _ _ | exact List.nil_sublist _ | refine List.Sublist.cons_cons _ ?_ | refine List.Sublist.cons _ ?_ | refine List.Sublist.trans ?_ (List.sublist_append_left _ _))
      clear S4
      rintro ⟨zz, pzz, ii, G2⟩ s' S5
      simp only [] at S5 ⊢
      have hJ := hfx.join hl hxa hya ⟨x.c + y.c, false, m, zz, pzz, x.l ++ y.l, max x.h y.h + 1, y.c⟩ rfl rfl rfl rfl
      have hT := hfx.two hl
      obtain ⟨Z, hZ⟩ : ∃ Z : Nd, Z = ⟨x.c + y.c, false, m, zz, pzz, x.l ++ y.l, max x.h y.h + 1, y.c⟩ := ⟨_, rfl⟩
      have e1 : WI zz (x.l ++ y.l) = WI Z.z Z.l := by rw [hZ]
      have e2 : x.l ++ y.l = Z.l := by rw [hZ]
      rw [e1, ← hZ] at S5
      rw [← hZ] at hJ
      rw [e2] at hT
      obtain ⟨hnd, hzl, hmz⟩ := hT
      have pZz := Z.pz
      clear hZ e1 e2 hx0 hy0 hxa hya okx oky hlx hxy
      with_reducible refine s_seq ?_
      with_reducible refine s_seq ?_
      with_reducible refine s_reg ?_
      refine sassign ?_
      simp only [pu', p0', c1', c0', i1', z0', b8_nat]
      with_reducible refine s_end ?_
      with_reducible refine s_then ?_
      with_reducible refine s_block ?_
      refine s_loop hm (fun (b : DpD) s' => [s' 0, s' 1, s' 2, zo, s' 4, s' 5, I m, s' 7, z2, s' 9, .ptr ii 0, I b.j, s' 12, s' 13, s' 14, s' 15, s' 16, s' 17, s' 18, s' 19, s' 20, s' 21, s' 22, s' 23, s' 24, s' 25, s' 26, s' 27, s' 28, s' 29, s' 30, s' 31, s' 32, s' 33, s' 34, s' 35, s' 36, s' 37, s' 38, s' 39, s' 40, s' 41, s' 42, s' 43, s' 44, s' 45, s' 46, s' 47, s' 48, s' 49, s' 50, s' 51, s' 52, s' 53, s' 54, s' 55, s' 56, s' 57, s' 58, s' 59, s' 60, s' 61, s' 62, s' 63, s' 64, s' 65, s' 66, s' 67, s' 68, s' 69, s' 70, s' 71, s' 72, s' 73, s' 74, s' 75, s' 76, s' 77, s' 78, s' 79, s' 80, s' 81, s' 82, s' 83, s' 84, s' 85, s' 86, s' 87]) (fun b => b.G) (fun b => b.j ≤ Z.l.length ∧ Sep h b.G ([WI Z.z Z.l, WI zo (incO o (Z.l.take b.j)), WN z2 ns2] ++ famL ns2 ++ [pcC ii (.cells (encN Z) 67 true)])) (fun b => Z.l.length - b.j) ⟨0, G2⟩ (by rfl) rfl ⟨Nat.zero_le _, S5⟩ ?_
      clear S5
      rintro ⟨j, G3⟩ s' ⟨hj, S6⟩
      simp only [] at hj S6 ⊢
      by_cases hjl : j < Z.l.length
      · have hq := hmz _ (getD_mem hjl)
        have hlo := incO_len (Z.l.take j) o
        have hle := incO_le (o := o) (l := Z.l.take j) (hnd.sublist (List.take_sublist _ _)) (fun i hi => by have := hmz i (List.mem_of_mem_take hi); omega) (Z.l.getD j 0).toNat
        have hst := incO_take (o := o) hjl
        rw [inc1] at hst
        focus
          with_reducible refine s_seq ?_
          with_reducible refine s_seq ?_
          with_reducible refine s_reg ?_
          refine smove ?_
          simp only [pu', p0', c1', c0', i1', z0', b8_nat]
          refine sfad ?_
          simp only [pu', p0', c1', c0', i1', z0', b8_nat]
          refine sload1 ?_
          simp only [pu', p0', c1', c0', i1', z0', b8_nat]
          refine slenE ?_
          simp only [pu', p0', c1', c0', i1', z0', b8_nat]
          refine sLt (fun hb => ?_) (fun hb => ?_)
          replace hb := dT' hb
          simp only [pu', p0', c1', c0', i1', z0', b8_nat]
          with_reducible refine s_end ?_
          with_reducible refine s_then ?_
          refine sCT ?_
          with_reducible refine s_skip ?_
          with_reducible refine s_then ?_
          with_reducible refine s_seq ?_
          with_reducible refine s_block ?_
          with_reducible refine s_reg ?_
          refine smove ?_
          simp only [pu', p0', c1', c0', i1', z0', b8_nat]
          refine sfad ?_
          simp only [pu', p0', c1', c0', i1', z0', b8_nat]
          refine sload1 ?_
          simp only [pu', p0', c1', c0', i1', z0', b8_nat]
          refine smove ?_
          simp only [pu', p0', c1', c0', i1', z0', b8_nat]
          refine sidxE ?_
          simp only [pu', p0', c1', c0', i1', z0', b8_nat]
          refine sloadE1 ?_
          simp only [pu', p0', c1', c0', i1', z0', b8_nat]
          refine sidxE ?_
          simp only [pu', p0', c1', c0', i1', z0', b8_nat]
          refine sloadE1 ?_
          simp only [pu', p0', c1', c0', i1', z0', b8_nat]
          refine sadd ?_
          simp only [pu', p0', c1', c0', i1', z0', b8_nat]
          refine sidxE ?_
          simp only [pu', p0', c1', c0', i1', z0', b8_nat]
          (refine s_stE (x := Z.l.getD j 0) 1 ((incO o (Z.l.take j)).getD (Z.l.getD j 0).toNat 0 + 1) (0 : Int) (fun Y2 T2 => ?_) inferInstance rfl iok inferInstance (by omega) (by omega) (by rfl) inferInstance; simp only [a1', c1', c0'] at T2; simp only [Fr.put, List.set_cons_succ, List.set_cons_zero, Int.toNat_natCast, Nat.zero_add])
          with_reducible refine s_end ?_
          with_reducible refine s_blkN ?_
          with_reducible refine s_then ?_
          with_reducible refine s_reg ?_
          refine smove ?_
          simp only [pu', p0', c1', c0', i1', z0', b8_nat]
          refine sadd ?_
          simp only [pu', p0', c1', c0', i1', z0', b8_nat]
          refine sassign ?_
          simp only [pu', p0', c1', c0', i1', z0', b8_nat]
          with_reducible refine s_end ?_
          rotate_left 1
          replace hb := dF' hb
          (exfalso; omega)
        all_goals
          refine l_next ⟨j + 1, _⟩ ⟨by simp only []; omega, by simp only []; rw [hst]; exact T2⟩ (by simp only []; omega) (by rfl) rfl
      · have hje : j = Z.l.length := by omega
        subst hje
        rw [List.take_length] at S6
        with_reducible refine s_seq ?_
        with_reducible refine s_seq ?_
        with_reducible refine s_reg ?_
        refine smove ?_
        simp only [pu', p0', c1', c0', i1', z0', b8_nat]
        refine sfad ?_
        simp only [pu', p0', c1', c0', i1', z0', b8_nat]
        refine sload1 ?_
        simp only [pu', p0', c1', c0', i1', z0', b8_nat]
        refine slenE ?_
        simp only [pu', p0', c1', c0', i1', z0', b8_nat]
        refine sLt (fun hb => ?_) (fun hb => ?_)
        replace hb := dT' hb
        (exfalso; omega)
        replace hb := dF' hb
        simp only [pu', p0', c1', c0', i1', z0', b8_nat]
        with_reducible refine s_end ?_
        with_reducible refine s_then ?_
        refine sCF ?_
        with_reducible refine s_exit ?_
        with_reducible refine s_thenE ?_
        with_reducible refine l_exit ?_
        with_reducible refine s_blkE ?_
        with_reducible refine s_then ?_
        with_reducible refine s_reg ?_
        refine smove ?_
        simp only [pu', p0', c1', c0', i1', z0', b8_nat]
        refine sloadW ?_
        simp only [pu', p0', c1', c0', i1', z0', b8_nat]
        refine sbsl ?_
        simp only [pu', p0', c1', c0', i1', n0', n3', n1', n2', a2', a1', a0', n4', Nat.reduceAdd, z0', n5', sa0, sa1, sa2, sa3, sa4, sa5, sa6, sa7, sa8, sa9, sa10, sa11]
        (refine s_app 2 (l2 := [Z]) (fun z5 Y5 T5 x5 => ?_) inferInstance rfl encN_ok (elts_at (l := [Z]) encN_ok inferInstance rfl) (by simp only [List.length_cons, List.length_nil]; omega) inferInstance inferInstance; simp only [a1', c1', c0'] at T5; have pz5 := T5.sl 2 rfl; simp only [Fr.put, List.set_cons_succ, List.set_cons_zero, Int.toNat_natCast, Nat.zero_add])
        refine sassign ?_
        simp only [pu', p0', c1', c0', i1', z0', b8_nat]
        with_reducible refine s_end ?_
        with_reducible refine s_blkN ?_
        with_reducible refine s_then ?_
        with_reducible refine s_reg ?_
        refine smove ?_
        simp only [pu', p0', c1', c0', i1', z0', b8_nat]
        refine sadd ?_
        simp only [pu', p0', c1', c0', i1', z0', b8_nat]
        refine sassign ?_
        simp only [pu', p0', c1', c0', i1', z0', b8_nat]
        with_reducible refine s_end ?_
        all_goals
          refine l_next ⟨m + 1, z5, ns2 ++ [Z], incO o Z.l, _⟩ ⟨pz5, by simp, by simp only [List.length_append, List.length_singleton]; omega, hJ, ?_⟩ (by simp only [List.length_append, List.length_singleton]; omega) (by rfl) rfl
          simp only []
          rw [famL_app]
          exact sep_end T5
    · obtain ⟨x, rfl⟩ : ∃ x, ns = [x] := by
        match ns, hn1, hn with
        | [x], _, _ => exact ⟨x, rfl⟩
        | x :: y :: r, _, hn => exact absurd (by simp) hn
      have hD := hfo.one
      with_reducible refine s_seq ?_
      with_reducible refine s_seq ?_
      with_reducible refine s_reg ?_
      refine smove ?_
      simp only [pu', p0', c1', c0', i1', z0', b8_nat]
      refine slenE ?_
      simp only [pu', p0', c1', c0', i1', z0', b8_nat]
      refine sGt (fun hb => ?_) (fun hb => ?_)
      replace hb := dT' hb
      (exfalso; omega)
      replace hb := dF' hb
      simp only [pu', p0', c1', c0', i1', z0', b8_nat]
      with_reducible refine s_end ?_
      with_reducible refine s_then ?_
      refine sCF ?_
      with_reducible refine s_exit ?_
      with_reducible refine s_thenE ?_
      with_reducible refine l_exit ?_
      with_reducible refine s_blkE ?_
      with_reducible refine s_then ?_
      with_reducible refine s_seq ?_
      with_reducible refine s_reg ?_
      refine smove ?_
      simp only [pu', p0', c1', c0', i1', z0', b8_nat]
      refine sassign ?_
      simp only [pu', p0', c1', c0', i1', z0', b8_nat]
      with_reducible refine s_end ?_
      with_reducible refine s_then ?_
      with_reducible refine s_ret ?_
      all_goals
        all_goals try with_reducible refine w_n ?_
        all_goals refine w_1 rfl (by first | exact v_t (by rfl) | exact v_c1 (C1.p) (by rfl) (HA.p) (by rfl) | exact v_cF (CA.p) (by rfl) (HA.p) (by rfl)) ?_
        exact ⟨zo, o, rfl, pzo, Sep.sub inferInstance (by repeat' first | exact List.Sublist.refl _ | exact List.sublist_append_left _ _ | exact List.nil_sublist _ | refine List.Sublist.cons_cons _ ?_ | refine List.Sublist.cons _ ?_ | refine List.Sublist.trans ?_ (List.sublist_append_left _ _)), hD⟩
end Go.Proofs.Ytckljanplahbkaa
