/-
  A part of the proof of a statement of a chapter's seat; conditions: stated at each theorem.
-/
import Derived.Test.YtgjbmhclgmpjdaaGreatQ18
set_option linter.unusedVariables false
set_option linter.unusedSectionVars false
set_option linter.unusedSimpArgs false
set_option linter.unusedVariables false
set_option maxRecDepth 100000
set_option maxHeartbeats 8000000
namespace Go.Proofs.YtgjbmhclgmpjdaaGreat
open Go.Az Go
/-! ### The memory of a part's reading -/
theorem iok : EncOk (encI .i64) 1 := encI_ok .i64
abbrev WI (z : AV) (l : List Int) : Pc := pcW (encI .i64) 1 3 z l
abbrev LD (n : Nat) (l out : List UInt8) (zz : AV) (ks : List Int) (y e a m : Int) (lo : AObj) (E : List Pc) : List Pc :=
  pcC n (.cells [St out] 9 true) :: pcC (n + 1) (.cells [zz] 22 true) :: pcC (n + 2) (.cells [I y] 3 true) :: pcC (n + 3) (.cells [I e, I a] 27 true) :: pcC (n + 4) (.cells [St l] 9 true) :: pcC (n + 5) (.cells [I m] 3 true) :: pcC (n + 6) (.cells [.fn (.func 18) [.ptr (n + 4) 0, .ptr (n + 5) 0]] 58 true) :: pcC (n + 7) .dfr :: pcC (n + 8) lo :: WI zz ks :: E
/-- What reading at an offset gives. -/
def Rd (l : List UInt8) (x m : Int) (q : List UInt8) (z e a : Int) : Prop :=
  ∃ t g, CO Tryz.prog g ∧ ACalls Tryz.prog 19 [St l, I x] [] (fun r _ => r = .ifc t eA ∧ r.sc 0 = true) ∧
    (∀ v w, (method (Tryz.prog.types.size + Made.depth) t v "cheesepress/decoder.read").run Tryz.prog w = .ok (g, v) w) ∧
    ACalls Tryz.prog g [eA, St l, I x, I m] [] (fun r _ => r = .tup [St q, I z, .agg [I e, I a]] ∧ r.sc 0 = true)
instance (x : Int) : BD Tryz.prog 51 [(0, I x)] (.agg [I x, I 0, St [], I 0, I 0]) := ⟨by kernel_rfl⟩
theorem read18_any (h : Hp) (n : Nat) (l out : List UInt8) (zz : AV) (ks : List Int) (y e a m : Int) (lo : AObj) (E : List Pc) (Y : Hp) (S0 : Sep h Y (LD n l out zz ks y e a m lo E)) (x : Int) (q : List UInt8) (z e' a' : Int) (hr : Rd l x m q z e' a') (hm0 : 0 ≤ m) (hm1 : m ≤ 1048576) (hq : (q.length : Int) ≤ 1048576) :
    ACalls Tryz.prog 18 [I x, .ptr (n + 4) 0, .ptr (n + 5) 0] Y (fun r h' => r = .agg [I x, I z, St q, I e', I a'] ∧ Sep h h' (LD n l out zz ks y e a (m - q.length) lo E)) := by
  obtain ⟨t, g, hg, cw, row, cr⟩ := hr
  refine acalls_of_wk hm Tryz.func18 rfl ?_
  simp only [Tryz.ntmps18, List.length_cons, List.length_nil, Nat.reduceAdd, Nat.reduceSub, List.reduceReplicate, List.cons_append, List.nil_append]
  show wk _ _ none _ _ ⟨_, []⟩ _
  with_reducible refine s_seq ?_
  with_reducible refine s_reg ?_
  refine salloc ?_
  simp only [pu', p0', c1', c0', i1', n0', n3', n1', n2', a2', a1', a0', n4', Nat.reduceAdd, z0', n5', sa0, sa1, sa2, sa3, sa4, sa5, sa6, sa7, sa8, sa9, sa10, sa11]
  with_reducible refine s_end ?_
  with_reducible refine s_then ?_
  with_reducible refine s_seq ?_
  with_reducible refine s_reg ?_
  refine smove ?_
  simp only [pu', p0', c1', c0', i1', z0', b8_nat]
  refine sbuild ?_
  simp only [pu', p0', c1', c0', i1', z0', b8_nat]
  refine salloc ?_
  simp only [pu', p0', c1', c0', i1', n0', n3', n1', n2', a2', a1', a0', n4', Nat.reduceAdd, z0', n5', sa0, sa1, sa2, sa3, sa4, sa5, sa6, sa7, sa8, sa9, sa10, sa11]
  refine sstoreF ?_
  simp only [pu', p0', c1', c0', i1', n0', n3', n1', n2', a2', a1', a0', n4', Nat.reduceAdd, z0', n5', sa0, sa1, sa2, sa3, sa4, sa5, sa6, sa7, sa8, sa9, sa10, sa11]
  with_reducible refine s_end ?_
  with_reducible refine s_then ?_
  with_reducible refine s_seq ?_
  (refine s_regT (id := 2) (.light 0 (.light 1 (.light 3 (.light 4 (.light 5 (.alt 2 [0, 1] (.alt 6 [0, 1, 3, 4, 5] (.light 7 (.light 8 (.light 9 (.light 10 (.light 11 (.alt 12 [0, 1, 3, 4, 5, 7, 8, 11] (.light 13 (.alt 14 [0, 1, 3, 4, 5, 7, 8, 9, 11, 13] (.light 15 (.alt 16 [0, 1, 3, 4, 5, 7, 8, 9, 10, 11, 13, 15] (.done) (.no))) (.no))) (.no))))))) (.no)) (.no))))))) [2, 6, 12, 14, 16] (by kernel_rfl) (by conv => lhs; simp only [pickT, List.getElem?_cons_succ, List.getElem?_cons_zero]) ?_)
  refine tload1 ?_
  simp only [pu', p0', c1', c0', i1', z0', b8_nat]
  refine tmove ?_
  simp only [pu', p0', c1', c0', i1', z0', b8_nat]
  refine tload1 ?_
  simp only [pu', p0', c1', c0', i1', z0', b8_nat]
  refine tmove ?_
  simp only [pu', p0', c1', c0', i1', z0', b8_nat]
  refine tload1 ?_
  simp only [pu', p0', c1', c0', i1', z0', b8_nat]
  refine uK (hx := rfl) (cw) ?_
  simp only [pu', p0', c1', c0', i1', z0', b8_nat]
  refine uInv row (ACalls.any (N := fun r => r = .tup [St q, I z, .agg [I e', I a']]) (by rfl) cr _ ?_)
  rintro _ rfl _
  refine ⟨stayG_same _, ?_⟩
  simp only [Fr.put, List.set_cons_succ, List.set_cons_zero, Int.toNat_natCast, Nat.zero_add]
  refine tmove ?_
  simp only [pu', p0', c1', c0', i1', z0', b8_nat]
  refine text ?_
  simp only [pu', p0', c1', c0', i1', z0', b8_nat]
  refine text ?_
  simp only [pu', p0', c1', c0', i1', z0', b8_nat]
  refine text ?_
  simp only [pu', p0', c1', c0', i1', z0', b8_nat]
  refine tfad ?_
  simp only [pu', p0', c1', c0', i1', z0', b8_nat]
  refine ustore1 ?_
  simp only [pu', p0', c1', c0', i1', n0', n3', n1', n2', a2', a1', a0', n4', Nat.reduceAdd, z0', n5', sa0, sa1, sa2, sa3, sa4, sa5, sa6, sa7, sa8, sa9, sa10, sa11]
  refine tfad ?_
  simp only [pu', p0', c1', c0', i1', z0', b8_nat]
  refine ustore1 ?_
  simp only [pu', p0', c1', c0', i1', n0', n3', n1', n2', a2', a1', a0', n4', Nat.reduceAdd, z0', n5', sa0, sa1, sa2, sa3, sa4, sa5, sa6, sa7, sa8, sa9, sa10, sa11]
  refine tfad ?_
  simp only [pu', p0', c1', c0', i1', z0', b8_nat]
  refine ustoreA ?_
  simp only [pu', p0', c1', c0', i1', n0', n3', n1', n2', a2', a1', a0', n4', Nat.reduceAdd, z0', n5', sa0, sa1, sa2, sa3, sa4, sa5, sa6, sa7, sa8, sa9, sa10, sa11]
  with_reducible refine t_end ?_
  with_reducible refine s_then ?_
  with_reducible refine s_seq ?_
  with_reducible refine s_reg ?_
  refine sload1 ?_
  simp only [pu', p0', c1', c0', i1', z0', b8_nat]
  refine sfad ?_
  simp only [pu', p0', c1', c0', i1', z0', b8_nat]
  refine sload1 ?_
  simp only [pu', p0', c1', c0', i1', z0', b8_nat]
  refine slenS ?_
  simp only [pu', p0', c1', c0', i1', z0', b8_nat]
  refine ssub ?_
  simp only [pu', p0', c1', c0', i1', z0', b8_nat]
  refine sstore1 ?_
  simp only [pu', p0', c1', c0', i1', n0', n3', n1', n2', a2', a1', a0', n4', Nat.reduceAdd, z0', n5', sa0, sa1, sa2, sa3, sa4, sa5, sa6, sa7, sa8, sa9, sa10, sa11]
  with_reducible refine s_end ?_
  with_reducible refine s_then ?_
  with_reducible refine s_seq ?_
  with_reducible refine s_reg ?_
  refine sloadW ?_
  simp only [pu', p0', c1', c0', i1', z0', b8_nat]
  refine sstoreF ?_
  simp only [pu', p0', c1', c0', i1', n0', n3', n1', n2', a2', a1', a0', n4', Nat.reduceAdd, z0', n5', sa0, sa1, sa2, sa3, sa4, sa5, sa6, sa7, sa8, sa9, sa10, sa11]
  with_reducible refine s_end ?_
  with_reducible refine s_then ?_
  with_reducible refine s_ret ?_
  all_goals try with_reducible refine w_n ?_
  all_goals refine w_1 rfl (by first | exact v_t (by rfl) | exact v_c1 (C1.p) (by rfl) (HA.p) (by rfl) | exact v_cF (CA.p) (by rfl) (HA.p) (by rfl)) ?_
  all_goals exact ⟨rfl, Sep.sub inferInstance (by repeat' first | exact List.Sublist.refl _ | exact List.sublist_append_left _ _ | exact List.nil_sublist _ | refine List.Sublist.cons_cons _ ?_ | refine List.Sublist.cons _ ?_ | refine List.Sublist.trans ?_ (List.sublist_append_left _ _))⟩
theorem frames_mk (h : Hp) (l : List UInt8) (m : Int) : ACalls Tryz.prog 17 [St l, I m] h (fun r h' => r = .fn (.func 20) [.ptr h.length 0, .ptr (h.length + 2) 0] ∧ h' = h ++ [.cells [St l] 9 true, .cells [I m] 3 true, .cells [.fn (.func 18) [.ptr h.length 0, .ptr (h.length + 1) 0]] 58 true]) := by
  refine acalls_of_wk hm Tryz.func17 rfl ?_
  simp only [Tryz.ntmps17, List.length_cons, List.length_nil, Nat.reduceAdd, Nat.reduceSub, List.reduceReplicate, List.cons_append, List.nil_append]
  show wk _ _ none _ _ ⟨_, []⟩ _
  with_reducible refine s_seq ?_
  with_reducible refine s_reg ?_
  refine sbox1 ?_
  simp only [pu', p0', c1', c0', i1', n0', n3', n1', n2', a2', a1', a0', n4', Nat.reduceAdd, z0', n5', sa0, sa1, sa2, sa3, sa4, sa5, sa6, sa7, sa8, sa9, sa10, sa11]
  refine sassign ?_
  simp only [pu', p0', c1', c0', i1', z0', b8_nat]
  with_reducible refine s_end ?_
  with_reducible refine s_then ?_
  with_reducible refine s_seq ?_
  with_reducible refine s_reg ?_
  refine smove ?_
  simp only [pu', p0', c1', c0', i1', z0', b8_nat]
  refine salloc ?_
  simp only [pu', p0', c1', c0', i1', n0', n3', n1', n2', a2', a1', a0', n4', Nat.reduceAdd, z0', n5', sa0, sa1, sa2, sa3, sa4, sa5, sa6, sa7, sa8, sa9, sa10, sa11]
  refine sstore1 ?_
  simp only [pu', p0', c1', c0', i1', n0', n3', n1', n2', a2', a1', a0', n4', Nat.reduceAdd, z0', n5', sa0, sa1, sa2, sa3, sa4, sa5, sa6, sa7, sa8, sa9, sa10, sa11]
  with_reducible refine s_end ?_
  with_reducible refine s_then ?_
  with_reducible refine s_seq ?_
  with_reducible refine s_reg ?_
  refine sfunc2 ?_
  simp only [pu', p0', c1', c0', i1', z0', b8_nat]
  refine salloc ?_
  simp only [pu', p0', c1', c0', i1', n0', n3', n1', n2', a2', a1', a0', n4', Nat.reduceAdd, z0', n5', sa0, sa1, sa2, sa3, sa4, sa5, sa6, sa7, sa8, sa9, sa10, sa11]
  refine sstore1 ?_
  simp only [pu', p0', c1', c0', i1', n0', n3', n1', n2', a2', a1', a0', n4', Nat.reduceAdd, z0', n5', sa0, sa1, sa2, sa3, sa4, sa5, sa6, sa7, sa8, sa9, sa10, sa11]
  with_reducible refine s_end ?_
  with_reducible refine s_then ?_
  with_reducible refine s_seq ?_
  with_reducible refine s_reg ?_
  refine sfunc2 ?_
  simp only [pu', p0', c1', c0', i1', z0', b8_nat]
  refine sassign ?_
  simp only [pu', p0', c1', c0', i1', z0', b8_nat]
  with_reducible refine s_end ?_
  with_reducible refine s_then ?_
  with_reducible refine s_ret ?_
  all_goals try with_reducible refine w_n ?_
  all_goals refine w_1 rfl (by first | exact v_t (by rfl) | exact v_c1 (C1.p) (by rfl) (HA.p) (by rfl) | exact v_cF (CA.p) (by rfl) (HA.p) (by rfl)) ?_
  all_goals exact ⟨rfl, rfl⟩
/-! ### Frames one behind the other -/
inductive Runs (l : List UInt8) : Int → Int → List UInt8 → Int → Int → Prop
  | done {x m : Int} (h : ¬ x < l.length) : Runs l x m [] 0 0
  | step {x m z e a : Int} {q r : List UInt8} (h : x < l.length) (hr : Rd l x m q z 0 0) (h1 : x < z) (h2 : z ≤ l.length) (hq : (q.length : Int) ≤ m) (n : Runs l z (m - q.length) r e a) : Runs l x m (q ++ r) e a
  | bad {x m z e a : Int} (h : x < l.length) (hr : Rd l x m [] z e a) (he : e ≠ 0) : Runs l x m [] e a
structure FS where
  i : Int
  x : Int
  m : Int
  y : Int
  o : List UInt8
  r : List UInt8
  zz : AV
  ks : List Int
  G : Hp
theorem frames_any (h : Hp) (n : Nat) (l res : List UInt8) (m0 e a : Int) (lo lf : AObj) (G0 : Hp) (hl : (l.length : Int) ≤ 1048576) (hm0 : 0 ≤ m0) (hm1 : m0 ≤ 1048576) (hr0 : Runs l 0 m0 res e a)
    (S0 : Sep h G0 (LD n l [] nilS [] 0 0 0 m0 lo []))
    (hy1 : ∀ (out : List UInt8) (zz : AV) (ks : List Int) (y m : Int) (X : Hp) (E : List Pc) (i x z : Int) (q : List UInt8), (ks.length : Int) ≤ 1048576 → (out.length : Int) + q.length ≤ 1048576 → Sep h X (LD n l out zz ks y 0 0 m lo E) → AYld Tryz.prog (n + 8) [I i, .agg [I x, I z, St q, I 0, I 0]] X (fun r h' => r = B true ∧ ∃ zz', Sep h h' (LD n l (out ++ q) zz' (ks ++ [x]) z 0 0 m lo E)))
    (hy2 : ∀ (out : List UInt8) (zz : AV) (ks : List Int) (y m : Int) (X : Hp) (E : List Pc) (i x z : Int) (q : List UInt8) (e a : Int), e ≠ 0 → Sep h X (LD n l out zz ks y 0 0 m lo E) → AYld Tryz.prog (n + 8) [I i, .agg [I x, I z, St q, I e, I a]] X (fun r h' => r = B false ∧ Sep h h' (LD n l out zz ks x e a m lf []))) :
    ACalls Tryz.prog 20 [.yld (n + 8), .ptr (n + 4) 0, .ptr (n + 6) 0] G0 (fun _ h' => (e = 0 ∧ a = 0 ∧ ∃ zz ks y m, Sep h h' (LD n l res zz ks y 0 0 m lo [])) ∨ (e ≠ 0 ∧ ∃ out zz ks y m, Sep h h' (LD n l out zz ks y e a m lf []))) := by
  refine acalls_of_wk hm Tryz.func20 rfl ?_
  simp only [Tryz.ntmps20, List.length_cons, List.length_nil, Nat.reduceAdd, Nat.reduceSub, List.reduceReplicate, List.cons_append, List.nil_append]
  show wk _ _ none _ _ ⟨_, []⟩ _
  with_reducible refine s_seq ?_
  with_reducible refine s_reg ?_
  refine sassign ?_
  simp only [pu', p0', c1', c0', i1', z0', b8_nat]
  refine sassign ?_
  simp only [pu', p0', c1', c0', i1', z0', b8_nat]
  with_reducible refine s_end ?_
  with_reducible refine s_then ?_
  with_reducible refine s_block ?_
  refine s_loop hm (fun (b : FS) s' => [.yld (n + 8), .ptr (n + 4) 0, .ptr (n + 6) 0, s' 3, I b.i, I b.x, s' 6, s' 7, s' 8, s' 9, s' 10, s' 11, s' 12, s' 13, s' 14, s' 15, s' 16, s' 17, s' 18, s' 19, s' 20, s' 21, s' 22, s' 23, s' 24, s' 25, s' 26, s' 27, s' 28]) (fun b => b.G) (fun b => 0 ≤ b.x ∧ 0 ≤ b.m ∧ b.m ≤ 1048576 ∧ 0 ≤ b.i ∧ b.i ≤ b.x ∧ (b.ks.length : Int) ≤ b.x ∧ b.x ≤ l.length ∧ Runs l b.x b.m b.r e a ∧ b.o ++ b.r = res ∧ (b.o.length : Int) + b.m ≤ 1048576 ∧ Sep h b.G (LD n l b.o b.zz b.ks b.y 0 0 b.m lo [])) (fun b => (l.length - b.x).toNat) ⟨0, 0, m0, 0, [], res, nilS, [], G0⟩ (by rfl) rfl ⟨by simp, hm0, hm1, by simp, by simp, by simp, by simp, hr0, rfl, by simpa using hm1, S0⟩ ?_
  rintro ⟨i, x, m, y, o, r, zz, ks, G⟩ s' ⟨g0, g1, g2, gi, gj, g3, g4, g5, g6, g7, S⟩
  simp only [] at g0 g1 g2 gi gj g3 g4 g5 g6 g7 S ⊢
  cases g5 with
  | done hx =>
    rw [List.append_nil] at g6
    subst g6
    with_reducible refine s_seq ?_
    with_reducible refine s_seq ?_
    with_reducible refine s_reg ?_
    refine smove ?_
    simp only [pu', p0', c1', c0', i1', z0', b8_nat]
    refine sload1 ?_
    simp only [pu', p0', c1', c0', i1', z0', b8_nat]
    refine slenS ?_
    simp only [pu', p0', c1', c0', i1', z0', b8_nat]
    refine sLt (fun hb => ?_) (fun hb => ?_)
    replace hb := dT' hb
    (exfalso; omega)
    replace hb := dF' hb
    simp only [pu', p0', c1', c0', i1', z0', b8_nat]
    with_reducible refine s_end ?_
    with_reducible refine s_then ?_
    refine sCF ?_
    with_reducible refine s_exit ?_
    with_reducible refine s_thenE ?_
    with_reducible refine l_exit ?_
    with_reducible refine s_blkE ?_
    all_goals try with_reducible refine w_n ?_
    all_goals refine w_0 rfl  ?_
    exact .inl ⟨by simp, by simp, _, _, _, _, S⟩
  | @step _ _ z _ _ q r' hx hr h1 h2 hq nn =>
    have c1 := read18_any h n l o zz ks y 0 0 m lo [] G S x q z 0 0 hr g1 g2 (by omega)
    focus
      with_reducible refine s_seq ?_
      with_reducible refine s_seq ?_
      with_reducible refine s_reg ?_
      refine smove ?_
      simp only [pu', p0', c1', c0', i1', z0', b8_nat]
      refine sload1 ?_
      simp only [pu', p0', c1', c0', i1', z0', b8_nat]
      refine slenS ?_
      simp only [pu', p0', c1', c0', i1', z0', b8_nat]
      refine sLt (fun hb => ?_) (fun hb => ?_)
      replace hb := dT' hb
      simp only [pu', p0', c1', c0', i1', z0', b8_nat]
      with_reducible refine s_end ?_
      with_reducible refine s_then ?_
      refine sCT ?_
      with_reducible refine s_skip ?_
      with_reducible refine s_then ?_
      with_reducible refine s_seq ?_
      with_reducible refine s_block ?_
      with_reducible refine s_seq ?_
      with_reducible refine s_reg ?_
      refine sload1 ?_
      simp only [pu', p0', c1', c0', i1', z0', b8_nat]
      refine smove ?_
      simp only [pu', p0', c1', c0', i1', z0', b8_nat]
      refine sC (hx := rfl) ((c1).mono ?_)
      rintro _ m18 _ ⟨rfl, S1⟩
      simp only [pu', p0', c1', c0', i1', n0', n3', n1', n2', a2', a1', a0', n4', Nat.reduceAdd, z0', n5', sa0, sa1, sa2, sa3, sa4, sa5, sa6, sa7, sa8, sa9, sa10, sa11]
      refine salloc ?_
      simp only [pu', p0', c1', c0', i1', n0', n3', n1', n2', a2', a1', a0', n4', Nat.reduceAdd, z0', n5', sa0, sa1, sa2, sa3, sa4, sa5, sa6, sa7, sa8, sa9, sa10, sa11]
      refine sstoreF ?_
      simp only [pu', p0', c1', c0', i1', n0', n3', n1', n2', a2', a1', a0', n4', Nat.reduceAdd, z0', n5', sa0, sa1, sa2, sa3, sa4, sa5, sa6, sa7, sa8, sa9, sa10, sa11]
      with_reducible refine s_end ?_
      with_reducible refine s_then ?_
      with_reducible refine s_seq ?_
      with_reducible refine s_seq ?_
      with_reducible refine s_reg ?_
      refine smove ?_
      simp only [pu', p0', c1', c0', i1', z0', b8_nat]
      refine smove ?_
      simp only [pu', p0', c1', c0', i1', z0', b8_nat]
      refine sloadW ?_
      simp only [pu', p0', c1', c0', i1', z0', b8_nat]
      rotate_left 1
      replace hb := dF' hb
      exact absurd (by with_reducible assumption) hb
    refine sY (hx := rfl) ((hy1 o zz ks y (m - q.length) _ [pcC _ _] i x z q (by omega) (by omega) (S1.push _)).mono ?_)
    rintro _ X _ ⟨rfl, zz', S2⟩
    simp only [Fr.put, List.set_cons_succ, List.set_cons_zero, Int.toNat_natCast, Nat.zero_add]
    refine snotT ?_
    simp only [pu', p0', c1', c0', i1', z0', b8_nat]
    refine smove ?_
    simp only [pu', p0', c1', c0', i1', z0', b8_nat]
    refine sfad ?_
    simp only [pu', p0', c1', c0', i1', z0', b8_nat]
    refine sfad ?_
    simp only [pu', p0', c1', c0', i1', z0', b8_nat]
    refine sload1 ?_
    simp only [pu', p0', c1', c0', i1', z0', b8_nat]
    refine sNe (fun hb => ?_) (fun hb => ?_)
    replace hb := dT' hb
    (exfalso; omega)
    replace hb := dF' hb
    simp only [pu', p0', c1', c0', i1', z0', b8_nat]
    refine spickF ?_
    simp only [pu', p0', c1', c0', i1', z0', b8_nat]
    with_reducible refine s_end ?_
    with_reducible refine s_then ?_
    refine sCF ?_
    with_reducible refine s_skip ?_
    with_reducible refine s_then ?_
    with_reducible refine s_reg ?_
    refine sfad ?_
    simp only [pu', p0', c1', c0', i1', z0', b8_nat]
    refine sload1 ?_
    simp only [pu', p0', c1', c0', i1', z0', b8_nat]
    refine sassign ?_
    simp only [pu', p0', c1', c0', i1', z0', b8_nat]
    with_reducible refine s_end ?_
    with_reducible refine s_blkN ?_
    with_reducible refine s_then ?_
    with_reducible refine s_reg ?_
    refine smove ?_
    simp only [pu', p0', c1', c0', i1', z0', b8_nat]
    refine sadd ?_
    simp only [pu', p0', c1', c0', i1', z0', b8_nat]
    refine sassign ?_
    simp only [pu', p0', c1', c0', i1', z0', b8_nat]
    with_reducible refine s_end ?_
    refine l_next ⟨i + 1, z, m - q.length, z, o ++ q, r', zz', ks ++ [x], X⟩ ⟨by simp only []; omega, by simp only []; omega, by simp only []; omega, by simp only []; omega, by simp only []; omega, by simp only [List.length_append, List.length_singleton]; omega, by simp only []; omega, nn, by rw [← g6, List.append_assoc], by simp only [List.length_append]; omega, Sep.sub S2 (by repeat' first | exact List.Sublist.refl _ | exact List.sublist_append_left _ _ | exact List.nil_sublist _ | refine List.Sublist.cons_cons _ ?_ | refine List.Sublist.cons _ ?_ | refine List.Sublist.trans ?_ (List.sublist_append_left _ _))⟩ (by simp only []; omega) (by rfl) rfl
  | @bad _ _ z _ _ hx hr he =>
    have c1 := read18_any h n l o zz ks y 0 0 m lo [] G S x [] z e a hr g1 g2 (by simp)
    focus
      with_reducible refine s_seq ?_
      with_reducible refine s_seq ?_
      with_reducible refine s_reg ?_
      refine smove ?_
      simp only [pu', p0', c1', c0', i1', z0', b8_nat]
      refine sload1 ?_
      simp only [pu', p0', c1', c0', i1', z0', b8_nat]
      refine slenS ?_
      simp only [pu', p0', c1', c0', i1', z0', b8_nat]
      refine sLt (fun hb => ?_) (fun hb => ?_)
      replace hb := dT' hb
      simp only [pu', p0', c1', c0', i1', z0', b8_nat]
      with_reducible refine s_end ?_
      with_reducible refine s_then ?_
      refine sCT ?_
      with_reducible refine s_skip ?_
      with_reducible refine s_then ?_
      with_reducible refine s_seq ?_
      with_reducible refine s_block ?_
      with_reducible refine s_seq ?_
      with_reducible refine s_reg ?_
      refine sload1 ?_
      simp only [pu', p0', c1', c0', i1', z0', b8_nat]
      refine smove ?_
      simp only [pu', p0', c1', c0', i1', z0', b8_nat]
      refine sC (hx := rfl) ((c1).mono ?_)
      rintro _ m18 _ ⟨rfl, S1⟩
      simp only [pu', p0', c1', c0', i1', n0', n3', n1', n2', a2', a1', a0', n4', Nat.reduceAdd, z0', n5', sa0, sa1, sa2, sa3, sa4, sa5, sa6, sa7, sa8, sa9, sa10, sa11]
      refine salloc ?_
      simp only [pu', p0', c1', c0', i1', n0', n3', n1', n2', a2', a1', a0', n4', Nat.reduceAdd, z0', n5', sa0, sa1, sa2, sa3, sa4, sa5, sa6, sa7, sa8, sa9, sa10, sa11]
      refine sstoreF ?_
      simp only [pu', p0', c1', c0', i1', n0', n3', n1', n2', a2', a1', a0', n4', Nat.reduceAdd, z0', n5', sa0, sa1, sa2, sa3, sa4, sa5, sa6, sa7, sa8, sa9, sa10, sa11]
      with_reducible refine s_end ?_
      with_reducible refine s_then ?_
      with_reducible refine s_seq ?_
      with_reducible refine s_seq ?_
      with_reducible refine s_reg ?_
      refine smove ?_
      simp only [pu', p0', c1', c0', i1', z0', b8_nat]
      refine smove ?_
      simp only [pu', p0', c1', c0', i1', z0', b8_nat]
      refine sloadW ?_
      simp only [pu', p0', c1', c0', i1', z0', b8_nat]
      rotate_left 1
      replace hb := dF' hb
      exact absurd (by with_reducible assumption) hb
    refine sY (hx := rfl) ((hy2 o zz ks y (m - ([] : List UInt8).length) _ [pcC _ _] i x z [] e a he (S1.push _)).mono ?_)
    rintro _ X _ ⟨rfl, S2⟩
    simp only [Fr.put, List.set_cons_succ, List.set_cons_zero, Int.toNat_natCast, Nat.zero_add]
    refine snotF ?_
    simp only [pu', p0', c1', c0', i1', z0', b8_nat]
    refine smove ?_
    simp only [pu', p0', c1', c0', i1', z0', b8_nat]
    (with_reducible refine s_gN ?_ ?_; exact wG rfl rfl rfl rfl rfl)
    simp only [pu', p0', c1', c0', i1', z0', b8_nat]
    (with_reducible refine s_gN ?_ ?_; exact wG rfl rfl rfl rfl rfl)
    simp only [pu', p0', c1', c0', i1', z0', b8_nat]
    (with_reducible refine s_gN ?_ ?_; exact wG rfl rfl rfl rfl rfl)
    simp only [pu', p0', c1', c0', i1', z0', b8_nat]
    (with_reducible refine s_gN ?_ ?_; exact wG rfl rfl rfl rfl rfl)
    simp only [pu', p0', c1', c0', i1', z0', b8_nat]
    refine spickT ?_
    simp only [pu', p0', c1', c0', i1', z0', b8_nat]
    with_reducible refine s_end ?_
    with_reducible refine s_then ?_
    refine sCT ?_
    with_reducible refine s_ret ?_
    with_reducible refine s_thenR ?_
    with_reducible refine s_blkR ?_
    with_reducible refine s_thenR ?_
    with_reducible refine l_ret ?_
    with_reducible refine s_blkR ?_
    all_goals try with_reducible refine w_n ?_
    all_goals refine w_0 rfl  ?_
    exact .inr ⟨he, _, _, _, _, _, S2⟩
end Go.Proofs.YtgjbmhclgmpjdaaGreat
