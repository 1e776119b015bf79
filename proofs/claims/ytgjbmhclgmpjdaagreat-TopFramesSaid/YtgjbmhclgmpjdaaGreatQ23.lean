/-
  A part of the proof of a statement of a chapter's seat; conditions: stated at each theorem.
-/
import Derived.Test.YtgjbmhclgmpjdaaGreatQ22
set_option linter.unusedVariables false
set_option linter.unusedSectionVars false
set_option linter.unusedSimpArgs false
set_option linter.unusedVariables false
set_option maxRecDepth 100000
set_option maxHeartbeats 8000000
namespace Go.Proofs.YtgjbmhclgmpjdaaGreat
open Go.Az Go
/-! ### Room is made -/
theorem x_mk0 {P : Program} {t e : TypeId} {zs : List AV} {by' : Nat} {f : Fr} {h : Hp} {a b : Operand} {n : Int} {k k' : IntKind} {α : Type} {enc : α → List AV} (d : α) (hu : mkOf P t = some (e, zs, by')) (hd : zs = enc d) (ha : ev f a = .v (.int k 0)) (hb : ev f b = .v (.int k' n)) (h0 : 0 ≤ n) (h1 : n ≤ 1000000) (h2 : by' ≤ 1000) :
    exH P f h (.makeSlice t a b) = some (.sl h.length 0 0 n.toNat false, h ++ [.cells ((List.replicate n.toNat d).flatMap enc) e true]) := by
  simp only [mkOf] at hu
  cases hx : P.underlying t with
  | none => simp only [hx] at hu; cases hu
  | some dsc =>
    simp only [hx] at hu
    cases dsc with
    | slice e0 =>
      simp only [] at hu
      cases ht : tab P e0 with
      | none => simp only [ht] at hu; cases hu
      | some x =>
        simp only [ht] at hu
        split at hu
        · rename_i hc
          simp only [Bool.and_eq_true, Nat.blt_eq, Nat.beq_eq] at hc
          injection hu with hu
          injection hu with he hu
          injection hu with hz hb'
          subst he hb'
          simp only [exH, ha, hb, msl, hx, intOf?, ht]
          have hbn : (x.bytes : Int) * n ≤ 281474976710656 := by
            have : (x.bytes : Int) * n ≤ 1000 * 1000000 := Int.mul_le_mul (by omega) (by omega) h0 (by omega)
            omega
          rw [if_pos ⟨Int.le_refl _, h0, by omega, hbn, hc.1⟩, zrow_flat x d (hz.trans hd) hc.1 hc.2]
          rfl
        · cases hu
    | _ => simp only [] at hu; cases hu
section
variable {P : Program} {ops : Array Oper} {dd : Option Tmp} {ty : TypeId} {pos : String} {aft : Array Edge} {gd : Option (Nat × Bool)} {rest : List Oper} {N : Fr → Hp → Prop} {fl : List AV} {ds : List Dq} {h0 Y : Hp} {L : List Pc} {α : Type} {q : Nat} {e : TypeId} {t : TypeId} {a b : Operand} {n : Int} {zs : List AV} {by' : Nat} {k k' : IntKind}
theorem sep_made0 (S : Sep h0 Y L) (enc : α → List AV) (hE : EncOk enc q) (d : α) (n : Nat) : Sep h0 (Y ++ [.cells ((List.replicate n d).flatMap enc) e true]) (L ++ [pcW enc q e (.sl Y.length 0 0 n false) []]) := by
  refine S.join ⟨ext_app _ _, ?_, ?_, by simp⟩
  · intro p hp
    rw [List.mem_singleton.1 hp]
    refine .inr ⟨Y.length, 0, n, false, (List.replicate n d).flatMap enc, rfl, by simp, by simp, by simp, (fun h => by cases h), fun _ => ⟨by simp, ?_⟩⟩
    rw [flat_len hE]; simp
  · intro p hp i hi
    rw [List.mem_singleton.1 hp] at hi
    injection hi with hi; omega
theorem s_mk0 (enc : α → List AV) (d : α) (hk : ∀ z Y', SlC z → Sep h0 Y' (L ++ [pcW enc q e z []]) → wkO P ops rest N (Fr.put ⟨fl, ds⟩ dd z) Y') (S : Sep h0 Y L) (hE : EncOk enc q) (hu : CM P t e zs by') (hd : zs = enc d) (h0' : 0 ≤ n) (h1 : n ≤ 1000000) (h2 : by' ≤ 1000)
    (hw : wantA ops ⟨fl, ds⟩ ⟨dd, .makeSlice t a b, ty, pos, aft, gd⟩ = true := by rfl) (ha : evS fl a = some (.v (.int k 0)) := by rfl) (hb : evS fl b = some (.v (.int k' n)) := by rfl) : wkO P ops (⟨dd, .makeSlice t a b, ty, pos, aft, gd⟩ :: rest) N ⟨fl, ds⟩ Y :=
  s_gH hw (x_mk0 d hu.p hd (e_any ha) (e_any hb) h0' h1 h2) (hk _ _ inferInstance (sep_made0 S enc hE d _))
end
theorem bok : EncOk (encI .u8) 1 := encI_ok .u8
theorem unB_flat : ∀ l : List Int, unB (l.flatMap (encI .u8)) = some (l.map fun x => UInt8.ofNat x.toNat)
  | [] => rfl
  | x :: l => by
    have := unB_flat l
    rw [List.flatMap_cons]
    show unB (.v (.int .u8 x) :: l.flatMap (encI .u8)) = _
    rw [unB, this]; rfl
theorem x_str {f : Fr} {h : Hp} {a : Operand} {s : AV} {l : List Int} (hS : Elts (encI .u8) 1 h s l) (ha : ev f a = s) : exL Tryz.prog f h (.convert 46 9 a) = some (St (l.map fun x => UInt8.ofNat x.toNat)) := by
  have h1 := (sliOf_spec sl_46).1
  have h2 := strTy_spec st_9
  rcases hS with ⟨rfl, rfl⟩ | ⟨i, o, c, u, cs, t, ow, rfl, h3, h4, h5⟩
  · simp [exL, ha, cnv, h1, h2, u_5]
  · rw [Nat.mul_one] at h4 h5
    simp [exL, ha, cnv, h1, h2, u_5, h3, h4, h5, unB_flat]
instance : CM Tryz.prog 46 5 [.v (.int .u8 0)] 1 := ⟨by kernel_rfl⟩
instance (x : Int) : BS Tryz.prog 46 1 [(0, .v (.int .u8 x))] 5 [.v (.int .u8 x)] := ⟨by kernel_rfl⟩
theorem own_slc {α : Type} {enc : α → List AV} {q : Nat} {e : TypeId} {h : Hp} {s : AV} {l : List α} (ho : Own enc q e h s l) : SlC s := ⟨by
  rcases ho with ⟨rfl, _⟩ | ⟨i, o, c, u, cs, rfl, _⟩
  · exact .inl rfl
  · exact .inr ⟨_, _, _, _, _, rfl⟩⟩
structure NS where
  i : Nat
  z : AV
  k : Int
  l : List Int
  G : Hp
theorem noise_any (k n mm : Int) (n0 : 0 ≤ n) (n1 : n ≤ 60) (hmm : 1 ≤ mm) (hm2 : mm ≤ 256) : ACalls Tryz.prog 11 [I k, I n, I mm] [] (fun r _ => (∃ t : List UInt8, r = St t ∧ t.length ≤ 60) ∧ r.sc 0 = true) := by
  have S0 : Sep [] [] [] := Sep.nil []
  have q0 := Int.emod_nonneg k (show (65537 : Int) ≠ 0 by omega)
  have q1 := Int.emod_lt_of_pos k (show (0 : Int) < 65537 by omega)
  refine acalls_of_wk hm Tryz.func11 rfl ?_
  simp only [Tryz.ntmps11, List.length_cons, List.length_nil, Nat.reduceAdd, Nat.reduceSub, List.reduceReplicate, List.cons_append, List.nil_append]
  show wk _ _ none _ _ ⟨_, []⟩ _
  with_reducible refine s_seq ?_
  with_reducible refine s_reg ?_
  refine sassign ?_
  simp only [pu', p0', c1', c0', i1', z0', b8_nat]
  with_reducible refine s_end ?_
  with_reducible refine s_then ?_
  with_reducible refine s_seq ?_
  with_reducible refine s_reg ?_
  refine smove ?_
  simp only [pu', p0', c1', c0', i1', z0', b8_nat]
  refine sK (hx := rfl) (mod_any k 65537 (by omega) (by omega)) ?_
  simp only [pu', p0', c1', c0', i1', z0', b8_nat]
  refine sassign ?_
  simp only [pu', p0', c1', c0', i1', z0', b8_nat]
  with_reducible refine s_end ?_
  with_reducible refine s_then ?_
  with_reducible refine s_seq ?_
  with_reducible refine s_reg ?_
  refine smove ?_
  simp only [pu', p0', c1', c0', i1', z0', b8_nat]
  refine smin ?_
  simp only [pu', p0', c1', c0', i1', z0', b8_nat]
  refine smax ?_
  simp only [pu', p0', c1', c0', i1', z0', b8_nat]
  rw [if_neg (show ¬ ((4096 : Int) < n) by omega), show (if n > 0 then n else 0) = n by split <;> omega]
  generalize k % 65537 = k0 at *
  refine s_mk0 (encI .u8) (0 : Int) (fun z Y pz S1 => ?_) S0 bok inferInstance rfl n0 (by omega) (by omega)
  simp only [Fr.put, List.set_cons_succ, List.set_cons_zero, Int.toNat_natCast, Nat.zero_add]
  refine sassign ?_
  simp only [pu', p0', c1', c0', i1', z0', b8_nat]
  with_reducible refine s_end ?_
  with_reducible refine s_then ?_
  with_reducible refine s_seq ?_
  with_reducible refine s_seq ?_
  with_reducible refine s_reg ?_
  refine sassign ?_
  simp only [pu', p0', c1', c0', i1', z0', b8_nat]
  with_reducible refine s_end ?_
  with_reducible refine s_then ?_
  with_reducible refine s_block ?_
  refine s_loop hm (fun (b : NS) s' => [I b.k, I n, I mm, s' 3, s' 4, s' 5, s' 6, b.z, I b.i, s' 9, s' 10, s' 11, s' 12, s' 13, s' 14, s' 15, s' 16, s' 17, s' 18, s' 19, s' 20, s' 21, s' 22, s' 23, s' 24, s' 25, s' 26, s' 27, s' 28, s' 29, s' 30, s' 31, s' 32, s' 33, s' 34, s' 35, s' 36, s' 37, s' 38, s' 39]) (fun b => b.G) (fun b => (b.i : Int) ≤ n ∧ b.l.length = b.i ∧ 0 ≤ b.k ∧ b.k < 65537 ∧ SlC b.z ∧ Sep [] b.G [pcW (encI .u8) 1 5 b.z b.l]) (fun b => (n - b.i).toNat) ⟨0, z, k0, [], Y⟩ (by rfl) rfl ⟨by simp only []; omega, rfl, q0, q1, pz, S1⟩ ?_
  rintro ⟨i, z, k, l, G⟩ s' ⟨g0, g1, g2, g3, pz, S⟩
  simp only [] at g0 g1 g2 g3 pz S ⊢
  have r0 := Int.emod_nonneg (k * 75 + 74) (show (65537 : Int) ≠ 0 by omega)
  have r1 := Int.emod_lt_of_pos (k * 75 + 74) (show (0 : Int) < 65537 by omega)
  focus
    with_reducible refine s_seq ?_
    with_reducible refine s_seq ?_
    with_reducible refine s_reg ?_
    refine smove ?_
    simp only [pu', p0', c1', c0', i1', z0', b8_nat]
    refine smove ?_
    simp only [pu', p0', c1', c0', i1', z0', b8_nat]
    refine sLt (fun hb => ?_) (fun hb => ?_)
    replace hb := dT' hb
    simp only [pu', p0', c1', c0', i1', z0', b8_nat]
    refine smove ?_
    simp only [pu', p0', c1', c0', i1', z0', b8_nat]
    refine smove ?_
    simp only [pu', p0', c1', c0', i1', z0', b8_nat]
    refine sLt (fun hb => ?_) (fun hb => ?_)
    replace hb := dT' hb
    simp only [pu', p0', c1', c0', i1', z0', b8_nat]
    refine spickT ?_
    simp only [pu', p0', c1', c0', i1', z0', b8_nat]
    with_reducible refine s_end ?_
    with_reducible refine s_then ?_
    refine sCT ?_
    with_reducible refine s_skip ?_
    with_reducible refine s_then ?_
    with_reducible refine s_seq ?_
    with_reducible refine s_block ?_
    with_reducible refine s_seq ?_
    with_reducible refine s_reg ?_
    refine smove ?_
    simp only [pu', p0', c1', c0', i1', z0', b8_nat]
    refine smul ?_
    simp only [pu', p0', c1', c0', i1', z0', b8_nat]
    refine sadd ?_
    simp only [pu', p0', c1', c0', i1', z0', b8_nat]
    refine sK (hx := rfl) (mod_any _ 65537 (by omega) (by omega)) ?_
    simp only [pu', p0', c1', c0', i1', z0', b8_nat]
    refine sassign ?_
    simp only [pu', p0', c1', c0', i1', z0', b8_nat]
    with_reducible refine s_end ?_
    with_reducible refine s_then ?_
    rotate_left 1
    replace hb := dF' hb
    (exfalso; omega)
    replace hb := dF' hb
    simp only [pu', p0', c1', c0', i1', z0', b8_nat]
    refine smove ?_
    simp only [pu', p0', c1', c0', i1', z0', b8_nat]
    (with_reducible refine s_gN ?_ ?_; exact wG rfl rfl rfl rfl rfl)
    simp only [pu', p0', c1', c0', i1', z0', b8_nat]
    (with_reducible refine s_gN ?_ ?_; exact wG rfl rfl rfl rfl rfl)
    simp only [pu', p0', c1', c0', i1', z0', b8_nat]
    refine spickF ?_
    simp only [pu', p0', c1', c0', i1', z0', b8_nat]
    with_reducible refine s_end ?_
    with_reducible refine s_then ?_
    refine sCF ?_
    with_reducible refine s_exit ?_
    with_reducible refine s_thenE ?_
    with_reducible refine l_exit ?_
    with_reducible refine s_blkE ?_
    with_reducible refine s_then ?_
    with_reducible refine s_seq ?_
    with_reducible refine s_reg ?_
    refine smove ?_
    simp only [pu', p0', c1', c0', i1', z0', b8_nat]
    rotate_left 1
  · generalize (k * 75 + 74) % 65537 = k1 at *
    have r2 := Int.emod_nonneg (k1 / 7) (show mm ≠ 0 by omega)
    have r3 := Int.emod_lt_of_pos (k1 / 7) (show 0 < mm by omega)
    with_reducible refine s_reg ?_
    refine smove ?_
    simp only [pu', p0', c1', c0', i1', z0', b8_nat]
    refine smove ?_
    simp only [pu', p0', c1', c0', i1', z0', b8_nat]
    refine squo ?_
    simp only [pu', p0', c1', c0', i1', z0', b8_nat]
    refine smove ?_
    simp only [pu', p0', c1', c0', i1', z0', b8_nat]
    refine smin ?_
    simp only [pu', p0', c1', c0', i1', z0', b8_nat]
    refine smax ?_
    simp only [pu', p0', c1', c0', i1', z0', b8_nat]
    (rw [if_neg (show ¬ ((256 : Int) < mm) by omega), show (if mm > 1 then mm else 1) = mm by split <;> omega])
    refine sK (hx := rfl) (mod_any _ mm (by omega) (by omega)) ?_
    simp only [pu', p0', c1', c0', i1', z0', b8_nat]
    refine sconv ?_
    simp only [pu', p0', c1', c0', i1', z0', b8_nat]
    refine sbsl ?_
    simp only [pu', p0', c1', c0', i1', n0', n3', n1', n2', a2', a1', a0', n4', Nat.reduceAdd, z0', n5', sa0, sa1, sa2, sa3, sa4, sa5, sa6, sa7, sa8, sa9, sa10, sa11]
    (refine s_app 0 (l2 := [k1 / 7 % mm]) (fun z1 Y1 T1 x1 => ?_) inferInstance rfl bok (elts_at (l := [k1 / 7 % mm]) bok inferInstance rfl) (by simp only [List.length_cons, List.length_nil]; omega) inferInstance inferInstance; simp only [a1', c1', c0'] at T1; simp only [Fr.put, List.set_cons_succ, List.set_cons_zero, Int.toNat_natCast, Nat.zero_add])
    refine sassign ?_
    simp only [pu', p0', c1', c0', i1', z0', b8_nat]
    with_reducible refine s_end ?_
    with_reducible refine s_blkN ?_
    with_reducible refine s_then ?_
    with_reducible refine s_reg ?_
    refine smove ?_
    simp only [pu', p0', c1', c0', i1', z0', b8_nat]
    refine sadd ?_
    simp only [pu', p0', c1', c0', i1', z0', b8_nat]
    refine sassign ?_
    simp only [pu', p0', c1', c0', i1', z0', b8_nat]
    with_reducible refine s_end ?_
    refine l_next ⟨i + 1, z1, k1, l ++ [k1 / 7 % mm], Y1⟩ ⟨by simp only []; omega, by simp [g1], r0, r1, own_slc (T1.own 0 rfl), Sep.sub T1 (by repeat' first | exact List.Sublist.refl _ | exact List.sublist_append_left _ _ | exact List.nil_sublist _ | refine List.Sublist.cons_cons _ ?_ | refine List.Sublist.cons _ ?_ | refine List.Sublist.trans ?_ (List.sublist_append_left _ _))⟩ (by simp only []; omega) (by rfl) rfl
  all_goals
    refine s_gL (by rfl) (x_str (Own.elts (S.own 0 rfl)) (by exact e_any (by rfl))) ?_
    simp only [Fr.put, List.set_cons_succ, List.set_cons_zero, Int.toNat_natCast, Nat.zero_add]
    refine sassign ?_
    simp only [pu', p0', c1', c0', i1', z0', b8_nat]
    with_reducible refine s_end ?_
    with_reducible refine s_then ?_
    with_reducible refine s_ret ?_
    all_goals try with_reducible refine w_n ?_
    all_goals refine w_1 rfl (by first | exact v_t (by rfl) | exact v_c1 (C1.p) (by rfl) (HA.p) (by rfl) | exact v_cF (CA.p) (by rfl) (HA.p) (by rfl)) ?_
    exact ⟨⟨_, rfl, by rw [List.length_map]; omega⟩, rfl⟩
end Go.Proofs.YtgjbmhclgmpjdaaGreat
