/-
  What single operations yield, by the values of their operands; steps that split on a condition; steps for calls. Conditions: stated at each theorem.
-/
import Derived.Test.YthhbhekccacmlaaAzW
set_option linter.unusedSimpArgs false
set_option linter.unusedVariables false
namespace Go.Az
open Go Go.Chz

section
variable {P : Program} {f : Fr} {h : Hp} {a b c : Operand} {t t' : TypeId} {x y n : Int} {k k0 k1 : IntKind} {r : AV}

theorem e_t {l : List AV} {ds : List Nat} {i : Nat} (hl : l[i]? = some r) : ev ⟨l, ds⟩ (.tmp i) = r := by simp only [ev, List.getD_eq_getElem?_getD, hl, Option.getD_some]
theorem e_c {v : Value} : ev f (.const v) = .v v := rfl
theorem e_f {g : FuncId} : ev f (.func g) = .fn (.func g) [] := rfl
theorem x_move (ha : ev f a = r) : exL P f h (.move a) = some r := by simp only [exL, ha]
theorem x_assign (ha : ev f a = r) : exL P f h (.assign a) = some r := by simp only [exL, ha]
theorem x_pickT (hc : ev f c = .v (.bool true)) (ha : ev f a = r) : exL P f h (.pick c a b) = some r := by simp only [exL, hc, if_true, ha]
theorem x_pickF (hc : ev f c = .v (.bool false)) (hb : ev f b = r) : exL P f h (.pick c a b) = some r := by simp [exL, hc, hb]
theorem x_not {z : Bool} (ha : ev f a = .v (.bool z)) : exL P f h (.unOp .not t a) = some (.v (.bool (!z))) := by simp only [exL, ha, una]
theorem x_notT (ha : ev f a = .v (.bool true)) : exL P f h (.unOp .not t a) = some (.v (.bool false)) := by simp only [exL, ha, una, Bool.not_true]
theorem x_notF (ha : ev f a = .v (.bool false)) : exL P f h (.unOp .not t a) = some (.v (.bool true)) := by simp only [exL, ha, una, Bool.not_false]
theorem x_extract {l : List AV} {i : Nat} (ha : ev f a = .tup l) (hi : l[i]? = some r) : exL P f h (.extract a i) = some r := by simp only [exL, ha, hi]

theorem x_eq (ha : ev f a = .v (.int k x)) (hb : ev f b = .v (.int k y)) : exL P f h (.binOp .eql t a b t') = some (.v (.bool (decide (x = y)))) := by simp only [exL, ha, hb, bin, ibin, if_true]; rfl
theorem x_ne (ha : ev f a = .v (.int k x)) (hb : ev f b = .v (.int k y)) : exL P f h (.binOp .neq t a b t') = some (.v (.bool (decide (x ≠ y)))) := by simp only [exL, ha, hb, bin, ibin, if_true, bne, Option.some.injEq, AV.v.injEq, Value.bool.injEq, ne_eq, decide_not]; rfl
theorem x_lt (ha : ev f a = .v (.int k x)) (hb : ev f b = .v (.int k y)) : exL P f h (.binOp .lss t a b t') = some (.v (.bool (decide (x < y)))) := by simp only [exL, ha, hb, bin, ibin, if_true]
theorem x_le (ha : ev f a = .v (.int k x)) (hb : ev f b = .v (.int k y)) : exL P f h (.binOp .leq t a b t') = some (.v (.bool (decide (x ≤ y)))) := by simp only [exL, ha, hb, bin, ibin, if_true]
theorem x_gt (ha : ev f a = .v (.int k x)) (hb : ev f b = .v (.int k y)) : exL P f h (.binOp .gtr t a b t') = some (.v (.bool (decide (y < x)))) := by simp only [exL, ha, hb, bin, ibin, if_true, GT.gt]
theorem x_ge (ha : ev f a = .v (.int k x)) (hb : ev f b = .v (.int k y)) : exL P f h (.binOp .geq t a b t') = some (.v (.bool (decide (y ≤ x)))) := by simp only [exL, ha, hb, bin, ibin, if_true, GE.ge]

theorem x_add (ha : ev f a = .v (.int k x)) (hb : ev f b = .v (.int k y)) (hw : k.wrap (x + y) = x + y) : exL P f h (.binOp .add t a b t') = some (.v (.int k (x + y))) := by simp only [exL, ha, hb, bin, ibin, if_true, hw]
theorem x_sub (ha : ev f a = .v (.int k x)) (hb : ev f b = .v (.int k y)) (hw : k.wrap (x - y) = x - y) : exL P f h (.binOp .sub t a b t') = some (.v (.int k (x - y))) := by simp only [exL, ha, hb, bin, ibin, if_true, hw]
theorem x_mul (ha : ev f a = .v (.int k x)) (hb : ev f b = .v (.int k y)) (hw : k.wrap (x * y) = x * y) : exL P f h (.binOp .mul t a b t') = some (.v (.int k (x * y))) := by simp only [exL, ha, hb, bin, ibin, if_true, hw]
theorem x_rem (ha : ev f a = .v (.int k x)) (hb : ev f b = .v (.int k y)) (h0 : 0 ≤ x) (h1 : 0 < y) : exL P f h (.binOp .rem t a b t') = some (.v (.int k (x % y))) := by
  simp only [exL, ha, hb, bin, ibin, if_true, if_neg (Int.ne_of_gt h1), Int.tmod_eq_emod_of_nonneg h0]
theorem x_tmod (ha : ev f a = .v (.int k x)) (hb : ev f b = .v (.int k y)) (h1 : y ≠ 0) : exL P f h (.binOp .rem t a b t') = some (.v (.int k (x.tmod y))) := by
  simp only [exL, ha, hb, bin, ibin, if_true, if_neg h1]
theorem x_quo (ha : ev f a = .v (.int k x)) (hb : ev f b = .v (.int k y)) (h0 : 0 ≤ x) (h1 : 0 < y) (hw : k.wrap (x / y) = x / y) : exL P f h (.binOp .quo t a b t') = some (.v (.int k (x / y))) := by
  simp only [exL, ha, hb, bin, ibin, if_true, if_neg (Int.ne_of_gt h1), Int.tdiv_eq_ediv_of_nonneg h0, hw]
theorem x_shl {m : Nat} (ha : ev f a = .v (.int k x)) (hb : ev f b = .v (.int k1 y)) (hy : y = (m : Int)) (hm : m ≤ k.bits) (hw : k.wrap (x * 2 ^ m) = x * 2 ^ m) : exL P f h (.binOp .shl t a b t') = some (.v (.int k (x * 2 ^ m))) := by
  subst hy
  simp only [exL, ha, hb, bin, ibin, if_neg (show ¬ ((m : Int) < 0) by omega), Int.toNat_natCast, Nat.min_eq_left hm, hw]
theorem x_shr {m : Nat} (ha : ev f a = .v (.int k x)) (hb : ev f b = .v (.int k1 y)) (hy : y = (m : Int)) (hm : m ≤ k.bits) (h0 : 0 ≤ x) : exL P f h (.binOp .shr t a b t') = some (.v (.int k (x / 2 ^ m))) := by
  subst hy
  simp only [exL, ha, hb, bin, ibin, if_neg (show ¬ ((m : Int) < 0) by omega), Int.toNat_natCast, Nat.min_eq_left hm, Int.fdiv_eq_ediv_of_nonneg _ (show (0:Int) ≤ 2 ^ m from Int.le_of_lt (Int.pow_pos (by omega)))]
theorem x_conv (hs : P.underlying t = some (.int k1)) (hd : P.underlying t' = some (.int k)) (ha : ev f a = .v (.int k0 n)) (hw : k.wrap n = n) : exL P f h (.convert t t' a) = some (.v (.int k n)) := by
  simp only [exL, cnv, hs, hd, ha, hw]
theorem x_build {l : List (Nat × AV)} {parts : Array (Nat × Operand)} (hl : parts.toList.map (fun p => (p.1, ev f p.2)) = l) (hb : bld P t l = some r) : exL P f h (.build t parts) = some r := by simp only [exL, hl, hb]
theorem x_func {fn : Fn} {cap : Array Operand} {l : List AV} (hl : cap.toList.map (ev f) = l) : exL P f h (.makeFunc fn #[] cap) = some (.fn fn l) := by simp only [exL, hl]; rfl
theorem x_func1 {fn : Fn} {v1 : AV} (h1 : ev f a = v1) : exL P f h (.makeFunc fn #[] #[a]) = some (.fn fn [v1]) := x_func (by simp [h1])
theorem x_func2 {fn : Fn} {v1 v2 : AV} (h1 : ev f a = v1) (h2 : ev f b = v2) : exL P f h (.makeFunc fn #[] #[a, b]) = some (.fn fn [v1, v2]) := x_func (by simp [h1, h2])
theorem x_func3 {fn : Fn} {v1 v2 v3 : AV} (h1 : ev f a = v1) (h2 : ev f b = v2) (h3 : ev f c = v3) : exL P f h (.makeFunc fn #[] #[a, b, c]) = some (.fn fn [v1, v2, v3]) := x_func (by simp [h1, h2, h3])
theorem x_load {i o : Nat} (ha : ev f a = .ptr i o) (hl : ldc P h t i o = some r) : exL P f h (.load t a) = some r := by simp only [exL, ha, hl]

theorem wrap_pow {m : Nat} (hm : m ≤ 62) : IntKind.i64.wrap (1 * 2 ^ m) = 1 * 2 ^ m := by
  have h1 : (2:Int) ^ m ≤ 2 ^ 62 := by
    have : (2:Nat) ^ m ≤ 2 ^ 62 := Nat.pow_le_pow_right (by omega) hm
    exact_mod_cast this
  have h2 : (0:Int) < 2 ^ m := Int.pow_pos (by omega)
  exact wrap_i64_in (by omega) (by omega)
theorem x_shl1 {m : Nat} (ha : ev f a = .v (.int .i64 1)) (hb : ev f b = .v (.int k1 y)) (hy : y = (m : Int)) (hm : m ≤ 62) : exL P f h (.binOp .shl t a b t') = some (.v (.int .i64 (2 ^ m))) := by
  rw [x_shl ha hb hy (show m ≤ 64 by omega) (wrap_pow hm), Int.one_mul]
theorem wrap_u64_in {n : Int} (h0 : 0 ≤ n) (h1 : n < 18446744073709551616) : IntKind.u64.wrap n = n := by
  show n % 18446744073709551616 = n
  omega
end

section
variable {P : Program} {f : Fr} {h : Hp} {ops : Array Oper} {N : Fr → Hp → Prop} {d : Option Tmp} {op : Op} {ty : TypeId} {pos : String} {aft : Array Edge} {gd : Option (Nat × Bool)} {rest : List Oper}
/-- A step that yields a truth value: both arms. -/
theorem s_opB {b : Bool} (hx : exL P f h op = some (.v (.bool b))) (h1 : b = true → wkO P ops rest N (f.put d (.v (.bool true))) h) (h2 : b = false → wkO P ops rest N (f.put d (.v (.bool false))) h) : wkO P ops (⟨d, op, ty, pos, aft, none⟩ :: rest) N f h :=
  s_opL hx (by cases b <;> first | exact h2 rfl | exact h1 rfl)
theorem s_gB {b : Bool} (hw : wantA ops f ⟨d, op, ty, pos, aft, gd⟩ = true) (hx : exL P f h op = some (.v (.bool b))) (h1 : b = true → wkO P ops rest N (f.put d (.v (.bool true))) h) (h2 : b = false → wkO P ops rest N (f.put d (.v (.bool false))) h) : wkO P ops (⟨d, op, ty, pos, aft, gd⟩ :: rest) N f h :=
  s_gL hw hx (by cases b <;> first | exact h2 rfl | exact h1 rfl)
/-- A call whose contract stands in no memory. -/
theorem s_opK {g : FuncId} {args : List AV} {r : AV} (hx : callOf f op = some (g, args)) (hg : okFn P g = true) (hs : AV.scs 0 args = true) (hc : ACalls P g args [] (fun r' _ => r' = r ∧ r'.sc 0 = true)) (hk : wkO P ops rest N (f.put d r) h) :
    wkO P ops (⟨d, op, ty, pos, aft, none⟩ :: rest) N f h :=
  s_opC hx hg (hc.any hs h (N := fun r' => r' = r) (fun r' hr _ => by rw [hr]; exact hk))
theorem s_gK {g : FuncId} {args : List AV} {r : AV} (hw : wantA ops f ⟨d, op, ty, pos, aft, gd⟩ = true) (hx : callOf f op = some (g, args)) (hg : okFn P g = true) (hs : AV.scs 0 args = true) (hc : ACalls P g args [] (fun r' _ => r' = r ∧ r'.sc 0 = true)) (hk : wkO P ops rest N (f.put d r) h) :
    wkO P ops (⟨d, op, ty, pos, aft, gd⟩ :: rest) N f h :=
  s_gC hw hx hg (hc.any hs h (N := fun r' => r' = r) (fun r' hr _ => by rw [hr]; exact hk))
/-- A call that yields a truth value: both arms. -/
theorem s_opKB {g : FuncId} {args : List AV} {b : Bool} (hx : callOf f op = some (g, args)) (hg : okFn P g = true) (hs : AV.scs 0 args = true) (hc : ACalls P g args [] (fun r' _ => r' = .v (.bool b) ∧ r'.sc 0 = true)) (h1 : b = true → wkO P ops rest N (f.put d (.v (.bool true))) h) (h2 : b = false → wkO P ops rest N (f.put d (.v (.bool false))) h) :
    wkO P ops (⟨d, op, ty, pos, aft, none⟩ :: rest) N f h :=
  s_opK hx hg hs hc (by cases b <;> first | exact h2 rfl | exact h1 rfl)
theorem s_gKB {g : FuncId} {args : List AV} {b : Bool} (hw : wantA ops f ⟨d, op, ty, pos, aft, gd⟩ = true) (hx : callOf f op = some (g, args)) (hg : okFn P g = true) (hs : AV.scs 0 args = true) (hc : ACalls P g args [] (fun r' _ => r' = .v (.bool b) ∧ r'.sc 0 = true)) (h1 : b = true → wkO P ops rest N (f.put d (.v (.bool true))) h) (h2 : b = false → wkO P ops rest N (f.put d (.v (.bool false))) h) :
    wkO P ops (⟨d, op, ty, pos, aft, gd⟩ :: rest) N f h :=
  s_gK hw hx hg hs hc (by cases b <;> first | exact h2 rfl | exact h1 rfl)
end

/-! ### A drawn region that leaves the memory alone -/
section
variable {P : Program} {f : Fr} {h : Hp} {m : Nat} {ro : Option Nat}
def wkQ (P : Program) (ops : Array Oper) : List (Oper × Bool) → (Fr → Hp → Prop) → Fr → Hp → Prop
  | [], K, f, h => K f h
  | (o, true) :: r, K, f, h => if wantA ops f o = true then ∃ v, exL P f h o.op = some v ∧ wkQ P ops r K (f.put o.dst v) h else wkQ P ops r K (f.put o.dst (.v undef)) h
  | (o, false) :: r, K, f, h => if wantA ops f o = true then WOp P o f h (fun v h' => h' = h ∧ wkQ P ops r K (f.put o.dst v) h) else wkQ P ops r K (f.put o.dst (.v undef)) h
theorem Keeps.refl : ∀ h : Hp, Keeps h h
  | [] => trivial
  | o :: r => by cases o <;> simp [Keeps, Keeps.refl r]
theorem padH_self (h : Hp) : padH h h = h := by simp [padH]
def pickO (ops : List Oper) : List (Nat × Bool) → List (Oper × Bool)
  | [] => []
  | (i, b) :: r => match ops[i]? with
    | some o => (o, b) :: pickO ops r
    | none => pickO ops r
theorem wop_mono {o : Oper} {N N' : AV → Hp → Prop} (hn : ∀ v h', N v h' → N' v h') : WOp P o f h N → WOp P o f h N' := by
  rintro (⟨r, h1, h2⟩ | ⟨r, h', h1, h2⟩ | ⟨g, args, h1, h2, h3⟩ | ⟨i, args, h1, st, pe, tm, ps, asg, bd, d, h2, h3, h4⟩ | ⟨r1, r2, h1, h2, h3⟩ | ⟨t, name, args, g, h1, h2, h3, h4⟩)
  · exact .inl ⟨r, h1, hn _ _ h2⟩
  · exact .inr (.inl ⟨r, h', h1, hn _ _ h2⟩)
  · exact .inr (.inr (.inl ⟨g, args, h1, h2, h3.mono fun r h' _ hh => hn _ _ hh⟩))
  · exact .inr (.inr (.inr (.inl ⟨i, args, h1, st, pe, tm, ps, asg, bd, d, h2, h3, fun fn ρ w H hs => (h4 fn ρ w H hs).mono fun e w' hp => hp.mono fun r h' _ _ hh => hn _ _ hh⟩)))
  · exact .inr (.inr (.inr (.inr (.inl ⟨r1, r2, h1, hn _ _ h2, hn _ _ h3⟩))))
  · exact .inr (.inr (.inr (.inr (.inr ⟨t, name, args, g, h1, h2, h3, h4.mono fun r h' _ hh => hn _ _ hh⟩))))
theorem wkD_of_Q {ops : Array Oper} {K : Fr → Hp → Prop} {h : Hp} : ∀ (l : List (Nat × Bool)) (f : Fr), l.all (fun p => (ops.toList[p.1]?).isSome) = true → wkQ P ops (pickO ops.toList l) K f h → wkD P ops h l K f h
  | [], f, _, hk => hk
  | (i, b) :: r, f, ha, hk => by
    simp only [List.all_cons, Bool.and_eq_true] at ha
    obtain ⟨o, ho⟩ := Option.isSome_iff_exists.1 ha.1
    have ho' : ops[i]? = some o := by simpa using ho
    simp only [pickO, ho] at hk
    cases b
    · simp only [wkD, ho']
      simp only [wkQ] at hk
      split
      · rename_i hw
        rw [if_pos hw] at hk
        refine wop_mono (fun v h' hn => ?_) hk
        obtain ⟨rfl, hn⟩ := hn
        exact ⟨Keeps.refl _, wkD_of_Q r _ ha.2 hn⟩
      · rename_i hw
        rw [if_neg hw] at hk
        exact wkD_of_Q r _ ha.2 hk
    · simp only [wkD, ho']
      simp only [wkQ] at hk
      split
      · rename_i hw
        rw [if_pos hw] at hk
        obtain ⟨v, hv, hk⟩ := hk
        exact ⟨v, by rw [padH_self]; exact hv, wkD_of_Q r _ ha.2 hk⟩
      · rename_i hw
        rw [if_neg hw] at hk
        exact wkD_of_Q r _ ha.2 hk
theorem s_regQ {K : Exit → Fr → Hp → Prop} {id : Nat} {ops : List Oper} (l : List (Nat × Bool)) (h1 : (ordOk ops.toArray l && l.all (fun p => (ops[p.1]?).isSome)) = true) {q : List (Oper × Bool)} (hq : pickO ops l = q) (hk : wkQ P ops.toArray q (K .normal) f h) : wk P m ro (.region id ops.toArray true) K f h := by
  simp only [Bool.and_eq_true] at h1
  subst hq
  exact s_regD l h h1.1 (Keeps.refl _) rfl (wkD_of_Q l f h1.2 hk)
variable {ops : Array Oper} {N : Fr → Hp → Prop} {d : Option Tmp} {op : Op} {ty : TypeId} {pos : String} {aft : Array Edge} {gd : Option (Nat × Bool)} {rest : List (Oper × Bool)} {z : Bool}
theorem q_end (hk : N f h) : wkQ P ops [] N f h := hk
theorem q_gL {r : AV} (hw : wantA ops f ⟨d, op, ty, pos, aft, gd⟩ = true) (hx : exL P f h op = some r) (hk : wkQ P ops rest N (f.put d r) h) : wkQ P ops ((⟨d, op, ty, pos, aft, gd⟩, z) :: rest) N f h := by
  cases z
  · show (if _ then _ else _)
    rw [if_pos hw]; exact .inl ⟨r, hx, rfl, hk⟩
  · show (if _ then _ else _)
    rw [if_pos hw]; exact ⟨r, hx, hk⟩
theorem q_opL {r : AV} (hx : exL P f h op = some r) (hk : wkQ P ops rest N (f.put d r) h) : wkQ P ops ((⟨d, op, ty, pos, aft, none⟩, z) :: rest) N f h := q_gL rfl hx hk
theorem q_gN (hw : wantA ops f ⟨d, op, ty, pos, aft, gd⟩ = false) (hk : wkQ P ops rest N (f.put d (.v undef)) h) : wkQ P ops ((⟨d, op, ty, pos, aft, gd⟩, z) :: rest) N f h := by
  cases z <;> (show (if _ then _ else _); rw [if_neg (by rw [hw]; simp)]; exact hk)
theorem q_gB {b : Bool} (hw : wantA ops f ⟨d, op, ty, pos, aft, gd⟩ = true) (hx : exL P f h op = some (.v (.bool b))) (h1 : b = true → wkQ P ops rest N (f.put d (.v (.bool true))) h) (h2 : b = false → wkQ P ops rest N (f.put d (.v (.bool false))) h) : wkQ P ops ((⟨d, op, ty, pos, aft, gd⟩, z) :: rest) N f h :=
  q_gL hw hx (by cases b <;> first | exact h2 rfl | exact h1 rfl)
theorem q_opB {b : Bool} (hx : exL P f h op = some (.v (.bool b))) (h1 : b = true → wkQ P ops rest N (f.put d (.v (.bool true))) h) (h2 : b = false → wkQ P ops rest N (f.put d (.v (.bool false))) h) : wkQ P ops ((⟨d, op, ty, pos, aft, none⟩, z) :: rest) N f h := q_gB rfl hx h1 h2
theorem q_gK {g : FuncId} {args : List AV} {r : AV} (hw : wantA ops f ⟨d, op, ty, pos, aft, gd⟩ = true) (hx : callOf f op = some (g, args)) (hg : okFn P g = true) (hs : AV.scs 0 args = true) (hc : ACalls P g args [] (fun r' _ => r' = r ∧ r'.sc 0 = true)) (hk : wkQ P ops rest N (f.put d r) h) :
    wkQ P ops ((⟨d, op, ty, pos, aft, gd⟩, false) :: rest) N f h := by
  show (if _ then _ else _)
  rw [if_pos hw]; exact .inr (.inr (.inl ⟨g, args, hx, hg, hc.any hs h (N := fun r' => r' = r) (fun r' hr _ => ⟨rfl, by rw [hr]; exact hk⟩)⟩))
theorem q_opK {g : FuncId} {args : List AV} {r : AV} (hx : callOf f op = some (g, args)) (hg : okFn P g = true) (hs : AV.scs 0 args = true) (hc : ACalls P g args [] (fun r' _ => r' = r ∧ r'.sc 0 = true)) (hk : wkQ P ops rest N (f.put d r) h) :
    wkQ P ops ((⟨d, op, ty, pos, aft, none⟩, false) :: rest) N f h := q_gK rfl hx hg hs hc hk
theorem q_gKB {g : FuncId} {args : List AV} {b : Bool} (hw : wantA ops f ⟨d, op, ty, pos, aft, gd⟩ = true) (hx : callOf f op = some (g, args)) (hg : okFn P g = true) (hs : AV.scs 0 args = true) (hc : ACalls P g args [] (fun r' _ => r' = .v (.bool b) ∧ r'.sc 0 = true)) (h1 : b = true → wkQ P ops rest N (f.put d (.v (.bool true))) h) (h2 : b = false → wkQ P ops rest N (f.put d (.v (.bool false))) h) :
    wkQ P ops ((⟨d, op, ty, pos, aft, gd⟩, false) :: rest) N f h :=
  q_gK hw hx hg hs hc (by cases b <;> first | exact h2 rfl | exact h1 rfl)
theorem q_opKB {g : FuncId} {args : List AV} {b : Bool} (hx : callOf f op = some (g, args)) (hg : okFn P g = true) (hs : AV.scs 0 args = true) (hc : ACalls P g args [] (fun r' _ => r' = .v (.bool b) ∧ r'.sc 0 = true)) (h1 : b = true → wkQ P ops rest N (f.put d (.v (.bool true))) h) (h2 : b = false → wkQ P ops rest N (f.put d (.v (.bool false))) h) :
    wkQ P ops ((⟨d, op, ty, pos, aft, none⟩, false) :: rest) N f h := q_gKB rfl hx hg hs hc h1 h2
end

/-! ### The end of a function, out of slots -/
section
variable {P : Program} {fn : Func} {N : AV → Hp → Prop} {h : Hp} {l : List AV} {t1 t2 t3 t4 : Nat} {r1 r2 r3 r4 : AV}
theorem k_1 (hr : fn.results.toList = [.tmp t1]) (h1 : l[t1]? = some r1) (hk : N r1 h) : RK P fn N .ret ⟨l, []⟩ h :=
  ⟨h, r1, rfl, by simp only [resA, hr, resAll, resOne, List.getD_eq_getElem?_getD, h1, Option.getD_some], hk⟩
theorem k_2 (hr : fn.results.toList = [.tmp t1, .tmp t2]) (h1 : l[t1]? = some r1) (h2 : l[t2]? = some r2) (hk : N (.tup [r1, r2]) h) : RK P fn N .ret ⟨l, []⟩ h :=
  ⟨h, _, rfl, by simp only [resA, hr, resAll, resOne, List.getD_eq_getElem?_getD, h1, h2, Option.getD_some], hk⟩
theorem k_3 (hr : fn.results.toList = [.tmp t1, .tmp t2, .tmp t3]) (h1 : l[t1]? = some r1) (h2 : l[t2]? = some r2) (h3 : l[t3]? = some r3) (hk : N (.tup [r1, r2, r3]) h) : RK P fn N .ret ⟨l, []⟩ h :=
  ⟨h, _, rfl, by simp only [resA, hr, resAll, resOne, List.getD_eq_getElem?_getD, h1, h2, h3, Option.getD_some], hk⟩
theorem k_4 (hr : fn.results.toList = [.tmp t1, .tmp t2, .tmp t3, .tmp t4]) (h1 : l[t1]? = some r1) (h2 : l[t2]? = some r2) (h3 : l[t3]? = some r3) (h4 : l[t4]? = some r4) (hk : N (.tup [r1, r2, r3, r4]) h) : RK P fn N .ret ⟨l, []⟩ h :=
  ⟨h, _, rfl, by simp only [resA, hr, resAll, resOne, List.getD_eq_getElem?_getD, h1, h2, h3, h4, Option.getD_some], hk⟩
end

/-! ### Which operation stands first -/
section
variable {P : Program} {f : Fr} {h : Hp} {ops : Array Oper} {N : Fr → Hp → Prop} {d : Option Tmp} {ty : TypeId} {pos : String} {aft : Array Edge} {gd : Option (Nat × Bool)} {rest : List Oper} {restQ : List (Oper × Bool)} {z : Bool}
theorem is_s (op : Op) (hk : wkO P ops (⟨d, op, ty, pos, aft, gd⟩ :: rest) N f h) : wkO P ops (⟨d, op, ty, pos, aft, gd⟩ :: rest) N f h := hk
theorem is_q (op : Op) (hk : wkQ P ops ((⟨d, op, ty, pos, aft, gd⟩, z) :: restQ) N f h) : wkQ P ops ((⟨d, op, ty, pos, aft, gd⟩, z) :: restQ) N f h := hk
theorem is_sG {g : Nat × Bool} (op : Op) (hk : wkO P ops (⟨d, op, ty, pos, aft, some g⟩ :: rest) N f h) : wkO P ops (⟨d, op, ty, pos, aft, some g⟩ :: rest) N f h := hk
theorem is_qG {g : Nat × Bool} (op : Op) (hk : wkQ P ops ((⟨d, op, ty, pos, aft, some g⟩, z) :: restQ) N f h) : wkQ P ops ((⟨d, op, ty, pos, aft, some g⟩, z) :: restQ) N f h := hk
theorem is_cond {m : Nat} {ro : Option Nat} {K : Exit → Fr → Hp → Prop} {c : Operand} {a b : Code} (hk : wk P m ro (.cond c a b) K f h) : wk P m ro (.cond c a b) K f h := hk
theorem is_regD {m : Nat} {ro : Option Nat} {K : Exit → Fr → Hp → Prop} {id : Nat} {l : List Oper} (hk : wk P m ro (.region id l.toArray true) K f h) : wk P m ro (.region id l.toArray true) K f h := hk
end

/-! ### Calls whose contract tells of this memory, and that leave it as it is -/
section
variable {P : Program} {f : Fr} {h : Hp} {ops : Array Oper} {N : Fr → Hp → Prop} {d : Option Tmp} {op : Op} {ty : TypeId} {pos : String} {aft : Array Edge} {gd : Option (Nat × Bool)} {rest : List Oper} {restQ : List (Oper × Bool)} {g : FuncId} {args : List AV}
theorem s_gM {r : AV} (hw : wantA ops f ⟨d, op, ty, pos, aft, gd⟩ = true) (hx : callOf f op = some (g, args)) (hg : okFn P g = true) (hc : ACalls P g args h (fun r' h' => r' = r ∧ h' = h)) (hk : wkO P ops rest N (f.put d r) h) :
    wkO P ops (⟨d, op, ty, pos, aft, gd⟩ :: rest) N f h :=
  s_gC hw hx hg (hc.mono fun r' h' _ hh => by rw [hh.1, hh.2]; exact hk)
theorem s_gMB {b : Bool} (hw : wantA ops f ⟨d, op, ty, pos, aft, gd⟩ = true) (hx : callOf f op = some (g, args)) (hg : okFn P g = true) (hc : ACalls P g args h (fun r' h' => r' = .v (.bool b) ∧ h' = h)) (h1 : b = true → wkO P ops rest N (f.put d (.v (.bool true))) h) (h2 : b = false → wkO P ops rest N (f.put d (.v (.bool false))) h) :
    wkO P ops (⟨d, op, ty, pos, aft, gd⟩ :: rest) N f h :=
  s_gM hw hx hg hc (by cases b <;> first | exact h2 rfl | exact h1 rfl)
theorem q_gM {r : AV} (hw : wantA ops f ⟨d, op, ty, pos, aft, gd⟩ = true) (hx : callOf f op = some (g, args)) (hg : okFn P g = true) (hc : ACalls P g args h (fun r' h' => r' = r ∧ h' = h)) (hk : wkQ P ops restQ N (f.put d r) h) :
    wkQ P ops ((⟨d, op, ty, pos, aft, gd⟩, false) :: restQ) N f h := by
  show (if _ then _ else _)
  rw [if_pos hw]; exact .inr (.inr (.inl ⟨g, args, hx, hg, hc.mono fun r' h' _ hh => ⟨hh.2, by rw [hh.1]; exact hk⟩⟩))
theorem q_gMB {b : Bool} (hw : wantA ops f ⟨d, op, ty, pos, aft, gd⟩ = true) (hx : callOf f op = some (g, args)) (hg : okFn P g = true) (hc : ACalls P g args h (fun r' h' => r' = .v (.bool b) ∧ h' = h)) (h1 : b = true → wkQ P ops restQ N (f.put d (.v (.bool true))) h) (h2 : b = false → wkQ P ops restQ N (f.put d (.v (.bool false))) h) :
    wkQ P ops ((⟨d, op, ty, pos, aft, gd⟩, false) :: restQ) N f h :=
  q_gM hw hx hg hc (by cases b <;> first | exact h2 rfl | exact h1 rfl)
end
end Go.Az
