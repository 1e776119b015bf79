/-
  Maps whose keys are numbers. Conditions: stated at each theorem.
-/
import Derived.Test.YtgjbmhclgmpjdaaGreatAzR
import Derived.RecoverIn
set_option linter.unusedVariables false
set_option linter.unusedSectionVars false
set_option linter.unusedSimpArgs false
set_option linter.unusedVariables false
namespace Go.Az
open Go Go.Chz
def imE : List (Int × AV) → Nat → List (Value × AV × Nat)
  | [], _ => []
  | e :: r, j => (.int .i64 e.1, e.2, j) :: imE r (j + 1)
/-- A map with these entries, in the order in which they came. -/
def mpO (m : List (Int × AV)) : AObj := .map (imE m 0) m.length
def imGet : List (Int × AV) → Int → Option AV
  | [], _ => none
  | e :: r, k => if k = e.1 then some e.2 else imGet r k
def imSet : List (Int × AV) → Int → AV → List (Int × AV)
  | [], k, v => [(k, v)]
  | e :: r, k, v => if k = e.1 then (k, v) :: r else e :: imSet r k v
theorem same_i (a b : Int) : Instr.sameNow (.int .i64) (.int .i64 a) (.int .i64 b) = some (decide (a = b)) := by
  have : (a == b) = decide (a = b) := rfl
  simp only [Instr.sameNow, if_true, this]
theorem mfind_i (k : Int) : ∀ (m : List (Int × AV)) (j : Nat), mfind (.int .i64) (.int .i64 k) (imE m j) = some (imGet m k)
  | [], j => rfl
  | e :: r, j => by
    rw [imE, mfind, same_i, imGet]
    by_cases h : k = e.1
    · rw [if_pos h, decide_eq_true h]
    · rw [if_neg h, decide_eq_false h]; exact mfind_i k r (j + 1)
theorem imE_len : ∀ (m : List (Int × AV)) (j : Nat), (imE m j).length = m.length
  | [], j => rfl
  | e :: r, j => by rw [imE, List.length_cons, imE_len r, List.length_cons]
theorem imE_app : ∀ (m l : List (Int × AV)) (j : Nat), imE (m ++ l) j = imE m j ++ imE l (j + m.length)
  | [], l, j => by simp [imE]
  | e :: r, l, j => by
    rw [List.cons_append, imE, imE, imE_app r l (j + 1), List.cons_append, List.length_cons, show j + 1 + r.length = j + (r.length + 1) by omega]
/-- The number of a key's entry. -/
def imIdx : List (Int × AV) → Int → Nat → Option Nat
  | [], _, _ => none
  | e :: r, k, i => if k = e.1 then some i else imIdx r k (i + 1)
theorem midx_i (k : Int) : ∀ (m : List (Int × AV)) (j i : Nat), midx (.int .i64) (.int .i64 k) (imE m j) i = some (imIdx m k i)
  | [], j, i => rfl
  | e :: r, j, i => by
    rw [imE, midx, same_i, imIdx]
    by_cases h : k = e.1
    · rw [if_pos h, decide_eq_true h]
    · rw [if_neg h, decide_eq_false h]; exact midx_i k r (j + 1) (i + 1)
theorem mset_cons (a b : Value × AV × Nat) (es : List (Value × AV × Nat)) (i : Nat) (k : Value) (v : AV) : mset (a :: es) (i + 1) k v = a :: mset es i k v := by
  unfold mset
  simp only [List.getElem?_cons_succ]
  cases es[i]? <;> rfl
theorem imSet_some (k : Int) (v : AV) : ∀ (m : List (Int × AV)) (j i i' : Nat), imIdx m k i = some i' → i ≤ i' ∧ mset (imE m j) (i' - i) (.int .i64 k) v = imE (imSet m k v) j ∧ (imSet m k v).length = m.length
  | [], j, i, i', h => by simp [imIdx] at h
  | e :: r, j, i, i', h => by
    rw [imIdx] at h
    by_cases hk : k = e.1
    · rw [if_pos hk] at h
      injection h with h
      subst h
      rw [Nat.sub_self, imE, imSet, if_pos hk, imE]
      exact ⟨Nat.le_refl _, rfl, rfl⟩
    · rw [if_neg hk] at h
      obtain ⟨h1, h2, h3⟩ := imSet_some k v r (j + 1) (i + 1) i' h
      refine ⟨by omega, ?_, by rw [imSet, if_neg hk, List.length_cons, List.length_cons, h3]⟩
      rw [show i' - i = (i' - (i + 1)) + 1 by omega, imE, mset_cons _ (.int .i64 0, v, 0), h2, imSet, if_neg hk, imE]
theorem imSet_none (k : Int) (v : AV) : ∀ (m : List (Int × AV)) (i : Nat), imIdx m k i = none → imSet m k v = m ++ [(k, v)]
  | [], i, _ => rfl
  | e :: r, i, h => by
    rw [imIdx] at h
    by_cases hk : k = e.1
    · rw [if_pos hk] at h; cases h
    · rw [if_neg hk] at h
      rw [imSet, if_neg hk, imSet_none k v r (i + 1) h]; rfl
class CMP (P : Program) (t : TypeId) (z : outParam AV) : Prop where
  p : ∃ kt et x, P.underlying t = some (.map kt et) ∧ P.underlying kt = some (.int .i64) ∧ tab P et = some x ∧ zAV x = z
def cmpOf (P : Program) (t : TypeId) : Option AV := match P.underlying t with
  | some (.map kt et) => match P.underlying kt with
    | some (.int .i64) => match tab P et with
      | some x => some (zAV x)
      | none => none
    | _ => none
  | _ => none
theorem cmp_of {P : Program} {t : TypeId} {z : AV} (h : cmpOf P t = some z) : CMP P t z := by
  unfold cmpOf at h
  split at h
  · rename_i kt et h1
    split at h
    · rename_i h2
      split at h
      · rename_i x h3
        exact ⟨kt, et, x, h1, h2, h3, by injection h⟩
      · cases h
    · cases h
  · cases h
section
variable {P : Program} {t : TypeId} {z : AV} {h : Hp} {i : Nat} {k : Int} {v : AV} {m : List (Int × AV)} {ok : Bool}
theorem lkp_i (hu : CMP P t z) (hi : h[i]? = some (mpO m)) : lkp P h t (.mp i) (.v (.int .i64 k)) ok = some (okd ok ((imGet m k).getD z) (imGet m k).isSome) := by
  obtain ⟨kt, et, x, h1, h2, h3, h4⟩ := hu.p
  unfold lkp
  simp only [h1, hi, mpO, h2, h3, show keyD (.int .i64) = true from rfl, if_true, mfind_i]
  cases imGet m k with
  | none => simp only [h4]; rfl
  | some w => rfl
theorem mpu_i (hu : CMP P t z) (hi : h[i]? = some (mpO m)) : mpu P h t (.mp i) (.v (.int .i64 k)) v = some (h.set i (mpO (imSet m k v))) := by
  obtain ⟨kt, et, x, h1, h2, h3, h4⟩ := hu.p
  unfold mpu
  simp only [h1, hi, mpO, h2, show keyD (.int .i64) = true from rfl, if_true, midx_i]
  cases hx : imIdx m k 0 with
  | none =>
    have := imSet_none k v m 0 hx
    simp only [this, imE_app, List.length_append, List.length_singleton, Nat.zero_add]
    rfl
  | some j =>
    obtain ⟨_, a2, a3⟩ := imSet_some k v m 0 0 j hx
    rw [Nat.sub_zero] at a2
    simp only [a2, a3]
end
section
variable {P : Program} {ops : Array Oper} {d : Option Tmp} {ty : TypeId} {pos : String} {aft : Array Edge} {gd : Option (Nat × Bool)} {rest : List Oper} {N : Fr → Hp → Prop} {l : List AV} {ds : List Dq} {Y : Hp} {X : OrdX} {pd : List (Nat × Nat)} {gone : List Nat} {ii : Nat} {t : TypeId} {a b c : Operand} {z v : AV} {i : Nat} {k : Int} {m : List (Int × AV)} {ok bb : Bool}
/-- A map is made. -/
theorem s_mkm (hk : wkO P ops rest N (Fr.put ⟨l, ds⟩ d (.mp Y.length)) (Y ++ [mpO []])) (hw : wantA ops ⟨l, ds⟩ ⟨d, .makeMap t none, ty, pos, aft, gd⟩ = true := by rfl) : wkO P ops (⟨d, .makeMap t none, ty, pos, aft, gd⟩ :: rest) N ⟨l, ds⟩ Y :=
  s_gH hw (by rfl) hk
/-- An entry is set. -/
theorem s_mset (hu : CMP P t z) (g : HA Y i (mpO m)) (hk : wkO P ops rest N (Fr.put ⟨l, ds⟩ d (.v undef)) (Y.set i (mpO (imSet m k v)))) (hw : wantA ops ⟨l, ds⟩ ⟨d, .mapUpdate t a b c, ty, pos, aft, gd⟩ = true := by rfl) (ha : evS l a = some (.mp i) := by rfl) (hb : evS l b = some (.v (.int .i64 k)) := by rfl) (hc : evS l c = some v := by rfl) : wkO P ops (⟨d, .mapUpdate t a b c, ty, pos, aft, gd⟩ :: rest) N ⟨l, ds⟩ Y :=
  s_gH hw (by simp only [exH, e_any ha, e_any hb, e_any hc, mpu_i hu g.p]; rfl) hk
/-- A lookup. -/
theorem x_lkp {f : Fr} (hu : CMP P t z) (g : HA Y i (mpO m)) (ha : ev f a = .mp i) (hb : ev f b = .v (.int .i64 k)) : exL P f Y (.lookup t a b ok) = some (okd ok ((imGet m k).getD z) (imGet m k).isSome) := by
  simp only [exL, ha, hb, lkp_i hu g.p]
theorem s_lkp (r : Option AV) (hu : CMP P t z) (g : HA Y i (mpO m)) (hr : imGet m k = r) (hk : wkO P ops rest N (Fr.put ⟨l, ds⟩ d (okd ok (r.getD z) r.isSome)) Y) (hw : wantA ops ⟨l, ds⟩ ⟨d, .lookup t a b ok, ty, pos, aft, gd⟩ = true := by rfl) (ha : evS l a = some (.mp i) := by rfl) (hb : evS l b = some (.v (.int .i64 k)) := by rfl) : wkO P ops (⟨d, .lookup t a b ok, ty, pos, aft, gd⟩ :: rest) N ⟨l, ds⟩ Y :=
  s_gL hw (by rw [x_lkp hu g (e_any ha) (e_any hb), hr]) hk
theorem s_lkp1 (hu : CMP P t z) (g : HA Y i (mpO m)) (hr : imGet m k = some v) (hk : wkO P ops rest N (Fr.put ⟨l, ds⟩ d v) Y) (hw : wantA ops ⟨l, ds⟩ ⟨d, .lookup t a b false, ty, pos, aft, gd⟩ = true := by rfl) (ha : evS l a = some (.mp i) := by rfl) (hb : evS l b = some (.v (.int .i64 k)) := by rfl) : wkO P ops (⟨d, .lookup t a b false, ty, pos, aft, gd⟩ :: rest) N ⟨l, ds⟩ Y :=
  s_lkp (some v) hu g hr hk hw ha hb
theorem s_lkp0 (hu : CMP P t z) (g : HA Y i (mpO m)) (hr : imGet m k = none) (hk : wkO P ops rest N (Fr.put ⟨l, ds⟩ d z) Y) (hw : wantA ops ⟨l, ds⟩ ⟨d, .lookup t a b false, ty, pos, aft, gd⟩ = true := by rfl) (ha : evS l a = some (.mp i) := by rfl) (hb : evS l b = some (.v (.int .i64 k)) := by rfl) : wkO P ops (⟨d, .lookup t a b false, ty, pos, aft, gd⟩ :: rest) N ⟨l, ds⟩ Y :=
  s_lkp none hu g hr hk hw ha hb
end
/-- A literal's cells are a slice of the call's own. -/
theorem Sep.litW {α : Type} {enc : α → List AV} {q : Nat} {e : TypeId} {h Y : Hp} {L : List Pc} {i : Nat} {cs : List AV} (S : Sep h Y L) (k : Nat) (hk : L[k]? = some (pcC i (.cells cs e true))) (hE : EncOk enc q) (l : List α) (hl : cs = l.flatMap enc) : Sep h Y (L.set k (pcW enc q e (.sl i 0 l.length l.length false) l)) := by
  have hY : Y[i]? = some (.cells cs e true) := S.all _ (List.mem_of_getElem? hk)
  have hn : cs.length = l.length * q := by rw [hl, flat_len hE]
  refine S.turn hk ⟨Nat.le_refl _, fun _ _ _ => rfl⟩ (.inr ⟨i, 0, l.length, false, cs, rfl, hY, by omega, ?_, (fun h => by cases h), fun _ => ⟨Nat.le_refl _, by omega⟩⟩) (fun j hj => .inl ?_)
  · rw [List.drop_zero, List.take_of_length_le (by omega), hl]
  · simpa [pcW, pcC, objOf] using hj
end Go.Az
/-
  The first elements of a slice of the call's own. Conditions: stated at each theorem.
-/
set_option linter.unusedSimpArgs false
set_option linter.unusedVariables false
namespace Go.Az
open Go Go.Chz
theorem slc_hi {α : Type} {enc : α → List AV} {P : Program} {t e : TypeId} {H : Hp} {z : AV} {l : List α} (hE : EncOk enc 1) (hu : sliOf P t = some (e, 1)) (hO : Own enc 1 e H z l) {m : Nat} (hm : m ≤ l.length) {f : Fr} {a b : Operand} (ha : ev f a = z) (hb : ev f b = .v (.int .i64 m)) :
    ∃ z', SlC z' ∧ Elts enc 1 H z' (l.take m) ∧ exL P f H (.slice t a none (some b) none) = some z' := by
  obtain ⟨h1, inf, h2, h3⟩ := sliOf_spec hu
  rcases hO with ⟨rfl, rfl⟩ | ⟨i, o, c, u, cs, rfl, g1, g2, g3, g4, g5⟩
  · have : m = 0 := by simpa using hm
    subst this
    refine ⟨.v (.slice none 0 0), inferInstance, .inl ⟨rfl, rfl⟩, ?_⟩
    simp [exL, ha, hb, slc, h1, h2, bnds, bnd, intOf?]
  · have hmi : ((m : Nat) : Int) ≤ l.length := by omega
    have he : (cs.drop o).take (m * 1) = (l.take m).flatMap enc := by
      rw [← flat_take hE, ← g3, List.take_take, Nat.min_eq_left (by omega)]
    have hl : (l.take m).length = m := by rw [List.length_take]; omega
    have hel : ∀ c' u', Elts enc 1 H (.sl i o m c' u') (l.take m) := fun c' u' => .inr ⟨i, o, c', u', cs, e, true, by rw [hl], g1, by rw [hl]; omega, by rw [hl]; exact he⟩
    cases u
    · have g5 := g5 rfl
      have hmc : ((m : Nat) : Int) ≤ c := by omega
      refine ⟨.sl i o m c false, inferInstance, hel _ _, ?_⟩
      have hc : cutAt o 0 c inf.size = o := by unfold cutAt; split <;> simp
      simp [exL, ha, hb, slc, h1, h2, bnds, bnd, intOf?, hmc, hc]
    · obtain ⟨rfl, rfl⟩ := g4 rfl
      refine ⟨.sl i 0 m 0 true, inferInstance, hel _ _, ?_⟩
      have hc : capOk P H e i l.length 0 = true := by simp [capOk, g1, h2, h3]; omega
      simp [exL, ha, hb, slc, h1, h2, hc, ubnds, bnds, bnd, intOf?, hmi]
section
variable {P : Program} {ops : Array Oper} {d : Option Tmp} {ty : TypeId} {pos : String} {aft : Array Edge} {gd : Option (Nat × Bool)} {rest : List Oper} {N : Fr → Hp → Prop} {fl : List AV} {ds : List Dq} {Y : Hp} {t e : TypeId} {a b : Operand} {α : Type} {enc : α → List AV} {z : AV} {l : List α} {m : Nat}
/-- The first elements. -/
theorem s_sHi (d0 : α) (hk : ∀ z', SlC z' → EL α enc 1 d0 Y z' (l.take m) → wkO P ops rest N (Fr.put ⟨fl, ds⟩ d z') Y) (hE : EncOk enc 1) (hu : CS P t e 1) (hO : Own enc 1 e Y z l) (hm : m ≤ l.length)
    (hw : wantA ops ⟨fl, ds⟩ ⟨d, .slice t a none (some b) none, ty, pos, aft, gd⟩ = true := by rfl) (ha : evS fl a = some z := by rfl) (hb : evS fl b = some (.v (.int .i64 m)) := by rfl) : wkO P ops (⟨d, .slice t a none (some b) none, ty, pos, aft, gd⟩ :: rest) N ⟨fl, ds⟩ Y := by
  obtain ⟨z', h1, h2, h3⟩ := slc_hi hE hu.p hO hm (f := ⟨fl, ds⟩) (e_any ha) (e_any hb)
  exact s_gL hw h3 (hk z' h1 (mkEL hE d0 h2))
end
theorem x_neg {P : Program} {f : Fr} {h : Hp} {a : Operand} {t : TypeId} {x : Int} (ha : ev f a = .v (.int .i64 x)) (h1 : -9223372036854775807 ≤ x) (h2 : x ≤ 9223372036854775807) : exL P f h (.unOp .neg t a) = some (.v (.int .i64 (-x))) := by
  have e := wrap_i64_in (n := 0 - x) (by omega) (by omega)
  rw [Int.zero_sub] at e
  simp only [exL, ha, una, Int.zero_sub, e]
end Go.Az
/-
  Slices of a room (an array with more places), lists that can be read in all memories with some pieces, lookups that tell whether there is an entry. Conditions: stated at each theorem.
-/
set_option linter.unusedSimpArgs false
set_option linter.unusedVariables false
namespace Go.Az
open Go Go.Chz
theorem imGet_set (k : Int) (v : AV) (s : Int) : ∀ m : List (Int × AV), imGet (imSet m k v) s = if s = k then some v else imGet m s
  | [] => by simp [imSet, imGet]
  | e :: r => by
    have ih := imGet_set k v s r
    rw [imSet]
    by_cases h : k = e.1
    · rw [if_pos h, imGet]
      by_cases h2 : s = k
      · rw [if_pos h2, if_pos h2]
      · rw [if_neg h2, if_neg h2, imGet, if_neg (by omega)]
    · rw [if_neg h, imGet, ih, imGet]
      by_cases h2 : s = e.1
      · rw [if_pos h2, if_pos h2, if_neg (by omega)]
      · rw [if_neg h2, if_neg h2]
/-- A slice of a room: the first places of an array of the call's own. -/
def pcR {α : Type} (enc : α → List AV) (q : Nat) (z : AV) (l : List α) (c : Nat) : Pc where
  foot := objOf z
  ok := fun H => ∃ i cs t, z = .sl i 0 l.length c false ∧ H[i]? = some (.cells cs t true) ∧ c * q ≤ cs.length ∧ l.length ≤ c ∧ cs.take (l.length * q) = l.flatMap enc
  loc := fun x hne ⟨i, cs, t, h1, h2, h3, h4, h5⟩ => ⟨i, cs, t, h1, x.get h2 (hne i (by rw [h1]; rfl)), h3, h4, h5⟩
  lt := fun h ⟨i, cs, t, h1, h2, h3, h4, h5⟩ => by
    rw [h1] at h
    simp only [objOf, Option.some.injEq] at h
    subst h
    exact (List.getElem?_eq_some_iff.1 h2).1
theorem room_elts {α : Type} {enc : α → List AV} {q : Nat} {z : AV} {l : List α} {c : Nat} {H : Hp} (h : (pcR enc q z l c).ok H) : Elts enc q H z l := by
  obtain ⟨i, cs, t, h1, h2, h3, h4, h5⟩ := h
  exact .inr ⟨i, 0, c, false, cs, t, true, h1, h2, by have := Nat.mul_le_mul_right q h4; omega, by rw [List.drop_zero]; exact h5⟩
theorem app_room {α : Type} {enc : α → List AV} {q : Nat} {e : TypeId} {P : Program} {t : TypeId} {H : Hp} {z u : AV} {l l2 : List α} {c : Nat} (hE : EncOk enc q) (hu : sliOf P t = some (e, q)) (he : elOkQ P e q = true) (hG : (pcR enc q z l c).ok H) (hS : Elts enc q H u l2) (hc : l.length + l2.length ≤ c) (h0 : l2 ≠ []) :
    ∃ z' H', app P H [t, t] z u = some (z', H') ∧ (pcR enc q z' (l ++ l2) c).ok H' ∧ Oth (objOf z) H H' ∧ objOf z' = objOf z := by
  have hu' := sliOf_und hu
  unfold elOkQ at he
  split at he
  case h_2 => cases he
  rename_i ti inf ht hinf
  simp only [Bool.and_eq_true, Nat.beq_eq, Nat.ble_eq, Bool.not_eq_true'] at he
  obtain ⟨⟨⟨hs1, hby⟩, hi1⟩, hq0⟩ := he
  have hq : q ≠ 0 := by intro h; subst h; cases hq0
  have hsrc : srcC H q u = some (l2.length, l2.flatMap enc) := by
    rcases hS with ⟨rfl, rfl⟩ | ⟨i, o, c, u', cs, t', own, rfl, h2, h3, h4⟩
    · rfl
    · simp only [srcC, h2]
      rw [if_pos h3, h4]
  obtain ⟨i, cs, t', rfl, h2, h3, h4, h5⟩ := hG
  have hl2 : l2.length ≠ 0 := fun h => h0 (List.eq_nil_of_length_eq_zero h)
  have hcq : l.length * q + l2.length * q ≤ c * q := by rw [← Nat.add_mul]; exact Nat.mul_le_mul_right q hc
  unfold app
  simp only [ne_eq, not_true_eq_false, if_false, hu', ht, hs1, hq, hsrc, flat_one hE, Bool.true_eq_false, Nat.zero_add]
  rw [if_pos hc, if_neg hl2, h2]
  simp only []
  rw [if_pos (by omega)]
  have hcl : (setMany cs (l.length * q) (l2.flatMap enc)).length = cs.length := by
    simp only [setMany, List.length_append, List.length_take, List.length_drop, flat_len hE]; omega
  refine ⟨_, _, rfl, ⟨i, _, t', by rw [List.length_append], by rw [List.getElem?_set_self (List.getElem?_eq_some_iff.1 h2).1], by rw [hcl]; exact h3, by rw [List.length_append]; exact hc, ?_⟩, ⟨by simp, fun j hj hne => ?_⟩, rfl⟩
  · rw [List.flatMap_append, List.length_append, Nat.add_mul, ← h5]
    simp only [setMany, flat_len hE]
    rw [List.append_assoc, List.take_append, List.length_take, Nat.min_eq_left (by omega), List.take_of_length_le (by rw [List.length_take]; omega), show l.length * q + l2.length * q - l.length * q = l2.length * q by omega, List.take_left' (flat_len hE l2)]
  · rw [List.getElem?_set_ne (by intro h; subst h; exact hne rfl)]
theorem Sep.roomW {α : Type} {h Y : Hp} {L : List Pc} {i : Nat} {cs : List AV} {t : TypeId} (S : Sep h Y L) (k : Nat) (hk : L[k]? = some (pcC i (.cells cs t true))) (enc : α → List AV) (q c : Nat) (hc : c * q ≤ cs.length) : Sep h Y (L.set k (pcR enc q (.sl i 0 0 c false) [] c)) := by
  have hY : Y[i]? = some (.cells cs t true) := S.all _ (List.mem_of_getElem? hk)
  refine S.turn hk ⟨Nat.le_refl _, fun _ _ _ => rfl⟩ ⟨i, cs, t, rfl, hY, hc, Nat.zero_le _, by simp⟩ (fun j hj => .inl ?_)
  simpa [pcR, pcC, objOf] using hj
/-- A list that can be read in all memories with these pieces. -/
class ER (α : outParam Type) (enc : outParam (α → List AV)) (q : outParam Nat) (d : outParam α) (h : Hp) (L : List Pc) (s : AV) (l : outParam (List α)) : Prop where
  ok : EncOk enc q
  p : ∀ Y, Sep h Y L → Elts enc q Y s l
instance {α : Type} {enc : α → List AV} {q : Nat} {d : α} {h : Hp} {L : List Pc} {s : AV} {l : List α} {c : Nat} [x : EncC enc q d] : ER α enc q d h (pcR enc q s l c :: L) s l := ⟨x.ok, fun Y S => room_elts (c := c) (S.all _ (List.mem_cons_self ..))⟩
instance {α : Type} {enc : α → List AV} {q : Nat} {d : α} {h : Hp} {L : List Pc} {s : AV} {l : List α} {e : TypeId} [x : EncC enc q d] : ER α enc q d h (pcW enc q e s l :: L) s l := ⟨x.ok, fun Y S => Own.elts (e := e) (S.all (pcW enc q e s l) (List.mem_cons_self ..))⟩
instance (priority := 90) {α : Type} {enc : α → List AV} {q : Nat} {d : α} {h : Hp} {L : List Pc} {s : AV} {l : List α} [x : EL α enc q d h s l] : ER α enc q d h L s l := ⟨x.ok, fun Y S => x.p.ext S.ext⟩
instance (priority := 500) {α : Type} {enc : α → List AV} {q : Nat} {d : α} {h : Hp} {L : List Pc} {p : Pc} {s : AV} {l : List α} [x : ER α enc q d h L s l] : ER α enc q d h (p :: L) s l := ⟨x.ok, fun Y S => x.p Y (S.sub (List.sublist_cons_self _ _))⟩
instance (priority := 500) {α : Type} {enc : α → List AV} {q : Nat} {d : α} {h : Hp} {L E : List Pc} {s : AV} {l : List α} [x : ER α enc q d h L s l] : ER α enc q d h (E ++ L) s l := ⟨x.ok, fun Y S => x.p Y (S.sub (List.sublist_append_right _ _))⟩
instance (priority := 500) {α : Type} {enc : α → List AV} {q : Nat} {d : α} {h : Hp} {L E : List Pc} {s : AV} {l : List α} [x : ER α enc q d h L s l] : ER α enc q d h (L ++ E) s l := ⟨x.ok, fun Y S => x.p Y (S.sub (List.sublist_append_left _ _))⟩
instance (priority := 60) {α : Type} {enc : α → List AV} {q : Nat} {d : α} {h Y : Hp} {L : List Pc} {z : AV} {l : List α} [s : Sep h Y L] [x : ER α enc q d h L z l] : EL α enc q d Y z l := mkEL x.ok d (x.p Y s)
section
variable {P : Program} {ops : Array Oper} {d : Option Tmp} {ty : TypeId} {pos : String} {aft : Array Edge} {gd : Option (Nat × Bool)} {rest : List Oper} {N : Fr → Hp → Prop} {fl : List AV} {ds : List Dq} {h0 Y : Hp} {L : List Pc} {t e : TypeId} {a b : Operand} {α : Type} {enc : α → List AV} {q : Nat} {z u v : AV} {l l2 : List α} {c : Nat}
theorem s_appR (k : Nat) (hk : ∀ z' Y', SlC z' → Sep h0 Y' (L.set k (pcR enc q z' (l ++ l2) c)) → wkO P ops rest N (Fr.put ⟨fl, ds⟩ d z') Y') (S : Sep h0 Y L) (hp : L[k]? = some (pcR enc q z l c)) (hE : EncOk enc q) (hS : Elts enc q Y u l2) (hc : l.length + l2.length ≤ c) (hn : l2 ≠ []) (hu : CS P t e q) (he : CE P e q)
    (hw : wantA ops ⟨fl, ds⟩ ⟨d, .call ⟨.builtin .append, #[a, b], #[t, t]⟩, ty, pos, aft, gd⟩ = true := by rfl) (ha : evS fl a = some z := by rfl) (hb : evS fl b = some u := by rfl) : wkO P ops (⟨d, .call ⟨.builtin .append, #[a, b], #[t, t]⟩, ty, pos, aft, gd⟩ :: rest) N ⟨fl, ds⟩ Y := by
  have hY : (pcR enc q z l c).ok Y := S.all _ (List.mem_of_getElem? hp)
  obtain ⟨z', Y', e1, e2, e3, e4⟩ := app_room hE hu.p he.p hY hS hc hn
  have hz : SlC z' := by obtain ⟨i, cs, t', rfl, _⟩ := e2; infer_instance
  exact s_gH hw (x_app (e_any ha) (e_any hb) e1) (hk z' Y' hz (S.turn hp e3 e2 (fun j hj => .inl (by rw [← hj]; exact e4.symm))))
end
section
variable {P : Program} {ops : Array Oper} {d : Option Tmp} {ty : TypeId} {pos : String} {aft : Array Edge} {gd : Option (Nat × Bool)} {rest : List Oper} {N : Fr → Hp → Prop} {l : List AV} {ds : List Dq} {Y : Hp} {t : TypeId} {a b : Operand} {z v : AV} {i : Nat} {k : Int} {m : List (Int × AV)}
theorem s_msetP {h0 : Hp} {L : List Pc} {c : Operand} (n : Nat) (hk : ∀ Y', Sep h0 Y' (L.set n (pcC i (mpO (imSet m k v)))) → wkO P ops rest N (Fr.put ⟨l, ds⟩ d (.v undef)) Y') (hu : CMP P t z) (S : Sep h0 Y L) (hp : L[n]? = some (pcC i (mpO m))) (hw : wantA ops ⟨l, ds⟩ ⟨d, .mapUpdate t a b c, ty, pos, aft, gd⟩ = true := by rfl) (ha : evS l a = some (.mp i) := by rfl) (hb : evS l b = some (.v (.int .i64 k)) := by rfl) (hc : evS l c = some v := by rfl) : wkO P ops (⟨d, .mapUpdate t a b c, ty, pos, aft, gd⟩ :: rest) N ⟨l, ds⟩ Y := by
  have hY : Y[i]? = some (mpO m) := S.all _ (List.mem_of_getElem? hp)
  exact s_mset hu ⟨hY⟩ (hk _ (S.turn hp oth_set (by show (Y.set i _)[i]? = some _; rw [List.getElem?_set_self (List.getElem?_eq_some_iff.1 hY).1]) (fun j hj => .inl hj))) hw ha hb hc
theorem s_lkpS (hu : CMP P t z) (g : HA Y i (mpO m)) (hr : imGet m k = some v) (hk : wkO P ops rest N (Fr.put ⟨l, ds⟩ d (.tup [v, .v (.bool true)])) Y) (hw : wantA ops ⟨l, ds⟩ ⟨d, .lookup t a b true, ty, pos, aft, gd⟩ = true := by rfl) (ha : evS l a = some (.mp i) := by rfl) (hb : evS l b = some (.v (.int .i64 k)) := by rfl) : wkO P ops (⟨d, .lookup t a b true, ty, pos, aft, gd⟩ :: rest) N ⟨l, ds⟩ Y :=
  s_lkp (some v) hu g hr hk hw ha hb
theorem s_lkpN (hu : CMP P t z) (g : HA Y i (mpO m)) (hr : imGet m k = none) (hk : wkO P ops rest N (Fr.put ⟨l, ds⟩ d (.tup [z, .v (.bool false)])) Y) (hw : wantA ops ⟨l, ds⟩ ⟨d, .lookup t a b true, ty, pos, aft, gd⟩ = true := by rfl) (ha : evS l a = some (.mp i) := by rfl) (hb : evS l b = some (.v (.int .i64 k)) := by rfl) : wkO P ops (⟨d, .lookup t a b true, ty, pos, aft, gd⟩ :: rest) N ⟨l, ds⟩ Y :=
  s_lkp none hu g hr hk hw ha hb
end
end Go.Az
/-
  Parts of slices of the call's own, of any elements. Conditions: stated at each theorem.
-/
set_option linter.unusedSimpArgs false
set_option linter.unusedVariables false
namespace Go.Az
open Go Go.Chz
section
variable {α : Type} {enc : α → List AV} {q : Nat} {P : Program} {t e : TypeId} {H H0 : Hp} {z : AV} {l : List α} {m : Nat} {f : Fr} {a b : Operand}
theorem slcq_hi (hq : 0 < q) (hE : EncOk enc q) (hu : sliOf P t = some (e, q)) (hO : Own enc q e H0 z l) (hx : Ext H0 H) (hm : m ≤ l.length) (ha : ev f a = z) (hb : ev f b = .v (.int .i64 m)) :
    ∃ z', SlC z' ∧ Elts enc q H0 z' (l.take m) ∧ exL P f H (.slice t a none (some b) none) = some z' := by
  obtain ⟨h1, inf, h2, h3⟩ := sliOf_spec hu
  rcases hO with ⟨rfl, rfl⟩ | ⟨i, o, c, u, cs, rfl, g1, g2, g3, g4, g5⟩
  · have : m = 0 := by simpa using hm
    subst this
    refine ⟨.v (.slice none 0 0), inferInstance, .inl ⟨rfl, by simp⟩, ?_⟩
    simp [exL, ha, hb, slc, h1, h2, bnds, bnd, intOf?]
  · have g1' : H[i]? = some (.cells cs e true) := by rw [hx.2 i (List.getElem?_eq_some_iff.1 g1).1]; exact g1
    have hmi : ((m : Nat) : Int) ≤ l.length := by omega
    have hmq : m * q ≤ l.length * q := Nat.mul_le_mul_right _ hm
    have he : (cs.drop o).take (m * q) = (l.take m).flatMap enc := by
      rw [← flat_take hE, ← g3, List.take_take, Nat.min_eq_left hmq]
    have hl : (l.take m).length = m := by rw [List.length_take]; omega
    have hel : ∀ c' u', Elts enc q H0 (.sl i o m c' u') (l.take m) := fun c' u' => .inr ⟨i, o, c', u', cs, e, true, by rw [hl], g1, by rw [hl]; omega, by rw [hl]; exact he⟩
    cases u
    · have g5 := g5 rfl
      have hmc : ((m : Nat) : Int) ≤ c := by omega
      refine ⟨.sl i o m c false, inferInstance, hel _ _, ?_⟩
      have hc : cutAt o 0 c inf.size = o := by unfold cutAt; split <;> simp
      simp [exL, ha, hb, slc, h1, h2, bnds, bnd, intOf?, hmc, hc]
    · obtain ⟨rfl, rfl⟩ := g4 rfl
      refine ⟨.sl i 0 m 0 true, inferInstance, hel _ _, ?_⟩
      have hc : capOk P H e i l.length 0 = true := by
        have : 0 + l.length * q ≤ cs.length := g2
        simp [capOk, g1', h2, h3, hq]; omega
      simp [exL, ha, hb, slc, h1, h2, hc, ubnds, bnds, bnd, intOf?, hmi]
theorem slcq_lo (hq : 0 < q) (hE : EncOk enc q) (hu : sliOf P t = some (e, q)) (hO : Own enc q e H0 z l) (hx : Ext H0 H) (hm : m ≤ l.length) (ha : ev f a = z) (hb : ev f b = .v (.int .i64 m)) :
    (∃ z', SlC z' ∧ Elts enc q H0 z' (l.drop m) ∧ exL P f H (.slice t a (some b) none none) = some z') ∨ (∃ r1 r2, tailOf P f H (.slice t a (some b) none none) = some (r1, r2) ∧ SlC r1 ∧ SlC r2 ∧ Elts enc q H0 r1 (l.drop m) ∧ Elts enc q H0 r2 (l.drop m)) := by
  obtain ⟨h1, inf, h2, h3⟩ := sliOf_spec hu
  rcases hO with ⟨rfl, rfl⟩ | ⟨i, o, c, u, cs, rfl, g1, g2, g3, g4, g5⟩
  · have : m = 0 := by simpa using hm
    subst this
    refine .inl ⟨.v (.slice none 0 0), inferInstance, .inl ⟨rfl, by simp⟩, ?_⟩
    simp [exL, ha, hb, slc, h1, h2, bnds, bnd, intOf?]
  · have g1' : H[i]? = some (.cells cs e true) := by rw [hx.2 i (List.getElem?_eq_some_iff.1 g1).1]; exact g1
    have hmi : ((m : Nat) : Int) ≤ l.length := by omega
    have hmq : m * q ≤ l.length * q := Nat.mul_le_mul_right _ hm
    have hsq : (l.length - m) * q = l.length * q - m * q := Nat.sub_mul _ _ _
    have he : (cs.drop (o + m * q)).take ((l.length - m) * q) = (l.drop m).flatMap enc := by
      rw [← flat_drop hE, ← g3, List.drop_take, List.drop_drop, hsq]
    have hl : (l.drop m).length = l.length - m := List.length_drop
    have hel : ∀ c' u', Elts enc q H0 (.sl i (o + m * q) (l.length - m) c' u') (l.drop m) := fun c' u' => .inr ⟨i, o + m * q, c', u', cs, e, true, by rw [hl], g1, by rw [hl]; omega, by rw [hl]; exact he⟩
    cases u
    · have g5 := g5 rfl
      have hmc : ((l.length : Nat) : Int) ≤ c := by omega
      by_cases hcm : c = m
      · have hml : m = l.length := by omega
        refine .inl ⟨.sl i o (l.length - m) (c - m) false, inferInstance, ?_, ?_⟩
        · have : l.drop m = [] := List.drop_of_length_le (by omega)
          rw [this]
          exact .inr ⟨i, o, c - m, false, cs, e, true, by rw [hml, Nat.sub_self]; rfl, g1, by simp; omega, by simp⟩
        · have hc : cutAt o m c inf.size = o := by unfold cutAt; rw [if_pos hcm]
          simp [exL, ha, hb, slc, h1, h2, bnds, bnd, intOf?, hmi, hmc, hc]
      · refine .inl ⟨.sl i (o + m * q) (l.length - m) (c - m) false, inferInstance, hel _ _, ?_⟩
        have hc : cutAt o m c inf.size = o + m * q := by unfold cutAt; rw [if_neg hcm, h3]
        simp [exL, ha, hb, slc, h1, h2, bnds, bnd, intOf?, hmi, hmc, hc]
    · obtain ⟨rfl, rfl⟩ := g4 rfl
      have hc : capOk P H e i l.length 0 = true := by
        have : 0 + l.length * q ≤ cs.length := g2
        simp [capOk, g1', h2, h3, hq]; omega
      by_cases hlt : m < l.length ∨ m = 0
      · refine .inl ⟨.sl i (0 + m * q) (l.length - m) (0 + m) true, inferInstance, hel _ _, ?_⟩
        simp [exL, ha, hb, slc, h1, h2, hc, ubnds, bnds, bnd, intOf?, hmi, h3, hlt]
      · have hml : m = l.length := by omega
        subst hml
        have hnil : l.drop l.length = [] := List.drop_of_length_le (Nat.le_refl _)
        rw [hnil]
        refine .inr ⟨.sl i 0 0 0 false, .sl i (0 + l.length * inf.size) 0 (0 + l.length) true, by simp [tailOf, h1, ha, hb, hc, h2, intOf?], inferInstance, inferInstance, ?_, ?_⟩
        · exact .inr ⟨i, 0, 0, false, cs, e, true, rfl, g1, by simp, by simp⟩
        · exact .inr ⟨i, 0 + l.length * inf.size, 0 + l.length, true, cs, e, true, rfl, g1, by simp [h3]; omega, by simp⟩
end
section
variable {P : Program} {ops : Array Oper} {d : Option Tmp} {ty : TypeId} {pos : String} {aft : Array Edge} {gd : Option (Nat × Bool)} {rest : List Oper} {N : Fr → Hp → Prop} {fl : List AV} {ds : List Dq} {Y : Hp} {t e : TypeId} {a b : Operand} {α : Type} {enc : α → List AV} {q : Nat} {z : AV} {l : List α} {m : Nat} {h0 : Hp} {X : OrdX} {pd : List (Nat × Nat)} {gone : List Nat} {ii : Nat}
theorem t_hiQ (d0 : α) (hk : ∀ z', SlC z' → EL α enc q d0 h0 z' (l.take m) → wkX P ops X pd N (Fr.put ⟨fl, ds⟩ d z') Y) (hq : 0 < q) (hE : EncOk enc q) (hu : CS P t e q) (hO : Own enc q e h0 z l) (hm : m ≤ l.length) (hx : Ext h0 Y)
    (hw : wantA ops ⟨fl, ds⟩ ⟨d, .slice t a none (some b) none, ty, pos, aft, gd⟩ = true := by rfl) (ha : evS fl a = some z := by rfl) (hb : evS fl b = some (.v (.int .i64 m)) := by rfl) (hrd : readsOf ⟨fl, ds⟩ (.slice t a none (some b) none) = [] := by rfl) : wkX P ops (.light ⟨d, .slice t a none (some b) none, ty, pos, aft, gd⟩ ii X) pd N ⟨fl, ds⟩ Y := by
  obtain ⟨z', h1, h2, h3⟩ := slcq_hi hq hE hu.p hO hx hm (f := ⟨fl, ds⟩) (e_any ha) (e_any hb)
  exact t_gL hw h3 (hk z' h1 (mkEL hE d0 h2)) hrd
theorem u_hiQ (d0 : α) (hk : ∀ z', SlC z' → EL α enc q d0 h0 z' (l.take m) → wkX P ops X pd N (Fr.put ⟨fl, ds⟩ d z') Y) (hq : 0 < q) (hE : EncOk enc q) (hu : CS P t e q) (hO : Own enc q e h0 z l) (hm : m ≤ l.length) (hx : Ext h0 Y)
    (hw : wantA ops ⟨fl, ds⟩ ⟨d, .slice t a none (some b) none, ty, pos, aft, gd⟩ = true := by rfl) (ha : evS fl a = some z := by rfl) (hb : evS fl b = some (.v (.int .i64 m)) := by rfl) : wkX P ops (.alt ⟨d, .slice t a none (some b) none, ty, pos, aft, gd⟩ ii gone X .no) pd N ⟨fl, ds⟩ Y := by
  obtain ⟨z', h1, h2, h3⟩ := slcq_hi hq hE hu.p hO hx hm (f := ⟨fl, ds⟩) (e_any ha) (e_any hb)
  exact u_gL hw h3 (hk z' h1 (mkEL hE d0 h2))
theorem u_loQ (d0 : α) (hk : ∀ z', SlC z' → EL α enc q d0 h0 z' (l.drop m) → wkX P ops X pd N (Fr.put ⟨fl, ds⟩ d z') Y) (hq : 0 < q) (hE : EncOk enc q) (hu : CS P t e q) (hO : Own enc q e h0 z l) (hm : m ≤ l.length) (hx : Ext h0 Y)
    (hw : wantA ops ⟨fl, ds⟩ ⟨d, .slice t a (some b) none none, ty, pos, aft, gd⟩ = true := by rfl) (ha : evS fl a = some z := by rfl) (hb : evS fl b = some (.v (.int .i64 m)) := by rfl) : wkX P ops (.alt ⟨d, .slice t a (some b) none none, ty, pos, aft, gd⟩ ii gone X .no) pd N ⟨fl, ds⟩ Y := by
  rcases slcq_lo hq hE hu.p hO hx hm (f := ⟨fl, ds⟩) (e_any ha) (e_any hb) with ⟨z', h1, h2, h3⟩ | ⟨r1, r2, h0, p1, p2, h2, h3⟩
  · exact u_gL hw h3 (hk z' h1 (mkEL hE d0 h2))
  · refine ⟨?_, trivial⟩
    rw [if_pos hw]
    exact .inr (.inr (.inr (.inr (.inl ⟨r1, r2, h0, ⟨stayG_same pd, hk _ p1 (mkEL hE d0 h2)⟩, ⟨stayG_same pd, hk _ p2 (mkEL hE d0 h3)⟩⟩))))
end
end Go.Az
/-
  Deferred calls, panics and 'recover' over abstract memory. Conditions: stated at each theorem.
-/
set_option linter.unusedSimpArgs false
set_option linter.unusedVariables false
namespace Go.Az
open Go Go.Chz Go.RowKit

/-- A value that names no number, in the model. -/
def AV.raw (a : AV) : Value := a.real fun _ => ⟨0, 0, 0⟩
theorem raw_real {a : AV} (hs : a.sc 0 = true) (ρ : Nat → Place) : a.real ρ = a.raw := real_agree (n := 0) (fun i hi => absurd hi (Nat.not_lt_zero i)) a hs
/-- The chain of one panic. -/
def chn (x : AV) : List PanicEntry := [{ v := x.raw, recovered := false }]
/-- .. and when it was recovered. -/
def chnR (x : AV) : List PanicEntry := [{ v := x.raw, recovered := true }]

def deferOf (f : Fr) (op : Op) : Option (FuncId × List AV) :=
  match op with
  | .defer c => match c.callee with
    | .value x => match ev f x with
      | .fn (.func g) cs => if c.args.size = 0 then some (g, cs) else none
      | _ => none
    | _ => none
  | _ => none
def tasOf (P : Program) (f : Fr) (op : Op) : Option AV :=
  match op with
  | .typeAssert x _ t true => match P.underlying t, ev f x with
    | some (.struct _), .ifc t' y => if t' = t then some (.tup [y, .v (.bool true)]) else none
    | _, _ => none
  | _ => none
def panicOf (f : Fr) (op : Op) : Option AV :=
  match op with
  | .panic x => match ev f x with
    | .ifc t y => if y.sc 0 = true then some (.ifc t y) else none
    | _ => none
  | _ => none

/-- What an ending must be, panics and all. -/
def PPost (P : Program) (ρ : Nat → Place) (h : Hp) (w : World) (N : AV → Hp → Prop) (PN : List PanicEntry → Hp → Prop) (e : Ending) (w' : World) : Prop :=
  Post P ρ h w N e w' ∨ ∃ ρ' ch h', e = .panicked ch ∧ h.length ≤ h'.length ∧ PN ch h' ∧ HRel P ρ' h' w' ∧ Stp h.length ρ h w ρ' h' w'
def PCalls (P : Program) (g : FuncId) (args : List AV) (h : Hp) (N : AV → Hp → Prop) (PN : List PanicEntry → Hp → Prop) : Prop :=
  ∀ ρ w, HRel P ρ h w → AV.scs h.length args = true → Calls P g (AV.reals ρ args).toArray w (PPost P ρ h w N PN)
theorem PCalls.acalls {P : Program} {g : FuncId} {args : List AV} {h : Hp} {N : AV → Hp → Prop} (hc : PCalls P g args h N (fun _ _ => False)) : ACalls P g args h N :=
  fun ρ w H hs => (hc ρ w H hs).mono fun e w' hp => by
    rcases hp with hp | ⟨_, _, _, _, _, hf, _⟩
    · exact hp
    · exact hf.elim
theorem PCalls.mono {P : Program} {g : FuncId} {args : List AV} {h : Hp} {N N' : AV → Hp → Prop} {PN PN' : List PanicEntry → Hp → Prop} (hc : PCalls P g args h N PN) (hn : ∀ r h', h.length ≤ h'.length → N r h' → N' r h') (hp : ∀ c h', h.length ≤ h'.length → PN c h' → PN' c h') : PCalls P g args h N' PN' :=
  fun ρ w H hs => (hc ρ w H hs).mono fun e w' hq => by
    rcases hq with hq | ⟨ρ', ch, h', h1, h2, h3, h4, h5⟩
    · exact .inl (hq.mono fun r h' hl _ => hn r h' hl)
    · exact .inr ⟨ρ', ch, h', h1, h2, hp _ _ h2 h3, h4, h5⟩

/-- A plain region whose operations may defer, assert a type, panic. -/
def wkP (P : Program) (ops : Array Oper) : List Oper → (Exit → Fr → Hp → Prop) → Fr → Hp → Prop
  | [], K, f, h => K .normal f h
  | o :: r, K, f, h => if wantA ops f o = true then
      WOp P o f h (fun v h' => wkP P ops r K (f.put o.dst v) h') ∨
      (∃ v, tasOf P f o.op = some v ∧ wkP P ops r K (f.put o.dst v) h) ∨
      (∃ g cs, deferOf f o.op = some (g, cs) ∧ wkP P ops r K (({ f with ds := .f g cs :: f.ds } : Fr).put o.dst (.v undef)) h) ∨
      (∃ x, panicOf f o.op = some x ∧ K (.panic (chn x)) f h) ∨
      (∃ g args, callOf f o.op = some (g, args) ∧ okFn P g = true ∧ PCalls P g args h (fun v h' => wkP P ops r K (f.put o.dst v) h') (fun ch h' => K (.panic ch) f h'))
    else wkP P ops r K (f.put o.dst (.v undef)) h

section
variable {P : Program} {ρ : Nat → Place} {f : Fr} {h : Hp} {A : Act} {w : World} {m : Nat} {ro : Option Nat} {K : Exit → Fr → Hp → Prop}

theorem wkP_ok {ops : Array Oper} {K : Exit → Fr → Hp → Prop} {m : Nat} {ρ0 : Nat → Place} {h0 : Hp} {w0 : World} : ∀ (l : List Oper) (k : Nat) (f : Fr) (h : Hp) (A : Act) (w : World) (ρ : Nat → Place),
    (∀ (i : Nat) (o : Oper), l[i]? = some o → ops[k + i]? = some o) → Rel P ρ f h A w → wkP P ops l K f h → m ≤ h.length → Stp m ρ0 h0 w0 ρ h w →
    wpOpsIn (Wd none) 0 P ops (AQ P m ρ0 h0 w0 K) (List.range' k l.length) A w
  | [], k, f, h, A, w, ρ, _, R, hk, hm, S => ⟨ρ, f, h, hk, R, S, hm⟩
  | o :: r, k, f, h, A, w, ρ, hl, R, hk, hm, S => by
    have ho := hl 0 o rfl
    have hr : ∀ (i : Nat) (o' : Oper), r[i]? = some o' → ops[k + 1 + i]? = some o' := fun i o' hi => by
      have := hl (i + 1) o' (by simpa using hi)
      rwa [show k + (i + 1) = k + 1 + i by omega] at this
    simp only [List.length_cons, List.range'_succ, wpOpsIn]
    simp only [Nat.add_zero] at ho
    simp only [ho]
    rw [wantA_real R.tmps]
    simp only [wkP] at hk
    have go : ∀ {ρ' v h' w'}, wkP P ops r K (f.put o.dst v) h' → Rel P ρ' (f.put o.dst v) h' (A.put o.dst (v.real ρ')) w' → h.length ≤ h'.length → Stp h.length ρ h w ρ' h' w' → wpOpsIn (Wd none) 0 P ops (AQ P m ρ0 h0 w0 K) (List.range' (k + 1) r.length) (A.put o.dst (v.real ρ')) w' :=
      fun hk' R' hl' S' => wkP_ok r (k + 1) _ _ _ _ _ hr R' hk' (Nat.le_trans hm hl') (S.trans S' hm)
    split
    · rename_i hw
      rw [if_pos hw] at hk
      rcases hk with hk | ⟨v, ht, hk⟩ | ⟨g, cs, ht, hk⟩ | ⟨x, ht, hk⟩ | ⟨g, args, hc, hg, hcall⟩
      · exact wop_ok R hk fun ρ' v h' w' hn R' H' hl' S' => go hn R' hl' S'
      · refine ⟨fun _ _ => trivial, ?_⟩
        unfold tasOf at ht
        split at ht <;> first | (cases ht; done) | skip
        rename_i x xt t hop
        split at ht <;> first | (cases ht; done) | skip
        rename_i st t' y hu hx
        simp only [Option.ite_none_right_eq_some, Option.some.injEq] at ht
        obtain ⟨rfl, rfl⟩ := ht
        have hsx := ev_sc R.tsc x
        rw [hx] at hsx
        rw [semAt_Wd o (by intro c' e; rw [hop] at e; cases e)]
        have hex : (execOp A.eval o).run P w = .ok (.value ((AV.tup [y, .v (.bool true)]).real ρ)) w := by
          unfold execOp
          simp only [hop, ev_real R.tmps, hx, AV.real, Instr.typeAssert, Sem.run_bind, run_underlying hu w, Result.andThen_ok, Sem.run_pure, if_true, AV.reals]
        rw [hex]
        refine go hk (R.put o.dst ?_) (Nat.le_refl _) (Stp.refl _ _ _ _)
        simp only [AV.sc, AV.scs, Bool.and_true]
        exact hsx
      · refine ⟨fun _ _ => trivial, ?_⟩
        unfold deferOf at ht
        split at ht <;> first | (cases ht; done) | skip
        rename_i c hop
        split at ht <;> first | (cases ht; done) | skip
        rename_i x hx
        split at ht <;> first | (cases ht; done) | skip
        rename_i g' cs' hev
        simp only [Option.ite_none_right_eq_some, Option.some.injEq, Prod.mk.injEq] at ht
        obtain ⟨h0', rfl, rfl⟩ := ht
        have hsx := ev_sc R.tsc x
        rw [hev] at hsx
        have ea : c.args = #[] := by simpa using h0'
        have hex : (o.semAt (Wd none).round A.eval).run P w = .ok (.defer ((Dq.f g' cs').real ρ)) w := by
          show (execOp A.eval o).run P w = _
          unfold execOp
          simp only [hop, resolve, hx, ev_real R.tmps, hev, AV.real, Deferred.ofValue, Sem.run_bind, Sem.run_pure, Result.andThen_ok, Dq.real, ea]
          simp
        rw [hex]
        have R' : Rel P ρ ({ f with ds := .f g' cs' :: f.ds } : Fr) h { A with defers := (Dq.f g' cs').real ρ :: A.defers } w :=
          ⟨R.tmps, R.tsc, by simp only [List.map_cons, R.defers], fun d hd => by
            rcases List.mem_cons.1 hd with rfl | hd
            · exact hsx
            · exact R.dsc d hd, R.heap⟩
        exact wkP_ok r (k + 1) _ _ _ _ _ hr (R'.put (v := .v undef) o.dst rfl) hk hm S
      · refine ⟨fun _ _ => trivial, ?_⟩
        unfold panicOf at ht
        split at ht <;> first | (cases ht; done) | skip
        rename_i x' hop
        split at ht <;> first | (cases ht; done) | skip
        rename_i t y hev
        simp only [Option.ite_none_right_eq_some, Option.some.injEq] at ht
        obtain ⟨hs, rfl⟩ := ht
        have hex : (o.semAt (Wd none).round A.eval).run P w = .halt (.panic (AV.ifc t y).raw) w := by
          rw [semAt_Wd o (by intro c' e; rw [hop] at e; cases e)]
          unfold execOp
          simp only [hop, ev_real R.tmps, hev]
          rw [raw_real (a := .ifc t y) hs]
          simp only [AV.raw, AV.real, Instr.panic]
          rfl
        rw [hex]
        exact ⟨ρ, f, h, hk, R, S, hm⟩
      · refine ⟨fun _ _ => trivial, ?_⟩
        unfold callOf at hc
        split at hc <;> first | (cases hc; done) | skip
        rename_i c hop
        split at hc <;> first | (cases hc; done) | skip
        rename_i x hx
        split at hc <;> first | (cases hc; done) | skip
        rename_i g' cs hev
        simp only [Option.some.injEq, Prod.mk.injEq] at hc
        obtain ⟨rfl, rfl⟩ := hc
        have hsx := ev_sc R.tsc x
        rw [hev] at hsx
        have hex : (execOp A.eval o).run P w = .ok (.enter g' (AV.reals ρ (c.args.toList.map (ev f) ++ cs)).toArray) w := by
          unfold execOp
          simp only [hop, resolve, hx, ev_real R.tmps, hev, AV.real, Deferred.ofValue, Sem.run_bind, Sem.run_pure, Result.andThen_ok, invoke, map_real R.tmps, Array.empty_append]
          rw [reals_append]
          simp only [← List.append_toArray]
          exact run_callFunc hg _ _
        rw [semAt_Wd o (by intro c' e; rw [hop] at e; cases e), hex]
        refine ⟨fun h => (by cases h), callsIn_Wd ((hcall ρ w R.heap (scs_append (scs_map R.tsc _) hsx)).mono fun e w' hp => ?_)⟩
        rcases hp with ⟨ρ', r', h', rfl, hs, hl', hn, hh, st⟩ | ⟨ρ', ch, h', rfl, hl', hn, hh, st⟩
        · exact go hn ((R.later hh st hl').put o.dst hs) hl' st
        · exact ⟨ρ', f, h', hn, R.later hh st hl', S.trans st hm, Nat.le_trans hm hl'⟩
    · rename_i hw
      rw [if_neg hw] at hk
      exact ⟨fun _ _ => trivial, wkP_ok r (k + 1) _ _ _ _ _ hr (R.put (v := .v undef) o.dst rfl) hk hm S⟩
theorem aw_regP {id : Nat} {l : List Oper} (hk : wkP P l.toArray l K f h) : AW P m none (.region id l.toArray false) K f h := by
  intro hro hm ρ A w R
  refine wpIn_region ?_
  have := wkP_ok (m := m) l 0 f h A w ρ (fun i o hi => by simpa using hi) R hk hm (Stp.refl _ _ _ _)
  rw [← List.range_eq_range', show l.length = l.toArray.size by simp] at this
  exact this
theorem s_regP {id : Nat} {l : List Oper} (hk : wkP P l.toArray l K f h) : wk P m none (.region id l.toArray false) K f h := .inr (aw_regP hk)

/-! ### Leaving -/
def DCalls (P : Program) (g : FuncId) (cs : List AV) (h : Hp) (u : FrameMode) (N : FrameMode → Hp → Prop) : Prop :=
  ∀ ρ w, HRel P ρ h w → AV.scs h.length cs = true → CallsDIn (Wd none) 0 P g (AV.reals ρ cs).toArray u w fun e u' w' => ∃ ρ' v h', e = .returned v ∧ h.length ≤ h'.length ∧ N u' h' ∧ HRel P ρ' h' w' ∧ Stp h.length ρ h w ρ' h' w'
def LvA (P : Program) (fn : Func) (N : AV → Hp → Prop) (PN : List PanicEntry → Hp → Prop) : List Dq → FrameMode → Fr → Hp → Prop
  | [], .returning, f, h => ∃ r, resA P fn f h = some r ∧ N r h
  | [], .panicking ch, _, h => PN ch h
  | [], .run, _, _ => False
  | .m d :: r, u, f, h => u ≠ .run ∧ h[d]? = some .dfr ∧ LvA P fn N PN r u f (h.set d .gone)
  | .f g cs :: r, u, f, h => u ≠ .run ∧ okFn P g = true ∧ DCalls P g cs h u (fun u' h' => LvA P fn N PN r (settle u') f h')
theorem lv_ok {fn : Func} {N : AV → Hp → Prop} {PN : List PanicEntry → Hp → Prop} {ρ0 : Nat → Place} {h0 : Hp} {w0 : World} : ∀ (ds : List Dq) (u : FrameMode) (f : Fr) (h : Hp) (ρ : Nat → Place) (w : World),
    HRel P ρ h w → AV.scs h.length f.t = true → (∀ d ∈ ds, d.sc h.length = true) → h0.length ≤ h.length → Stp h0.length ρ0 h0 w0 ρ h w → LvA P fn N PN ds u f h →
    LeavesInM (Wd none) 0 P fn (AV.reals ρ f.t).toArray (PPost P ρ0 h0 w0 N PN) (ds.map (Dq.real ρ)) u w
  | [], .returning, f, h, ρ, w, H, hs, hd, hle, S, hk => by
    obtain ⟨r, hr, hn⟩ := hk
    have := run_resA (f := f) (tm := (AV.reals ρ f.t).toArray) (fn := fn) H rfl hs hr
    exact ⟨_, this.1, .inl ⟨ρ, r, h, rfl, this.2, hle, hn, H, S⟩⟩
  | [], .panicking ch, f, h, ρ, w, H, hs, hd, hle, S, hk => .inr ⟨ρ, ch, h, rfl, hle, hk, H, S⟩
  | [], .run, f, h, ρ, w, H, hs, hd, hle, S, hk => hk.elim
  | .m d :: r, u, f, h, ρ, w, H, hs, hd, hle, S, hk => by
    obtain ⟨hu, hi, hk⟩ := hk
    have hg : w.heap[(ρ d).b]? = some (.deferred (some [])) := H.obj d _ hi
    have hget : (getObj (ρ d).b).run P w = .ok (.deferred (some [])) w := by simp only [getObj, Sem.run, hg]
    have hset := run_setObj (P := P) (w := w) (o' := .deferred none) hg (by intro _ _ _ h; cases h)
    have hp := H.setObj (ob := .deferred none) hi rfl (o := .gone) rfl trivial
    refine ⟨hu, .inl ⟨(ρ d).b, _, rfl, ?_, lv_ok r u f _ ρ _ hp.1 (by simpa using hs) (fun d hd' => by simpa using hd d (List.mem_cons_of_mem _ hd')) (by simpa using hle) (S.trans hp.2 hle) hk⟩⟩
    simp only [Instr.takeDeferred, Sem.run_bind, hget, Result.andThen_ok, hset, Sem.run_pure]
  | .f g cs :: r, u, f, h, ρ, w, H, hs, hd, hle, S, hk => by
    obtain ⟨hu, hg, hk⟩ := hk
    have hcs : AV.scs h.length cs = true := hd _ List.mem_cons_self
    refine ⟨hu, .inr ⟨fun h => (by cases h), .func g, (AV.reals ρ cs).toArray, g, (AV.reals ρ cs).toArray, rfl, ?_, fun _ _ => trivial, (hk ρ w H hcs).mono fun e u' w' hq => ?_⟩⟩
    · simp only [Dq.real, invoke]
      have := run_callFunc hg (#[] ++ (AV.reals ρ cs).toArray) w
      simpa using this
    · obtain ⟨ρ', v, h', rfl, hl, hn, H', S'⟩ := hq
      have e1 : AV.reals ρ' f.t = AV.reals ρ f.t := reals_agree S'.same _ hs
      have e2 : r.map (Dq.real ρ') = r.map (Dq.real ρ) := List.map_congr_left fun d hd' => Dq.agree S'.same d (hd d (List.mem_cons_of_mem _ hd'))
      have := lv_ok r (settle u') f h' ρ' w' H' (scs_mono hl _ hs) (fun d hd' => Dq.mono hl d (hd d (List.mem_cons_of_mem _ hd'))) (Nat.le_trans hle hl) (S.trans S' hle) hn
      rw [e1, e2] at this
      exact this
def RKP (P : Program) (fn : Func) (N : AV → Hp → Prop) (PN : List PanicEntry → Hp → Prop) : Exit → Fr → Hp → Prop
  | .normal, f, h => LvA P fn N PN f.ds .returning f h
  | .ret, f, h => LvA P fn N PN f.ds .returning f h
  | .panic ch, f, h => LvA P fn N PN f.ds (.panicking ch) f h
  | _, _, _ => False
theorem rel_enter {fn : Func} {args : List AV} (H : HRel P ρ h w) (hs : AV.scs h.length args = true) : Rel P ρ ⟨args ++ List.replicate (fn.ntmps - args.length) (.v undef), []⟩ h { tmps := (AV.reals ρ args).toArray ++ Array.replicate (fn.ntmps - (AV.reals ρ args).toArray.size) undef, defers := [] } w := by
  have hsr : AV.scs h.length (List.replicate (fn.ntmps - args.length) (AV.v undef)) = true := (scs_iff _ _).2 fun a ha => by rw [List.eq_of_mem_replicate ha]; rfl
  have hA : ((AV.reals ρ args).toArray ++ Array.replicate (fn.ntmps - (AV.reals ρ args).toArray.size) undef) = (AV.reals ρ (args ++ List.replicate (fn.ntmps - args.length) (.v undef))).toArray := by
    apply Array.ext'
    simp [reals_eq, AV.real]
  exact ⟨hA, scs_append hs hsr, rfl, fun d hd => (by cases hd), H⟩
theorem pcalls_of_aw {g : FuncId} {fn : Func} {c : Code} {args : List AV} {N : AV → Hp → Prop} {PN : List PanicEntry → Hp → Prop} (hf : P.funcs[g]? = some fn) (hb : fn.body = some c)
    (hk : AW P h.length none c (RKP P fn N PN) ⟨args ++ List.replicate (fn.ntmps - args.length) (.v undef), []⟩ h) : PCalls P g args h N PN := by
  intro ρ w H hs
  refine calls_of_Wd (n := 0) (callsIn_of_wp_marks hf hb trivial ?_)
  have := hk (fun i hi => by cases hi) (Nat.le_refl _) ρ _ w (rel_enter H hs)
  refine wpIn_mono this fun e A' w' hq => ?_
  have key : ∀ {u ρ' f' h'}, LvA P fn N PN f'.ds u f' h' → Rel P ρ' f' h' A' w' → Stp h.length ρ h w ρ' h' w' → h.length ≤ h'.length →
      LeavesInM (Wd none) 0 P fn A'.tmps (PPost P ρ h w N PN) A'.defers u w' := by
    intro u ρ' f' h' hl R' S hle
    rw [R'.defers, R'.tmps]
    exact lv_ok _ _ _ _ _ _ R'.heap R'.tsc R'.dsc hle S hl
  cases e with
  | normal => obtain ⟨ρ', f', h', hk', R', S, hl⟩ := hq; exact key hk' R' S hl
  | ret => obtain ⟨ρ', f', h', hk', R', S, hl⟩ := hq; exact key hk' R' S hl
  | panic c => obtain ⟨ρ', f', h', hk', R', S, hl⟩ := hq; exact key hk' R' S hl
  | exit id => obtain ⟨ρ', f', h', hk', R', S, hl⟩ := hq; exact hk'.elim
  | goto l => obtain ⟨ρ', f', h', hk', R', S, hl⟩ := hq; exact hk'.elim
  | outgrown => exact hq.elim
theorem pcalls_of_wk (hm : P.follows .mixedOrders = true) {g : FuncId} {fn : Func} {c : Code} {args : List AV} {N : AV → Hp → Prop} {PN : List PanicEntry → Hp → Prop} (hf : P.funcs[g]? = some fn) (hb : fn.body = some c)
    (hk : wk P h.length none c (RKP P fn N PN) ⟨args ++ List.replicate (fn.ntmps - args.length) (.v undef), []⟩ h) : PCalls P g args h N PN := pcalls_of_aw hf hb (wk_ok hm _ _ _ _ hk)

/-! ### A function that is entered as a deferred call -/
def DK (P : Program) (fn : Func) (N : FrameMode → Hp → Prop) (u : FrameMode) : Exit → Fr → Hp → Prop
  | .normal, f, h => f.ds = [] ∧ (∃ r, resA P fn f h = some r) ∧ N u h
  | .ret, f, h => f.ds = [] ∧ (∃ r, resA P fn f h = some r) ∧ N u h
  | _, _, _ => False
theorem dcalls_of_wk (hm : P.follows .mixedOrders = true) {g : FuncId} {fn : Func} {c : Code} {args : List AV} {N : FrameMode → Hp → Prop} {u : FrameMode} (hf : P.funcs[g]? = some fn) (hb : fn.body = some c)
    (hk : wk P h.length none c (DK P fn N u) ⟨args ++ List.replicate (fn.ntmps - args.length) (.v undef), []⟩ h) : DCalls P g args h u N := by
  intro ρ w H hs
  have h1 : CallsDIn (Wd none) 0 P g (AV.reals ρ args).toArray u w fun e u' w' => u' = u ∧ ∃ ρ' v h', e = .returned v ∧ h.length ≤ h'.length ∧ N u h' ∧ HRel P ρ' h' w' ∧ Stp h.length ρ h w ρ' h' w' := by
    refine callsDIn_of_wp hf hb trivial ?_
    have := wk_ok hm _ _ _ _ hk (fun i hi => by cases hi) (Nat.le_refl _) ρ _ w (rel_enter H hs)
    refine wpIn_mono this fun e A' w' hq => ?_
    have key : ∀ {ρ' f' h'}, (f'.ds = [] ∧ (∃ r, resA P fn f' h' = some r) ∧ N u h') → Rel P ρ' f' h' A' w' → Stp h.length ρ h w ρ' h' w' → h.length ≤ h'.length →
        A'.defers = [] ∧ ∃ v, (results fn A'.tmps).run P w' = .ok v w' ∧ ∃ ρ' v' h', Ending.returned v = .returned v' ∧ h.length ≤ h'.length ∧ N u h' ∧ HRel P ρ' h' w' ∧ Stp h.length ρ h w ρ' h' w' := by
      rintro ρ' f' h' ⟨hd, ⟨r, hr⟩, hn⟩ R' S hle
      refine ⟨by rw [R'.defers, hd]; rfl, _, (run_resA (f := f') (fn := fn) R'.heap R'.tmps R'.tsc hr).1, ρ', _, h', rfl, hle, hn, R'.heap, S⟩
    cases e with
    | normal => obtain ⟨ρ', f', h', hk', R', S, hl⟩ := hq; exact key hk' R' S hl
    | ret => obtain ⟨ρ', f', h', hk', R', S, hl⟩ := hq; exact key hk' R' S hl
    | panic c => obtain ⟨ρ', f', h', hk', R', S, hl⟩ := hq; exact hk'.elim
    | exit id => obtain ⟨ρ', f', h', hk', R', S, hl⟩ := hq; exact hk'.elim
    | goto l => obtain ⟨ρ', f', h', hk', R', S, hl⟩ := hq; exact hk'.elim
    | outgrown => exact hq.elim
  refine h1.mono fun e u' w' hq => ?_
  obtain ⟨rfl, hq⟩ := hq
  exact hq
/-- .. that recovers first. -/
theorem dcalls_rec (hm : P.follows .mixedOrders = true) {g : FuncId} {fn : Func} {id : Nat} {d0 d1 : Tmp} {ty ty' : TypeId} {pos pos' : String} {aft aft' : Array Edge} {rest : Code} {args : List AV} {N : FrameMode → Hp → Prop} {u u' : FrameMode} (y : AV)
    (hf : P.funcs[g]? = some fn) (hb : fn.body = some (.seq (.region id #[⟨some d0, .call { callee := .builtin .recover, args := #[], argTypes := #[] }, ty, pos, aft, none⟩, ⟨some d1, .assign (.tmp d0), ty', pos', aft', none⟩] false) rest))
    (hy : y.sc 0 = true) (hrec : ∀ (c₀ : Frame) (cs : List Frame), c₀.mode = u → (recoverD (c₀ :: cs) = some (y.raw, { c₀ with mode := u' } :: cs)) ∨ (recoverD (c₀ :: cs) = none ∧ y.raw = .nilIface ∧ u' = u))
    (f0 : Fr) (hf0 : f0 = ⟨args ++ List.replicate (fn.ntmps - args.length) (.v undef), []⟩)
    (hk : wk P h.length none rest (DK P fn N u') ((f0.put (some d0) y).put (some d1) (ev (f0.put (some d0) y) (.tmp d0))) h) : DCalls P g args h u N := by
  intro ρ w H hs
  subst hf0
  refine callsDIn_of_wpSIn hf hb trivial fun c₀ cs hc => ?_
  have R := rel_enter (fn := fn) H hs
  have R1 := R.put (v := y) (some d0) (sc_mono (Nat.zero_le _) y hy)
  have R2 := R1.put (v := ev ((⟨args ++ List.replicate (fn.ntmps - args.length) (.v undef), []⟩ : Fr).put (some d0) y) (.tmp d0)) (some d1) (ev_sc R1.tsc _)
  have hmain := wk_ok hm _ _ _ _ hk (fun i hi => by cases hi) (Nat.le_refl _) ρ _ w R2
  have hrest : rest.wpSIn (Wd none) 0 P (bodyPostS P fn c₀ cs fun e u' w' => ∃ ρ' v h', e = .returned v ∧ h.length ≤ h'.length ∧ N u' h' ∧ HRel P ρ' h' w' ∧ Stp h.length ρ h w ρ' h' w')
      ((({ tmps := (AV.reals ρ args).toArray ++ Array.replicate (fn.ntmps - (AV.reals ρ args).toArray.size) undef, defers := [] } : Act).put (some d0) (y.real ρ)).put (some d1) ((ev ((⟨args ++ List.replicate (fn.ntmps - args.length) (.v undef), []⟩ : Fr).put (some d0) y) (.tmp d0)).real ρ)) ({ c₀ with mode := u' } :: cs) w := by
    refine wpSIn_of_wpIn rfl (wpIn_mono hmain fun e A' w' hq => ?_)
    have key : ∀ {ρ' f' h'}, (f'.ds = [] ∧ (∃ r, resA P fn f' h' = some r) ∧ N u' h') → Rel P ρ' f' h' A' w' → Stp h.length ρ h w ρ' h' w' → h.length ≤ h'.length →
        A'.defers = [] ∧ ∃ u₁, ({ c₀ with mode := u' } :: cs) = ({ c₀ with mode := u₁ } :: cs) ∧ ∃ v, (results fn A'.tmps).run P w' = .ok v w' ∧ ∃ ρ' v' h', Ending.returned v = .returned v' ∧ h.length ≤ h'.length ∧ N u₁ h' ∧ HRel P ρ' h' w' ∧ Stp h.length ρ h w ρ' h' w' := by
      rintro ρ' f' h' ⟨hd, ⟨r, hr⟩, hn⟩ R' S hle
      refine ⟨by rw [R'.defers, hd]; rfl, u', rfl, _, (run_resA (f := f') (fn := fn) R'.heap R'.tmps R'.tsc hr).1, ρ', _, h', rfl, hle, hn, R'.heap, S⟩
    cases e with
    | normal => obtain ⟨ρ', f', h', hk', R', S, hl⟩ := hq; exact key hk' R' S hl
    | ret => obtain ⟨ρ', f', h', hk', R', S, hl⟩ := hq; exact key hk' R' S hl
    | panic c => obtain ⟨ρ', f', h', hk', R', S, hl⟩ := hq; exact hk'.elim
    | exit id => obtain ⟨ρ', f', h', hk', R', S, hl⟩ := hq; exact hk'.elim
    | goto l => obtain ⟨ρ', f', h', hk', R', S, hl⟩ := hq; exact hk'.elim
    | outgrown => exact hq.elim
  refine wpSIn_seq (wpSIn_region ?_)
  have e1 : ∀ A : Act, (execOp A.eval ⟨some d0, .call { callee := .builtin .recover, args := #[], argTypes := #[] }, ty, pos, aft, none⟩).run P w = .ok .recover w := by
    intro A
    rfl
  have e2 : ∀ A : Act, (execOp A.eval ⟨some d1, .assign (.tmp d0), ty', pos', aft', none⟩).run P w = .ok (.value (A.eval (.tmp d0))) w := fun A => rfl
  have hw : ∀ (d : Option Tmp) (op : Op) (t : TypeId) (p : String) (a : Array Edge) (ys : Nat → Option Bool), Region.wanted ⟨d, op, t, p, a, none⟩ ys = true := fun _ _ _ _ _ _ => rfl
  have e3 := ev_real (ρ := ρ) R1.tmps (.tmp d0)
  show wpOpsSIn (Wd none) 0 P _ _ [0, 1] _ _ _
  simp only [wpOpsSIn, List.getElem?_toArray, List.getElem?_cons_zero, List.getElem?_cons_succ, hw, if_true, e1, e2]
  refine ⟨fun _ _ => trivial, ?_⟩
  rcases hrec c₀ cs hc with hr | ⟨hr, hyn, rfl⟩
  · rw [hr]
    refine ⟨fun _ _ => trivial, ?_⟩
    rw [← raw_real hy ρ, e3]
    exact hrest
  · rw [hr]
    refine ⟨fun _ _ => trivial, ?_⟩
    rw [← hyn, ← raw_real hy ρ, e3]
    have : ({ c₀ with mode := u' } : Frame) = c₀ := by subst hc; rfl
    rw [this] at hrest
    exact hrest

/-! ### Steps -/
theorem wkP_of_O {ops : Array Oper} : ∀ (pre rest : List Oper) (f : Fr) (h : Hp), wkO P ops pre (fun f h => wkP P ops rest K f h) f h → wkP P ops (pre ++ rest) K f h
  | [], rest, f, h, hk => hk
  | o :: r, rest, f, h, hk => by
    simp only [wkO] at hk
    simp only [List.cons_append, wkP]
    have hmono : ∀ {N N' : AV → Hp → Prop}, (∀ v h', N v h' → N' v h') → WOp P o f h N → WOp P o f h N' := by
      rintro N N' hn (⟨r, h1, h2⟩ | ⟨r, h', h1, h2⟩ | ⟨g, args, h1, h2, h3⟩ | ⟨i, args, h1, st, pe, tm, ps, asg, bd, d, h2, h3, h4⟩ | ⟨r1, r2, h1, h2, h3⟩ | ⟨t, name, args, g, h1, h2, h3, h4⟩)
      · exact .inl ⟨r, h1, hn _ _ h2⟩
      · exact .inr (.inl ⟨r, h', h1, hn _ _ h2⟩)
      · exact .inr (.inr (.inl ⟨g, args, h1, h2, h3.mono fun r h' _ hh => hn _ _ hh⟩))
      · exact .inr (.inr (.inr (.inl ⟨i, args, h1, st, pe, tm, ps, asg, bd, d, h2, h3, fun fn ρ w H hs => (h4 fn ρ w H hs).mono fun e w' hp => hp.mono fun r h' _ _ hh => hn _ _ hh⟩)))
      · exact .inr (.inr (.inr (.inr (.inl ⟨r1, r2, h1, hn _ _ h2, hn _ _ h3⟩))))
      · exact .inr (.inr (.inr (.inr (.inr ⟨t, name, args, g, h1, h2, h3, h4.mono fun r h' _ hh => hn _ _ hh⟩))))
    split
    · rename_i hw
      rw [if_pos hw] at hk
      exact .inl (hmono (fun v h' hh => wkP_of_O r rest _ h' hh) hk)
    · rename_i hw
      rw [if_neg hw] at hk
      exact wkP_of_O r rest _ h hk
theorem s_regPn (n : Nat) {id : Nat} {l pre rest : List Oper} (h1 : l.take n = pre) (h2 : l.drop n = rest) (hk : wkO P l.toArray pre (fun f h => wkP P l.toArray rest K f h) f h) : wk P m none (.region id l.toArray false) K f h := by
  refine s_regP ?_
  have := wkP_of_O (ops := l.toArray) pre rest f h hk
  rwa [← h1, ← h2, List.take_append_drop] at this
section
variable {ops : Array Oper} {d : Option Tmp} {op : Op} {ty : TypeId} {pos : String} {aft : Array Edge} {gd : Option (Nat × Bool)} {rest : List Oper} {l : List AV} {ds : List Dq}
theorem p_end (hk : K .normal f h) : wkP P ops [] K f h := hk
theorem p_def {g : FuncId} {cs : List AV} (hk : wkP P ops rest K (Fr.put ⟨l, .f g cs :: ds⟩ d (.v undef)) h) (hx : deferOf ⟨l, ds⟩ op = some (g, cs) := by rfl) (hw : wantA ops ⟨l, ds⟩ ⟨d, op, ty, pos, aft, gd⟩ = true := by rfl) : wkP P ops (⟨d, op, ty, pos, aft, gd⟩ :: rest) K ⟨l, ds⟩ h := by
  show (if _ then _ else _)
  rw [if_pos hw]
  exact .inr (.inr (.inl ⟨g, cs, hx, hk⟩))
theorem p_tas {N' : Fr → Hp → Prop} {v : AV} (hk : wkO P ops rest N' (Fr.put ⟨l, ds⟩ d v) h) (hN : N' = fun f h => K .normal f h) (hx : tasOf P ⟨l, ds⟩ op = some v := by rfl) (hw : wantA ops ⟨l, ds⟩ ⟨d, op, ty, pos, aft, gd⟩ = true := by rfl) : wkP P ops (⟨d, op, ty, pos, aft, gd⟩ :: rest) K ⟨l, ds⟩ h := by
  show (if _ then _ else _)
  rw [if_pos hw]
  refine .inr (.inl ⟨v, hx, ?_⟩)
  have := wkP_of_O (K := K) (ops := ops) rest [] _ h (by subst hN; exact hk)
  simpa using this
theorem p_panic {x : AV} (hk : K (.panic (chn x)) ⟨l, ds⟩ h) (hx : panicOf ⟨l, ds⟩ op = some x := by rfl) (hw : wantA ops ⟨l, ds⟩ ⟨d, op, ty, pos, aft, gd⟩ = true := by rfl) : wkP P ops (⟨d, op, ty, pos, aft, gd⟩ :: rest) K ⟨l, ds⟩ h := by
  show (if _ then _ else _)
  rw [if_pos hw]
  exact .inr (.inr (.inr (.inl ⟨x, hx, hk⟩)))
/-- A call that panics. -/
theorem p_call {g : FuncId} {args : List AV} {ch : List PanicEntry} (hc : PCalls P g args h (fun _ _ => False) (fun c h' => c = ch ∧ h' = h)) (hk : K (.panic ch) ⟨l, ds⟩ h) (hx : callOf ⟨l, ds⟩ op = some (g, args) := by rfl) (hg : CO P g := by infer_instance) (hw : wantA ops ⟨l, ds⟩ ⟨d, op, ty, pos, aft, gd⟩ = true := by rfl) : wkP P ops (⟨d, op, ty, pos, aft, gd⟩ :: rest) K ⟨l, ds⟩ h := by
  show (if _ then _ else _)
  rw [if_pos hw]
  refine .inr (.inr (.inr (.inr ⟨g, args, hx, hg.p, hc.mono (fun _ _ _ hf => hf.elim) fun c h' _ hh => ?_⟩)))
  obtain ⟨rfl, rfl⟩ := hh
  exact hk
end
section
variable {N : Fr → Hp → Prop} {ops : Array Oper} {d : Option Tmp} {ty : TypeId} {pos : String} {aft : Array Edge} {gd : Option (Nat × Bool)} {rest : List Oper} {l : List AV} {ds : List Dq} {a b c a4 a5 a6 : Operand}
theorem sfunc5 {fn : Fn} {v1 v2 v3 v4 v5 : AV} (hk : wkO P ops rest N (Fr.put ⟨l, ds⟩ d (.fn fn [v1, v2, v3, v4, v5])) (h)) (hw : wantA ops ⟨l, ds⟩ ⟨d, .makeFunc fn #[] #[a, b, c, a4, a5], ty, pos, aft, gd⟩ = true := by rfl) (ha : evS l a = some (v1) := by rfl) (hb : evS l b = some (v2) := by rfl) (hc : evS l c = some (v3) := by rfl) (hd : evS l a4 = some (v4) := by rfl) (he : evS l a5 = some (v5) := by rfl) : wkO P ops (⟨d, .makeFunc fn #[] #[a, b, c, a4, a5], ty, pos, aft, gd⟩ :: rest) N ⟨l, ds⟩ h := s_gL hw (x_func (by simp [e_any (ds := ds) ha, e_any (ds := ds) hb, e_any (ds := ds) hc, e_any (ds := ds) hd, e_any (ds := ds) he])) hk
theorem sfunc6 {fn : Fn} {v1 v2 v3 v4 v5 v6 : AV} (hk : wkO P ops rest N (Fr.put ⟨l, ds⟩ d (.fn fn [v1, v2, v3, v4, v5, v6])) (h)) (hw : wantA ops ⟨l, ds⟩ ⟨d, .makeFunc fn #[] #[a, b, c, a4, a5, a6], ty, pos, aft, gd⟩ = true := by rfl) (ha : evS l a = some (v1) := by rfl) (hb : evS l b = some (v2) := by rfl) (hc : evS l c = some (v3) := by rfl) (hd : evS l a4 = some (v4) := by rfl) (he : evS l a5 = some (v5) := by rfl) (hf : evS l a6 = some (v6) := by rfl) : wkO P ops (⟨d, .makeFunc fn #[] #[a, b, c, a4, a5, a6], ty, pos, aft, gd⟩ :: rest) N ⟨l, ds⟩ h := s_gL hw (x_func (by simp [e_any (ds := ds) ha, e_any (ds := ds) hb, e_any (ds := ds) hc, e_any (ds := ds) hd, e_any (ds := ds) he, e_any (ds := ds) hf])) hk
end
/-- A call through an interface value, in a drawn region. -/
theorem uInv {N : Fr → Hp → Prop} {ops : Array Oper} {d : Option Tmp} {ty : TypeId} {pos : String} {aft : Array Edge} {gd : Option (Nat × Bool)} {l : List AV} {ds : List Dq} {X : OrdX} {pd : List (Nat × Nat)} {ii : Nat} {gone : List Nat} {op : Op} {t : TypeId} {name : String} {args : List AV} {g : FuncId}
    (hm : ∀ v w, (method (P.types.size + Made.depth) t v name).run P w = .ok (g, v) w) (hc : ACalls P g args h (fun r' h' => stayG gone pd h h' ∧ wkX P ops X pd N (Fr.put ⟨l, ds⟩ d r') h')) (hw : wantA ops ⟨l, ds⟩ ⟨d, op, ty, pos, aft, gd⟩ = true := by rfl) (hx : invOf ⟨l, ds⟩ op = some (t, name, args) := by rfl) (hg : CO P g := by infer_instance) :
    wkX P ops (.alt ⟨d, op, ty, pos, aft, gd⟩ ii gone X .no) pd N ⟨l, ds⟩ h := by
  refine ⟨?_, trivial⟩
  rw [if_pos hw]; exact .inr (.inr (.inr (.inr (.inr ⟨t, name, args, g, hx, hm, hg.p, hc⟩))))
/-- A call that panics with a value that names nothing, in no memory: in any. -/
theorem PCalls.any {g : FuncId} {args : List AV} {ch : List PanicEntry} (hs : AV.scs 0 args = true) (hc : PCalls P g args [] (fun _ _ => False) (fun c _ => c = ch)) (h : Hp) : PCalls P g args h (fun _ _ => False) (fun c h' => c = ch ∧ h' = h) := by
  intro ρ w H _
  refine (hc ρ w (hrel_nil P ρ w) hs).mono fun e w' hp => ?_
  rcases hp with ⟨ρ', r, h', rfl, h2, h3, hf, _⟩ | ⟨ρ', c, h', rfl, h3, rfl, h5, h6⟩
  · exact hf.elim
  · have S : Stp h.length ρ h w ρ h w' := ⟨h6.os, h6.tape, h6.output, h6.size, fun b hb _ => h6.block b hb (fun i o hi => by simp at hi), fun i o hi ho => .inl ⟨i, o, hi, ho, rfl⟩, fun _ _ => rfl⟩
    exact .inr ⟨ρ, c, h, rfl, Nat.le_refl _, ⟨rfl, rfl⟩, H.other fun i o hi hl hlt => h6.block _ hlt (fun j o' hj => by simp at hj), S⟩
section
variable {fn : Func} {N : AV → Hp → Prop} {PN : List PanicEntry → Hp → Prop} {l : List AV} {ds : List Dq}
theorem resAll_t {f f' : Fr} (ht : f.t = f'.t) (h : Hp) : ∀ rs, resAll P f h rs = resAll P f' h rs
  | [] => rfl
  | r :: rs => by
    have : resOne P f h r = resOne P f' h r := by cases r <;> simp only [resOne, ht]
    simp only [resAll, this, resAll_t ht h rs]
theorem resA_t {f f' : Fr} (ht : f.t = f'.t) (h : Hp) : resA P fn f h = resA P fn f' h := by
  unfold resA
  rw [resAll_t ht]
theorem lv_end {u : FrameMode} (hu : u = .returning) (hk : RK P fn N .ret ⟨l, []⟩ h) : LvA P fn N PN [] u ⟨l, ds⟩ h := by
  subst hu
  obtain ⟨h', r, h1, h2, h3⟩ := hk
  simp only [dropAll, Option.some.injEq] at h1
  subst h1
  exact ⟨r, (resA_t (f := ⟨l, ds⟩) (f' := ⟨l, []⟩) rfl _).trans h2, h3⟩
/-- The way out past a deferred call. -/
theorem wP_f {g : FuncId} {cs : List AV} {u2 : FrameMode} {h2 : Hp} (hd : DCalls P g cs h .returning (fun u' h' => u' = u2 ∧ h' = h2)) (hs : settle u2 = .returning) (hk : RK P fn N .ret ⟨l, []⟩ h2) (hg : CO P g := by infer_instance) : RKP P fn N PN .ret ⟨l, [.f g cs]⟩ h := by
  refine ⟨by simp, hg.p, fun ρ w H hsc => (hd ρ w H hsc).mono fun e u' w' hp => ?_⟩
  obtain ⟨ρ', v, h', rfl, hl, ⟨rfl, rfl⟩, H', S'⟩ := hp
  exact ⟨ρ', v, h', rfl, hl, lv_end hs hk, H', S'⟩
theorem wP_p {g : FuncId} {cs : List AV} {ch : List PanicEntry} {u2 : FrameMode} {h2 : Hp} (hd : DCalls P g cs h (.panicking ch) (fun u' h' => u' = u2 ∧ h' = h2)) (hs : settle u2 = .returning) (hk : RK P fn N .ret ⟨l, []⟩ h2) (hg : CO P g := by infer_instance) : RKP P fn N PN (.panic ch) ⟨l, [.f g cs]⟩ h := by
  refine ⟨by simp, hg.p, fun ρ w H hsc => (hd ρ w H hsc).mono fun e u' w' hp => ?_⟩
  obtain ⟨ρ', v, h', rfl, hl, ⟨rfl, rfl⟩, H', S'⟩ := hp
  exact ⟨ρ', v, h', rfl, hl, lv_end hs hk, H', S'⟩
theorem w_5 {v1 v2 v3 v4 v5 : ResultVar} {r1 r2 r3 r4 r5 : AV} (hr : fn.results.toList = [v1, v2, v3, v4, v5]) (h1 : resOne P ⟨l, []⟩ h v1 = some r1) (h2 : resOne P ⟨l, []⟩ h v2 = some r2) (h3 : resOne P ⟨l, []⟩ h v3 = some r3) (h4 : resOne P ⟨l, []⟩ h v4 = some r4) (h5 : resOne P ⟨l, []⟩ h v5 = some r5) (hk : N (.tup [r1, r2, r3, r4, r5]) h) : RK P fn N .ret ⟨l, []⟩ h :=
  ⟨h, _, rfl, by simp only [resA, hr, resAll, h1, h2, h3, h4, h5], hk⟩
theorem wP_n (hk : RKP P fn N PN .ret f h) : RKP P fn N PN .normal f h := hk
theorem wP_0 (hk : RK P fn N .ret ⟨l, []⟩ h) : RKP P fn N PN .ret ⟨l, []⟩ h := lv_end rfl hk
theorem wP_pan {ch : List PanicEntry} (hk : PN ch h) : RKP P fn N PN (.panic ch) ⟨l, []⟩ h := hk
theorem wD_n {N : FrameMode → Hp → Prop} {u : FrameMode} (hk : DK P fn N u .ret f h) : DK P fn N u .normal f h := hk
theorem wD_0 {N : FrameMode → Hp → Prop} {u : FrameMode} (hr : fn.results.toList = []) (hk : N u h) : DK P fn N u .ret ⟨l, []⟩ h := ⟨rfl, ⟨.tup [], by simp only [resA, hr, resAll]⟩, hk⟩
end
end
end Go.Az
