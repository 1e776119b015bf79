/-
  Slices of any elements in an abstract memory, by what they hold; slices of the call's own, that are appended to and written; further operations by the values of their operands. Conditions: stated at each theorem.
-/
import Derived.Test.YthhbhekccacmlaaAzZD
set_option linter.unusedSimpArgs false
set_option linter.unusedVariables false
namespace Go.Az
open Go Go.Chz

/-! ### Further operations -/
def fadOf (P : Program) (s : TypeId) (k : Nat) : Option Nat := match P.underlying s with
  | some (.struct fs) => match fs[k]? with
    | some f => match P.info? f.type with
      | some inf => if inf.size = 0 then none else some f.offset
      | none => none
    | none => none
  | _ => none
def strTy (P : Program) (t : TypeId) : Bool := match P.underlying t with
  | some .string => true
  | _ => false
section
variable {P : Program} {f : Fr} {h : Hp} {a b c : Operand} {t t' tt : TypeId} {x y n : Int} {k k0 k1 : IntKind} {r v : AV} {i o m q off : Nat} {cs vs : List AV} {ow : Bool}
theorem x_fad {fl : Nat} (hf : fadOf P t fl = some off) (ha : ev f a = .ptr i o) : exL P f h (.fieldAddr t a fl) = some (.ptr i (o + off)) := by
  simp only [exL, ha, fad]
  unfold fadOf at hf
  split at hf <;> first | (cases hf; done) | skip
  rename_i fs hu
  simp only [hu]
  split at hf <;> first | (cases hf; done) | skip
  rename_i g hg
  simp only [hg]
  split at hf <;> first | (cases hf; done) | skip
  rename_i inf hi
  simp only [hi]
  split at hf
  · cases hf
  · rename_i h0; injection hf with hf; subst hf; rw [if_neg h0]
theorem x_nilP (ha : ev f a = .ptr i o) : exL P f h (.nilCheck a) = some (.ptr i o) := by simp only [exL, ha]
theorem x_nilF {g : FuncId} {l : List AV} (ha : ev f a = .fn (.func g) l) : exL P f h (.nilCheck a) = some (.fn (.func g) l) := by simp only [exL, ha]
theorem x_nilY (ha : ev f a = .yld i) : exL P f h (.nilCheck a) = some (.yld i) := by simp only [exL, ha]
theorem x_min {ts : Array TypeId} (ha : ev f a = .v (.int k x)) (hb : ev f b = .v (.int k1 y)) : exL P f h (.call ⟨.builtin .min, #[a, b], ts⟩) = some (.v (.int k (if y < x then y else x))) := by simp [exL, ha, hb, exB]
theorem x_max {ts : Array TypeId} (ha : ev f a = .v (.int k x)) (hb : ev f b = .v (.int k1 y)) : exL P f h (.call ⟨.builtin .max, #[a, b], ts⟩) = some (.v (.int k (if y > x then y else x))) := by simp [exL, ha, hb, exB]
theorem x_eqB {z z' : Bool} (hu : P.underlying t = some .bool) (ha : ev f a = .v (.bool z)) (hb : ev f b = .v (.bool z')) : exL P f h (.binOp .eql t a b t') = some (.v (.bool (z == z'))) := by simp [exL, ha, hb, bin, aeq, hu]
theorem x_neB {z z' : Bool} (hu : P.underlying t = some .bool) (ha : ev f a = .v (.bool z)) (hb : ev f b = .v (.bool z')) : exL P f h (.binOp .neq t a b t') = some (.v (.bool (!(z == z')))) := by simp [exL, ha, hb, bin, aeq, hu]
theorem x_bin {op : BinOp} {u w : AV} (ha : ev f a = u) (hb : ev f b = w) (hr : bin P op t u w = some r) : exL P f h (.binOp op t a b t') = some r := by simp only [exL, ha, hb, hr]
theorem x_una {op : UnOp} {u : AV} (ha : ev f a = u) (hr : una op u = some r) : exL P f h (.unOp op t a) = some r := by simp only [exL, ha, hr]
theorem x_idxG {u w : AV} (ha : ev f a = u) (hb : ev f b = w) (hr : idx P t u w = some r) : exL P f h (.index t a b) = some r := by simp only [exL, ha, hb, hr]
theorem x_fldG {u : AV} {fl : Nat} (ha : ev f a = u) (hr : fld P t u fl = some r) : exL P f h (.field t a fl) = some r := by simp only [exL, ha, hr]
theorem x_cnvG {u : AV} (ha : ev f a = u) (hr : cnv P h t t' u = some r) : exL P f h (.convert t t' a) = some r := by simp only [exL, ha, hr]
theorem x_mif {u : AV} (ha : ev f a = u) (hr : mif P t u = some r) : exL P f h (.makeInterface t a) = some r := by simp only [exL, ha, hr]
theorem x_convM (hs : P.underlying t = some (.int k1)) (hd : P.underlying t' = some (.int k)) (ha : ev f a = .v (.int k0 n)) : exL P f h (.convert t t' a) = some (.v (.int k (k.wrap n))) := by simp only [exL, ha, cnv, hs, hd]
end

/-! ### Strings -/
abbrev St (l : List UInt8) : AV := .v (.string (mkB l))
section
variable {P : Program} {f : Fr} {h : Hp} {a b c : Operand} {t t' tt : TypeId} {x y n : Int} {k k0 k1 : IntKind} {r v : AV} {l l2 : List UInt8}
theorem strTy_spec (h : strTy P t = true) : P.underlying t = some .string := by
  unfold strTy at h
  split at h
  · assumption
  · cases h
theorem leq_dec (a b : List UInt8) : leq a b = decide (a = b) := leq_iff a b
theorem x_eqS (ha : ev f a = St l) (hb : ev f b = St l2) : exL P f h (.binOp .eql t a b t') = some (.v (.bool (decide (l = l2)))) := by
  simp only [exL, ha, hb, bin, sbin, leq_dec]; rfl
theorem x_neS (ha : ev f a = St l) (hb : ev f b = St l2) : exL P f h (.binOp .neq t a b t') = some (.v (.bool (!decide (l = l2)))) := by
  simp only [exL, ha, hb, bin, sbin, leq_dec]; rfl
theorem x_addS (ha : ev f a = St l) (hb : ev f b = St l2) (hl : l.length + l2.length ≤ 9223372036854775807) : exL P f h (.binOp .add t a b t') = some (St (l ++ l2)) := by
  simp only [exL, ha, hb, bin, sbin]
  rw [if_pos (show (mkB l).data.toList.length + (mkB l2).data.toList.length ≤ _ from hl)]; rfl
theorem x_lenS (hu : strTy P t = true) (ha : ev f a = St l) : exL P f h (.call ⟨.builtin .len, #[a], #[t]⟩) = some (.v (.int .i64 l.length)) := by
  simp [exL, ha, exB, lenB, strTy_spec hu, mkB]
theorem x_idxStr (hu : strTy P t = true) (ha : ev f a = St l) (hb : ev f b = .v (.int k x)) (h0 : 0 ≤ x) (h1 : x < l.length) : exL P f h (.index t a b) = some (.v (.int .u8 ((l.getD x.toNat 0).toNat : Nat))) := by
  have h2 : x.toNat < l.length := by omega
  simp only [exL, ha, hb, idx, strTy_spec hu, intOf?, h0, if_true]
  show ((l[x.toNat]?).map _) = _
  rw [List.getElem?_eq_getElem h2, List.getD_eq_getElem?_getD, List.getElem?_eq_getElem h2]; rfl
theorem x_slcS (hu : strTy P t = true) (ha : ev f a = St l) (hb : ev f b = .v (.int k x)) (hc : ev f c = .v (.int k1 y)) (h0 : 0 ≤ x) (h1 : x ≤ y) (h2 : y ≤ l.length) : exL P f h (.slice t a (some b) (some c) none) = some (St ((l.take y.toNat).drop x.toNat)) := by
  simp only [exL, ha, slc, strTy_spec hu, Option.map_some, Option.map_none, hb, hc, bnds, bnd, intOf?]
  have e1 : (mkB l).data.toList.length = l.length := rfl
  simp only [e1]
  rw [if_pos ⟨by omega, h2⟩]
  simp only []
  rw [if_pos ⟨h0, by omega⟩]
  rfl
theorem x_slcLo (hu : strTy P t = true) (ha : ev f a = St l) (hb : ev f b = .v (.int k x)) (h0 : 0 ≤ x) (h2 : x ≤ l.length) : exL P f h (.slice t a (some b) none none) = some (St (l.drop x.toNat)) := by
  simp only [exL, ha, slc, strTy_spec hu, Option.map_some, Option.map_none, hb, bnds, bnd, intOf?]
  have e1 : (mkB l).data.toList.length = l.length := rfl
  simp only [e1]
  rw [if_pos ⟨by omega, h2⟩]
  simp only []
  have e2 : (mkB l).data.toList.take l.length = l := List.take_length
  rw [e2]
theorem x_slcHi (hu : strTy P t = true) (ha : ev f a = St l) (hc : ev f c = .v (.int k y)) (h1 : 0 ≤ y) (h2 : y ≤ l.length) : exL P f h (.slice t a none (some c) none) = some (St (l.take y.toNat)) := by
  simp only [exL, ha, slc, strTy_spec hu, Option.map_some, Option.map_none, hc, bnds, bnd, intOf?]
  have e1 : (mkB l).data.toList.length = l.length := rfl
  simp only [e1]
  rw [if_pos ⟨by omega, h2⟩]
  rfl
end

/-! ### Elements -/
def EncOk {α : Type} (enc : α → List AV) (q : Nat) : Prop := ∀ x, (enc x).length = q ∧ allOne (enc x) = true
def Elts {α : Type} (enc : α → List AV) (q : Nat) (h : Hp) (s : AV) (l : List α) : Prop :=
  (s = .v (.slice none 0 0) ∧ l = []) ∨ ∃ i o c u cs t own, s = .sl i o l.length c u ∧ h[i]? = some (.cells cs t own) ∧ o + l.length * q ≤ cs.length ∧ (cs.drop o).take (l.length * q) = l.flatMap enc
def encI (k : IntKind) (x : Int) : List AV := [.v (.int k x)]
theorem encI_ok (k : IntKind) : EncOk (encI k) 1 := fun x => ⟨rfl, rfl⟩
theorem encI_map (k : IntKind) (l : List Int) : l.flatMap (encI k) = l.map fun x => .v (.int k x) := by
  induction l with
  | nil => rfl
  | cons x r ih => simp only [List.flatMap_cons, List.map_cons, ih]; rfl
theorem elts_ints {k : IntKind} {h : Hp} {s : AV} {l : List Int} : Elts (encI k) 1 h s l ↔ Ints k h s l := by
  unfold Elts Ints
  simp only [Nat.mul_one, encI_map]
section
variable {α : Type} {enc : α → List AV} {q : Nat} {h h' : Hp} {s : AV} {l l2 : List α} {d : α}
theorem flat_len (hE : EncOk enc q) : ∀ l : List α, (l.flatMap enc).length = l.length * q
  | [] => by simp
  | x :: r => by rw [List.flatMap_cons, List.length_append, flat_len hE r, (hE x).1, List.length_cons, Nat.succ_mul]; omega
theorem flat_drop (hE : EncOk enc q) : ∀ (n : Nat) (l : List α), (l.flatMap enc).drop (n * q) = (l.drop n).flatMap enc
  | 0, l => by simp
  | n + 1, [] => by simp
  | n + 1, x :: r => by
    rw [List.flatMap_cons, Nat.succ_mul, Nat.add_comm, ← List.drop_drop, List.drop_left' (hE x).1, flat_drop hE n r]; rfl
theorem flat_take (hE : EncOk enc q) : ∀ (n : Nat) (l : List α), (l.flatMap enc).take (n * q) = (l.take n).flatMap enc
  | 0, l => by simp
  | n + 1, [] => by simp
  | n + 1, x :: r => by
    rw [List.flatMap_cons, Nat.succ_mul, Nat.add_comm, List.take_append, (hE x).1, List.take_of_length_le (by rw [(hE x).1]; omega), show q + n * q - q = n * q by omega, flat_take hE n r]; rfl
theorem flat_get (hE : EncOk enc q) {n : Nat} (hn : n < l.length) : ((l.flatMap enc).drop (n * q)).take q = enc (l.getD n d) := by
  rw [flat_drop hE, List.drop_eq_getElem_cons hn, List.flatMap_cons, List.take_left' (hE _).1, List.getD_eq_getElem?_getD, List.getElem?_eq_getElem hn]; rfl
theorem allOne_append : ∀ (a b : List AV), allOne (a ++ b) = (allOne a && allOne b)
  | [], b => by simp [allOne]
  | x :: a, b => by simp only [List.cons_append, allOne, allOne_append a b, Bool.and_assoc]
theorem flat_one (hE : EncOk enc q) : ∀ l : List α, allOne (l.flatMap enc) = true
  | [] => rfl
  | x :: r => by rw [List.flatMap_cons, allOne_append, (hE x).2, flat_one hE r]; rfl
theorem flat_set (hE : EncOk enc q) : ∀ (n : Nat) (l : List α) (y : α), n < l.length → setMany (l.flatMap enc) (n * q) (enc y) = (l.set n y).flatMap enc
  | n, [], y, h => by simp at h
  | 0, x :: r, y, _ => by
    simp only [setMany, Nat.zero_mul, List.take_zero, List.nil_append, Nat.zero_add, List.flatMap_cons, List.set_cons_zero]
    rw [List.drop_left' ((hE x).1.trans (hE y).1.symm)]
  | n + 1, x :: r, y, h => by
    have ih := flat_set hE n r y (by simpa using h)
    simp only [setMany, List.flatMap_cons, List.set_cons_succ] at ih ⊢
    rw [← ih, List.append_assoc, ← List.append_assoc]
    have e1 : (n + 1) * q = q + n * q := by rw [Nat.succ_mul, Nat.add_comm]
    rw [e1, List.take_append, (hE x).1, List.take_of_length_le (by rw [(hE x).1]; omega), show q + n * q - q = n * q by omega, Nat.add_assoc]
    have e3 : (enc x ++ r.flatMap enc).drop (q + (n * q + (enc y).length)) = (r.flatMap enc).drop (n * q + (enc y).length) := by
      rw [← List.drop_drop, List.drop_left' (hE x).1]
    rw [e3]
    simp only [List.append_assoc]
theorem Elts.ext (hS : Elts enc q h s l) (x : Ext h h') : Elts enc q h' s l := by
  rcases hS with hS | ⟨i, o, c, u, cs, t, own, h1, h2, h3⟩
  · exact .inl hS
  · exact .inr ⟨i, o, c, u, cs, t, own, h1, x.get h2, h3⟩
theorem elts_get (hE : EncOk enc q) {cs : List AV} {o n : Nat} (h3 : o + l.length * q ≤ cs.length) (h4 : (cs.drop o).take (l.length * q) = l.flatMap enc) (hn : n < l.length) : (cs.drop (o + n * q)).take q = enc (l.getD n d) := by
  rw [← flat_get hE hn, ← h4, List.drop_take, List.drop_drop, List.take_take]
  have : n * q + q ≤ l.length * q := by rw [← Nat.succ_mul]; exact Nat.mul_le_mul_right q hn
  rw [Nat.min_eq_left (by omega)]
/-- An element's place (a term that does not unfold by itself). -/
noncomputable def elP (s : AV) (q : Nat) (x : Int) : AV := Classical.choose (⟨_, rfl⟩ : ∃ a : AV, a = (match s with
  | .sl i o _ _ _ => .ptr i (o + x.toNat * q)
  | _ => .v undef))
theorem elP_sl {i o n c : Nat} {u : Bool} {q : Nat} {x : Int} : elP (.sl i o n c u) q x = .ptr i (o + x.toNat * q) := Classical.choose_spec (⟨_, rfl⟩ : ∃ a : AV, a = (match (AV.sl i o n c u) with
  | .sl i o _ _ _ => .ptr i (o + x.toNat * q)
  | _ => .v undef))
noncomputable def elF (s : AV) (q : Nat) (x : Int) (off : Nat) : AV := Classical.choose (⟨_, rfl⟩ : ∃ a : AV, a = (match s with
  | .sl i o _ _ _ => .ptr i (o + x.toNat * q + off)
  | _ => .v undef))
theorem elF_sl {i o n c : Nat} {u : Bool} {q off : Nat} {x : Int} : elF (.sl i o n c u) q x off = .ptr i (o + x.toNat * q + off) := Classical.choose_spec (⟨_, rfl⟩ : ∃ a : AV, a = (match (AV.sl i o n c u) with
  | .sl i o _ _ _ => .ptr i (o + x.toNat * q + off)
  | _ => .v undef))
variable {P : Program} {f : Fr} {a b : Operand} {t : TypeId} {x : Int} {k k' : IntKind} {r : AV} {off : Nat}
theorem x_lenE {e : TypeId} {q' : Nat} (hS : Elts enc q h s l) (hu : sliOf P t = some (e, q')) (ha : ev f a = s) : exL P f h (.call ⟨.builtin .len, #[a], #[t]⟩) = some (.v (.int .i64 l.length)) := by
  unfold sliOf at hu
  split at hu
  · rename_i e' hu'
    rcases hS with ⟨rfl, rfl⟩ | ⟨i, o, c, u, cs, t', own, rfl, h2, h3⟩ <;> simp [exL, ha, exB, lenB, hu']
  · cases hu
theorem x_idxE {e : TypeId} (hS : Elts enc q h s l) (hu : sliOf P t = some (e, q)) (ha : ev f a = s) (hb : ev f b = .v (.int k' x)) (h0 : 0 ≤ x) (h1 : x < l.length) : exL P f h (.indexAddr t a b) = some (elP s q x) := by
  rcases hS with ⟨_, rfl⟩ | ⟨i, o, c, u, cs, t', own, rfl, h2, h3⟩
  · simp at h1; omega
  · rw [elP_sl]; exact x_idxS hu ha hb h0 (by omega)
theorem x_loadE (hE : EncOk enc q) (d : α) (hS : Elts enc q h s l) (hs : isAg P t q = true) (ha : ev f a = elP s q x) (h0 : 0 ≤ x) (h1 : x < l.length) : exL P f h (.load t a) = some (.agg (enc (l.getD x.toNat d))) := by
  have hn : x.toNat < l.length := by omega
  rcases hS with ⟨_, rfl⟩ | ⟨i, o, c, u, cs, t', own, rfl, h2, h3, h4⟩
  · simp at hn
  · have : x.toNat * q + q ≤ l.length * q := by rw [← Nat.succ_mul]; exact Nat.mul_le_mul_right q hn
    rw [elP_sl] at ha
    rw [x_loadA hs ha h2 (by omega), elts_get hE h3 h4 hn]
theorem x_loadF (hE : EncOk enc q) (d : α) (hS : Elts enc q h s l) (hs : isS1 P t = true) (ha : ev f a = elF s q x off) (h0 : 0 ≤ x) (h1 : x < l.length) (hr : (enc (l.getD x.toNat d))[off]? = some r) : exL P f h (.load t a) = some r := by
  have hn : x.toNat < l.length := by omega
  rcases hS with ⟨_, rfl⟩ | ⟨i, o, c, u, cs, t', own, rfl, h2, h3, h4⟩
  · simp at hn
  · rw [elF_sl] at ha
    refine x_load1 hs ha h2 ?_
    rw [← elts_get (d := d) hE h3 h4 hn, List.getElem?_take, List.getElem?_drop] at hr
    split at hr
    · exact hr
    · cases hr
theorem x_loadE1 (hE : EncOk enc 1) (d : α) (hS : Elts enc 1 h s l) (hs : isS1 P t = true) (ha : ev f a = elP s 1 x) (h0 : 0 ≤ x) (h1 : x < l.length) (hr : (enc (l.getD x.toNat d))[0]? = some r) : exL P f h (.load t a) = some r := by
  rcases hS with ⟨_, rfl⟩ | ⟨i, o, c, u, cs, t', own, rfl, h2, h3⟩
  · simp at h1; omega
  · refine x_loadF (off := 0) hE d (.inr ⟨i, o, c, u, cs, t', own, rfl, h2, h3⟩) hs ?_ h0 h1 hr
    rw [ha, elP_sl, elF_sl, Nat.add_zero]
theorem x_fadE {fl : Nat} (hf : fadOf P t fl = some off) (hS : Elts enc q h s l) (ha : ev f a = elP s q x) (h0 : 0 ≤ x) (h1 : x < l.length) : exL P f h (.fieldAddr t a fl) = some (elF s q x off) := by
  rcases hS with ⟨_, rfl⟩ | ⟨i, o, c, u, cs, t', own, rfl, h2, h3⟩
  · simp at h1; omega
  · rw [elP_sl] at ha; rw [elF_sl]; exact x_fad hf ha
theorem x_nilE (hS : Elts enc q h s l) (ha : ev f a = elP s q x) (h0 : 0 ≤ x) (h1 : x < l.length) : exL P f h (.nilCheck a) = some (elP s q x) := by
  rcases hS with ⟨_, rfl⟩ | ⟨i, o, c, u, cs, t', own, rfl, h2, h3⟩
  · simp at h1; omega
  · rw [elP_sl] at ha ⊢; exact x_nilP ha
end

/-! ### Slices of the call's own -/
def objOf : AV → Option Nat
  | .sl i _ _ _ _ => some i
  | _ => none
/-- All but one object lies as it lay. -/
def Oth (o : Option Nat) (h h' : Hp) : Prop := h.length ≤ h'.length ∧ ∀ j, j < h.length → o ≠ some j → h'[j]? = h[j]?
def Own {α : Type} (enc : α → List AV) (q : Nat) (e : TypeId) (h : Hp) (s : AV) (l : List α) : Prop :=
  (s = .v (.slice none 0 0) ∧ l = []) ∨ ∃ i o c u cs, s = .sl i o l.length c u ∧ h[i]? = some (.cells cs e true) ∧ o + l.length * q ≤ cs.length ∧ (cs.drop o).take (l.length * q) = l.flatMap enc ∧ (u = true → o = 0 ∧ c = 0) ∧ (u = false → l.length ≤ c ∧ o + c * q ≤ cs.length)
/-- Tight: no room is known to be left. -/
def Tight (s : AV) : Prop := ∀ i o n c, s = .sl i o n c false → c = n ∧ o = 0
theorem tight_nil : Tight (.v (.slice none 0 0)) := fun i o n c h => by cases h
theorem tight_u {i o n c : Nat} : Tight (.sl i o n c true) := fun i o n c h => by cases h
theorem tight_f {i n : Nat} : Tight (.sl i 0 n n false) := fun i' o n' c h => by cases h; exact ⟨rfl, rfl⟩
def elOkQ (P : Program) (e : TypeId) (q : Nat) : Bool := match tab P e, P.info? e with
  | some ti, some inf => Nat.beq ti.size q && Nat.ble ti.bytes 64 && Nat.beq inf.size q && !(Nat.beq q 0)
  | _, _ => false
section
variable {α : Type} {enc : α → List AV} {q : Nat} {e : TypeId} {h h' h'' : Hp} {s : AV} {l l2 : List α} {d : α} {o o' : Option Nat}
theorem Oth.refl (o : Option Nat) (h : Hp) : Oth o h h := ⟨Nat.le_refl _, fun _ _ _ => rfl⟩
theorem Oth.trans (a : Oth o h h') (b : Oth o' h' h'') (ho : ∀ i, o' = some i → o = some i ∨ h.length ≤ i) : Oth o h h'' :=
  ⟨Nat.le_trans a.1 b.1, fun j hj hne => by
    rw [b.2 j (Nat.lt_of_lt_of_le hj a.1) (fun e => (ho j e).elim hne (fun h1 => by omega)), a.2 j hj hne]⟩
theorem Oth.ext (a : Oth none h h') : Ext h h' := ⟨a.1, fun i hi => a.2 i hi (by simp)⟩
theorem Oth.of_ext (a : Ext h h') : Oth o h h' := ⟨a.1, fun j hj _ => a.2 j hj⟩
theorem Oth.get (a : Oth o h h') {i : Nat} {x : AObj} (hi : h[i]? = some x) (hne : o ≠ some i) : h'[i]? = some x := by
  rw [a.2 i (List.getElem?_eq_some_iff.1 hi).1 hne, hi]
theorem Own.elts (hO : Own enc q e h s l) : Elts enc q h s l := by
  rcases hO with hO | ⟨i, o, c, u, cs, h1, h2, h3, h4, _⟩
  · exact .inl hO
  · exact .inr ⟨i, o, c, u, cs, e, true, h1, h2, h3, h4⟩
theorem Own.oth (hO : Own enc q e h s l) (x : Oth o h h') (hne : ∀ i, objOf s = some i → o ≠ some i) : Own enc q e h' s l := by
  rcases hO with hO | ⟨i, o, c, u, cs, rfl, h2, h3⟩
  · exact .inl hO
  · exact .inr ⟨i, o, c, u, cs, rfl, x.get h2 (hne i rfl), h3⟩
theorem Own.ext (hO : Own enc q e h s l) (x : Ext h h') : Own enc q e h' s l := hO.oth (o := none) (Oth.of_ext x) (fun _ _ => by simp)
theorem Own.lt (hO : Own enc q e h s l) {i : Nat} (hi : objOf s = some i) : i < h.length := by
  rcases hO with ⟨rfl, _⟩ | ⟨i', o, c, u, cs, rfl, h2, h3⟩
  · cases hi
  · injection hi with hi; subst hi; exact (List.getElem?_eq_some_iff.1 h2).1
theorem Elts.oth (hO : Elts enc q h s l) (x : Oth o h h') (hne : ∀ i, objOf s = some i → o ≠ some i) : Elts enc q h' s l := by
  rcases hO with hO | ⟨i, o, c, u, cs, t, ow, rfl, h2, h3⟩
  · exact .inl hO
  · exact .inr ⟨i, o, c, u, cs, t, ow, rfl, x.get h2 (hne i rfl), h3⟩
theorem Elts.lt (hO : Elts enc q h s l) {i : Nat} (hi : objOf s = some i) : i < h.length := by
  rcases hO with ⟨rfl, _⟩ | ⟨i', o, c, u, cs, t, ow, rfl, h2, h3⟩
  · cases hi
  · injection hi with hi; subst hi; exact (List.getElem?_eq_some_iff.1 h2).1
theorem sliOf_und {P : Program} {t : TypeId} {q : Nat} (hu : sliOf P t = some (e, q)) : P.underlying t = some (.slice e) := (sliOf_spec hu).1
/-- Appended to. -/
theorem app_own' {P : Program} {t : TypeId} {H : Hp} {s u : AV} {l l2 : List α} (hE : EncOk enc q) (hu : sliOf P t = some (e, q)) (he : elOkQ P e q = true) (hG : Own enc q e H s l) (hS : Elts enc q H u l2) (hlen : l.length + l2.length ≤ 1099511627776) :
    ∃ s' H', app P H [t, t] s u = some (s', H') ∧ Own enc q e H' s' (l ++ l2) ∧ Oth (objOf s) H H' ∧ (∀ i, objOf s' = some i → objOf s = some i ∨ H.length ≤ i) ∧ (Tight s → Tight s') := by
  have hu' := sliOf_und hu
  unfold elOkQ at he
  split at he
  case h_2 => cases he
  rename_i ti inf ht hinf
  simp only [Bool.and_eq_true, Nat.beq_eq, Nat.ble_eq, Bool.not_eq_true'] at he
  obtain ⟨⟨⟨hs1, hby⟩, hi1⟩, hq0⟩ := he
  have hq : q ≠ 0 := by intro h; subst h; cases hq0
  have hsrc : srcC H q u = some (l2.length, l2.flatMap enc) := by
    rcases hS with ⟨rfl, rfl⟩ | ⟨i, o, c, u', cs, t', own, rfl, h2, h3, h4⟩
    · rfl
    · simp only [srcC, h2]
      rw [if_pos h3, h4]
  have hb : (l.length + l2.length) * ti.bytes ≤ 140737488355328 := Nat.le_trans (Nat.mul_le_mul hlen hby) (by omega)
  have hb2 : l2.length * ti.bytes ≤ 140737488355328 := Nat.le_trans (Nat.mul_le_mul (show l2.length ≤ 1099511627776 by omega) hby) (by omega)
  unfold app
  simp only [ne_eq, not_true_eq_false, if_false, hu', ht, hs1, hq, hsrc, flat_one hE, Bool.true_eq_false, Nat.zero_add]
  have fresh : ∀ (H0 : Hp), H0.length = H.length → Own enc q e (H0 ++ [.cells (l.flatMap enc ++ l2.flatMap enc) e true]) (.sl H.length 0 (l.length + l2.length) 0 true) (l ++ l2) := by
    intro H0 h0
    have e1 : (l.flatMap enc ++ l2.flatMap enc) = (l ++ l2).flatMap enc := by rw [List.flatMap_append]
    refine .inr ⟨H.length, 0, 0, true, l.flatMap enc ++ l2.flatMap enc, by rw [List.length_append], by rw [← h0]; simp, ?_, ?_, fun _ => ⟨rfl, rfl⟩, fun h => by cases h⟩
    · rw [e1, flat_len hE]; omega
    · rw [e1, List.drop_zero, List.take_of_length_le (by rw [flat_len hE]; exact Nat.le_refl _)]
  rcases hG with ⟨rfl, rfl⟩ | ⟨i, o, c, u', cs, rfl, h2, h3, h4, h5, h6⟩
  · simp only []
    by_cases h0 : l2.length = 0
    · rw [if_pos h0]
      exact ⟨_, _, rfl, .inl ⟨rfl, by simpa using h0⟩, Oth.refl _ _, fun i hi => (by cases hi), fun _ => tight_nil⟩
    · rw [if_neg h0, if_pos ⟨by omega, hb2⟩]
      refine ⟨_, _, rfl, ?_, Oth.of_ext (Ext.push _ _), fun i hi => ?_, fun _ => tight_u⟩
      · have := fresh H rfl; simpa using this
      · injection hi with hi; omega
  · cases u' with
    | false =>
      have h6 := h6 rfl
      simp only []
      by_cases hr : l.length + l2.length ≤ c
      · rw [if_pos hr]
        by_cases h0 : l2.length = 0
        · rw [if_pos h0]
          have : l2 = [] := by simpa using h0
          subst this
          refine ⟨_, _, rfl, ?_, Oth.refl _ _, fun i hi => .inl hi, fun h => h⟩
          rw [List.append_nil]
          exact .inr ⟨i, o, c, false, cs, rfl, h2, h3, h4, h5, fun _ => h6⟩
        · rw [if_neg h0, h2]
          simp only []
          have hcq : l.length * q + l2.length * q ≤ c * q := by rw [← Nat.add_mul]; exact Nat.mul_le_mul_right q hr
          rw [if_pos (by omega)]
          have hcl : (setMany cs (o + l.length * q) (l2.flatMap enc)).length = cs.length := by
            simp only [setMany, List.length_append, List.length_take, List.length_drop, flat_len hE]; omega
          refine ⟨_, _, rfl, .inr ⟨i, o, c, false, _, by rw [List.length_append], by rw [List.getElem?_set_self (List.getElem?_eq_some_iff.1 h2).1], ?_, ?_, h5, fun _ => ⟨by rw [List.length_append]; exact hr, by rw [hcl]; exact h6.2⟩⟩, ⟨by simp, fun j hj hne => ?_⟩, fun j hj => .inl hj, fun hT => absurd (hT i o _ c rfl).1 (by omega)⟩
          · rw [hcl, List.length_append, Nat.add_mul]; omega
          · rw [List.flatMap_append, ← h4, List.length_append, Nat.add_mul]
            simp only [setMany, flat_len hE]
            rw [List.append_assoc, List.drop_append, List.length_take, Nat.min_eq_left h3, show o - (o + l.length * q) = 0 by omega, List.drop_zero, List.drop_take, show o + l.length * q - o = l.length * q by omega]
            rw [List.take_append, List.length_take, List.length_drop, Nat.min_eq_left (by omega), List.take_of_length_le (by rw [List.length_take, List.length_drop]; omega), show l.length * q + l2.length * q - l.length * q = l2.length * q by omega]
            rw [List.take_left' (flat_len hE l2)]
          · rw [List.getElem?_set_ne (by intro h; subst h; exact hne rfl)]
      · have h0 : l2.length ≠ 0 := by omega
        rw [if_neg hr, if_neg h0, h2]
        simp only []
        rw [if_pos ⟨h3, by omega, hb⟩, h4]
        refine ⟨_, _, rfl, fresh H rfl, Oth.of_ext (Ext.push _ _), fun j hj => ?_, fun _ => tight_u⟩
        injection hj with hj; omega
    | true =>
      obtain ⟨rfl, rfl⟩ := h5 rfl
      simp only []
      by_cases h0 : l2.length = 0
      · have : l2 = [] := by simpa using h0
        subst this
        have hc : capOk P H e i l.length 0 = true := by
          simp only [capOk, h2, hinf, hi1, Nat.zero_add, Bool.and_eq_true, Nat.beq_eq, Nat.blt_eq, Nat.ble_eq, true_and]
          exact ⟨by omega, by omega⟩
        rw [if_pos h0, if_pos hc]
        refine ⟨_, _, rfl, ?_, Oth.refl _ _, fun i hi => .inl hi, fun _ => tight_u⟩
        rw [List.append_nil]
        exact .inr ⟨i, 0, 0, true, cs, rfl, h2, h3, h4, h5, h6⟩
      · rw [if_neg h0, h2]
        simp only []
        rw [if_pos ⟨trivial, trivial, trivial, by omega, by omega, hb⟩]
        rw [List.drop_zero] at h4
        rw [h4]
        refine ⟨_, _, rfl, fresh _ (by simp), ⟨by simp, fun j hj hne => ?_⟩, fun j hj => ?_, fun _ => tight_u⟩
        · rw [List.getElem?_append_left (by simp; exact hj), List.getElem?_set_ne (by intro h; subst h; exact hne rfl)]
        · injection hj with hj; omega
theorem setMany_len {cs vs : List AV} {off : Nat} (h : off + vs.length ≤ cs.length) : (setMany cs off vs).length = cs.length := by
  simp only [setMany, List.length_append, List.length_take, List.length_drop]; omega
theorem setMany_get {cs vs : List AV} {off j : Nat} (h : off + vs.length ≤ cs.length) : (setMany cs off vs)[j]? = if j < off then cs[j]? else if j < off + vs.length then vs[j - off]? else cs[j]? := by
  simp only [setMany]
  by_cases h1 : j < off
  · rw [if_pos h1, List.append_assoc, List.getElem?_append_left (by rw [List.length_take]; omega), List.getElem?_take, if_pos h1]
  · rw [if_neg h1]
    by_cases h2 : j < off + vs.length
    · rw [if_pos h2, List.getElem?_append_left (by rw [List.length_append, List.length_take]; omega), List.getElem?_append_right (by rw [List.length_take]; omega), List.length_take, Nat.min_eq_left (by omega)]
    · rw [if_neg h2, List.getElem?_append_right (by rw [List.length_append, List.length_take]; omega), List.length_append, List.length_take, Nat.min_eq_left (by omega), List.getElem?_drop]
      congr 1; omega
/-- An element's cells written. -/
theorem set_own {H : Hp} {n : Nat} {vs : List AV} {y : α} {off : Nat} (hE : EncOk enc q) (hG : Own enc q e H s l) (hn : n < l.length) (d : α) (hy : setMany (enc (l.getD n d)) off vs = enc y) (hv : off + vs.length ≤ q) :
    ∃ i o cs, (∃ c u, s = .sl i o l.length c u) ∧ H[i]? = some (.cells cs e true) ∧ o + n * q + off + vs.length ≤ cs.length ∧ Own enc q e (H.set i (.cells (setMany cs (o + n * q + off) vs) e true)) s (l.set n y) ∧ Oth (objOf s) H (H.set i (.cells (setMany cs (o + n * q + off) vs) e true)) := by
  rcases hG with ⟨rfl, rfl⟩ | ⟨i, o, c, u', cs, rfl, h2, h3, h4, h5, h6⟩
  · simp at hn
  · have hnq : n * q + q ≤ l.length * q := by rw [← Nat.succ_mul]; exact Nat.mul_le_mul_right q hn
    have hi := (List.getElem?_eq_some_iff.1 h2).1
    have hcl : (setMany cs (o + n * q + off) vs).length = cs.length := by
      simp only [setMany, List.length_append, List.length_take, List.length_drop]; omega
    refine ⟨i, o, cs, ⟨c, u', rfl⟩, h2, by omega, ?_, ⟨by simp, fun j hj hne => by rw [List.getElem?_set_ne (by intro h; subst h; exact hne rfl)]⟩⟩
    refine .inr ⟨i, o, c, u', _, by rw [List.length_set], by rw [List.getElem?_set_self hi], by rw [hcl, List.length_set]; exact h3, ?_, h5, fun h => by rw [hcl, List.length_set]; exact h6 h⟩
    have hl1 : ((cs.drop o).take (l.length * q)).length = l.length * q := by rw [List.length_take, List.length_drop]; omega
    have hl2 : ((cs.drop (o + n * q)).take q).length = q := by rw [List.length_take, List.length_drop]; omega
    rw [List.length_set, ← flat_set hE n l y hn, ← h4, ← hy, ← elts_get (d := d) hE h3 h4 hn]
    have hl3 : (setMany ((cs.drop (o + n * q)).take q) off vs).length = q := by rw [setMany_len (by omega), hl2]
    apply List.ext_getElem?
    intro j
    rw [setMany_get (by omega), hl3, List.getElem?_take, List.getElem?_drop, setMany_get (by omega)]
    generalize l.length * q = L at *
    generalize n * q = N at *
    by_cases c1 : j < L
    · rw [if_pos c1]
      by_cases c2 : j < N
      · rw [if_pos c2, if_pos (by omega), List.getElem?_take, if_pos c1, List.getElem?_drop]
      · rw [if_neg c2]
        by_cases c3 : j < N + q
        · rw [if_pos c3, setMany_get (by omega)]
          by_cases c4 : j - N < off
          · rw [if_pos c4, if_pos (by omega), List.getElem?_take, if_pos (by omega), List.getElem?_drop]; congr 1; omega
          · rw [if_neg c4, if_neg (by omega)]
            by_cases c5 : j - N < off + vs.length
            · rw [if_pos c5, if_pos (by omega)]; congr 1; omega
            · rw [if_neg c5, if_neg (by omega), List.getElem?_take, if_pos (by omega), List.getElem?_drop]; congr 1; omega
        · rw [if_neg c3, if_neg (by omega), if_neg (by omega), List.getElem?_take, if_pos c1, List.getElem?_drop]
    · rw [if_neg c1, if_neg (by omega), if_neg (by omega), List.getElem?_take, if_neg c1]
end
end Go.Az
