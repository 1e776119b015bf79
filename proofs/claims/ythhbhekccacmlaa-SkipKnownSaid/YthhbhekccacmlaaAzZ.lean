/-
  Operations on memory, by the values of their operands and by what types are. Conditions: stated at each theorem.
-/
import Derived.Test.YthhbhekccacmlaaAzY
set_option linter.unusedSimpArgs false
set_option linter.unusedVariables false
namespace Go.Az
open Go Go.Chz

def isS1 (P : Program) (t : TypeId) : Bool := match tab P t with
  | some x => !aggD x.d && Nat.beq x.size 1 && (match P.info? t with | some inf => Nat.beq inf.size 1 | none => false)
  | none => false
def isAg (P : Program) (t : TypeId) (n : Nat) : Bool := match tab P t with
  | some x => aggD x.d && Nat.beq x.size n && (match P.info? t with | some inf => Nat.beq inf.size n | none => false)
  | none => false
/-- An array: how many, of what, of how many cells. -/
def arrOf (P : Program) (t : TypeId) : Option (Nat × TypeId × Nat) := match P.underlying t with
  | some (.array n e) => match P.info? e with
    | some inf => some (n, e, inf.size)
    | none => none
  | _ => none
def sliOf (P : Program) (t : TypeId) : Option (TypeId × Nat) := match P.underlying t with
  | some (.slice e) => match P.info? e with
    | some inf => some (e, inf.size)
    | none => none
  | _ => none
def zeroA (P : Program) (t : TypeId) : Option (List AV) := match tab P t with
  | some x => match P.info? t with
    | some inf => if Nat.beq (zAV x).cellsL.length inf.size = true then some (zAV x).cellsL else none
    | none => none
  | none => none
def AV.plain : AV → Bool
  | .agg _ => false
  | .tup _ => false
  | a => a.one

section
variable {P : Program} {f : Fr} {h : Hp} {a b c : Operand} {t t' tt : TypeId} {x y n : Int} {k k0 k1 : IntKind} {r v : AV} {i o m q : Nat} {cs vs : List AV} {ow : Bool}

theorem x_load1 (hs : isS1 P t = true) (ha : ev f a = .ptr i o) (hi : h[i]? = some (.cells cs tt ow)) (hc : cs[o]? = some r) : exL P f h (.load t a) = some r := by
  refine x_load ha ?_
  unfold isS1 at hs
  unfold ldc
  cases ht : tab P t with
  | none => rw [ht] at hs; cases hs
  | some z =>
    rw [ht] at hs
    simp only [Bool.and_eq_true, Bool.not_eq_true'] at hs
    simp only [hi, hs.1.1, Bool.false_eq_true, if_false, hc]
theorem x_loadA (hs : isAg P t m = true) (ha : ev f a = .ptr i o) (hi : h[i]? = some (.cells cs tt ow)) (hl : o + m ≤ cs.length) : exL P f h (.load t a) = some (.agg ((cs.drop o).take m)) := by
  refine x_load ha ?_
  unfold isAg at hs
  unfold ldc
  cases ht : tab P t with
  | none => rw [ht] at hs; cases hs
  | some z =>
    rw [ht] at hs
    simp only [Bool.and_eq_true, Nat.beq_eq] at hs
    simp only [hi, hs.1.1, if_true, hs.1.2, hl]
theorem x_alloc (hz : zeroA P t = some vs) : exH P f h (.alloc t) = some (.ptr h.length 0, h ++ [.cells vs t true]) := by
  unfold zeroA at hz
  split at hz
  · rename_i z ht
    split at hz
    · rename_i inf hi
      simp only [Nat.beq_eq, Option.ite_none_right_eq_some, Option.some.injEq] at hz
      obtain ⟨h1, rfl⟩ := hz
      simp only [exH, ht, newC, hi, h1, if_true]
    · cases hz
  · cases hz
theorem s1_size (hs : isS1 P t = true) : ∃ inf, P.info? t = some inf ∧ inf.size = 1 := by
  unfold isS1 at hs
  split at hs
  · rename_i z ht
    simp only [Bool.and_eq_true] at hs
    obtain ⟨_, hs⟩ := hs
    split at hs
    · rename_i inf hi; exact ⟨inf, hi, by simpa using hs⟩
    · cases hs
  · cases hs
theorem ag_size (hs : isAg P t m = true) : ∃ inf, P.info? t = some inf ∧ inf.size = m := by
  unfold isAg at hs
  split at hs
  · rename_i z ht
    simp only [Bool.and_eq_true] at hs
    obtain ⟨_, hs⟩ := hs
    split at hs
    · rename_i inf hi; exact ⟨inf, hi, by simpa using hs⟩
    · cases hs
  · cases hs
theorem plain_spec (hp : v.plain = true) : v.cellsL = [v] ∧ v.one = true ∧ v.cellOk = true := by
  cases v <;> first | (simp [AV.plain] at hp; done) | (simp only [AV.plain] at hp; exact ⟨rfl, hp, by simp [AV.cellOk, hp]⟩)
theorem x_box1 (hs : isS1 P t = true) (ha : ev f a = v) (hp : v.plain = true) : exH P f h (.box t a) = some (.ptr h.length 0, h ++ [.cells [v] t true]) := by
  obtain ⟨inf, hi, h1⟩ := s1_size hs
  obtain ⟨e1, e2, e3⟩ := plain_spec hp
  simp only [exH, ha, e3, e1, newC, hi, h1, if_true, List.length_cons, List.length_nil]
theorem x_store1 (hs : isS1 P t = true) (ha : ev f a = .ptr i o) (hb : ev f b = v) (hp : v.plain = true) (hi : h[i]? = some (.cells cs tt true)) (hl : o < cs.length) :
    exH P f h (.store t a b) = some (.v undef, h.set i (.cells (cs.set o v) tt true)) := by
  obtain ⟨inf, hinf, h1⟩ := s1_size hs
  obtain ⟨e1, e2, e3⟩ := plain_spec hp
  have e4 : setMany cs o [v] = cs.set o v := by
    apply List.ext_getElem?
    intro j
    simp only [setMany, List.length_cons, List.length_nil, List.append_assoc]
    rw [List.getElem?_append, List.getElem?_set, List.length_take, Nat.min_eq_left (Nat.le_of_lt hl)]
    by_cases h1 : j < o
    · simp [h1, Nat.ne_of_gt h1, List.getElem?_take]
    · simp only [h1, if_false]
      by_cases h2 : o = j
      · subst h2; simp [hl]
      · simp only [h2, if_false]
        obtain ⟨d, rfl⟩ : ∃ d, j = o + 1 + d := ⟨j - (o + 1), by omega⟩
        rw [show o + 1 + d - o = d + 1 by omega]
        simp only [List.cons_append, List.nil_append, List.getElem?_cons_succ, List.getElem?_drop, Nat.zero_add]
  simp only [exH, ha, hb, sto, hinf, hi, e3, e1, allOne, e2, h1, List.length_cons, List.length_nil, Bool.true_and, Option.map_some, e4]
  rw [if_pos ⟨trivial, by simp, by simp, by omega⟩]
  rfl
theorem x_storeA (hs : isAg P t m = true) (ha : ev f a = .ptr i o) (hb : ev f b = .agg vs) (hp : allOne vs = true) (hv : vs.length = m) (hi : h[i]? = some (.cells cs tt true)) (hl : o + m ≤ cs.length) :
    exH P f h (.store t a b) = some (.v undef, h.set i (.cells (setMany cs o vs) tt true)) := by
  obtain ⟨inf, hinf, h1⟩ := ag_size hs
  have e1 : (AV.agg vs).cellsL = vs := rfl
  simp only [exH, ha, hb, sto, hinf, hi, e1, hp, h1, hv, Option.map_some]
  rw [if_pos ⟨rfl, trivial, trivial, hl⟩]
  rfl
theorem x_idxA {e : TypeId} (hu : arrOf P t = some (m, e, q)) (ha : ev f a = .ptr i o) (hb : ev f b = .v (.int k x)) (h0 : 0 ≤ x) (h1 : x < m) : exL P f h (.indexAddr t a b) = some (.ptr i (o + x.toNat * q)) := by
  unfold arrOf at hu
  split at hu
  · rename_i n' e' hu'
    split at hu
    · rename_i inf hi
      injection hu with hu; injection hu with hu1 hu2; injection hu2 with hu2 hu3
      subst hu1 hu2 hu3
      simp only [exL, ha, hb, iad, hu', intOf?, hi, h0, h1, and_self, if_true]
    · cases hu
  · cases hu
theorem x_idxS {e : TypeId} {l cp : Nat} {u : Bool} (hu : sliOf P t = some (e, q)) (ha : ev f a = .sl i o l cp u) (hb : ev f b = .v (.int k x)) (h0 : 0 ≤ x) (h1 : x < l) : exL P f h (.indexAddr t a b) = some (.ptr i (o + x.toNat * q)) := by
  unfold sliOf at hu
  split at hu
  · rename_i e' hu'
    split at hu
    · rename_i inf hi
      injection hu with hu; injection hu with hu1 hu2
      subst hu1 hu2
      simp only [exL, ha, hb, iad, hu', intOf?, hi, h0, h1, and_self, if_true]
    · cases hu
  · cases hu
theorem x_storeF (hs : isAg P t m = true) (ha : ev f a = .ptr i 0) (hb : ev f b = .agg vs) (hp : allOne vs = true) (hv : vs.length = m) (hi : h[i]? = some (.cells cs tt true)) (hl : cs.length = m) :
    exH P f h (.store t a b) = some (.v undef, h.set i (.cells vs tt true)) := by
  rw [x_storeA hs ha hb hp hv hi (by omega)]
  have : setMany cs 0 vs = vs := by simp [setMany, hv, ← hl]
  rw [this]
/-- A slice built of parts: its cells. -/
def bslC (P : Program) (t : TypeId) (len : Nat) (parts : List (Nat × AV)) : Option (TypeId × List AV) := match bsl P [] t len parts with
  | some (_, [.cells cs e true]) => some (e, cs)
  | _ => none
theorem x_bsl {len : Nat} {parts : Array (Nat × Operand)} {l : List (Nat × AV)} {e : TypeId} (hl : parts.toList.map (fun p => (p.1, ev f p.2)) = l) (hb : bslC P t len l = some (e, cs)) :
    exH P f h (.buildSlice t len parts) = some (.sl h.length 0 len len false, h ++ [.cells cs e true]) := by
  unfold bslC at hb
  simp only [exH, hl]
  cases hu : P.underlying t with
  | none => simp [bsl, hu] at hb
  | some d =>
    cases d with
    | slice e' =>
      simp only [bsl, hu] at hb ⊢
      cases ht : tab P e' with
      | none => simp [ht] at hb
      | some z =>
        simp only [ht] at hb ⊢
        split at hb
        · rename_i x cs' e'' heq
          injection hb with hb; injection hb with hb1 hb2
          subst hb1 hb2
          split at heq
          · rename_i hc
            rw [if_pos hc]
            split at heq
            · rename_i cs2 hf
              split at heq
              · rename_i hlen
                simp only [Option.some.injEq, Prod.mk.injEq, List.nil_append, List.cons.injEq, AObj.cells.injEq, and_true] at heq
                obtain ⟨_, rfl, rfl⟩ := heq
                rw [if_pos hlen]
              · cases heq
            · cases heq
          · cases heq
        · cases hb
    | _ => simp [bsl, hu] at hb
theorem x_index1 {e : TypeId} (hu : arrOf P t = some (m, e, 1)) (hs : isS1 P e = true) (ha : ev f a = .agg cs) (hb : ev f b = .v (.int k x)) (h0 : 0 ≤ x) (h1 : x < m) (hc : cs[x.toNat]? = some r) : exL P f h (.index t a b) = some r := by
  unfold arrOf at hu
  split at hu
  · rename_i n' e' hu'
    split at hu
    · rename_i inf hi
      injection hu with hu; injection hu with hu1 hu2; injection hu2 with hu2 hu3
      subst hu1 hu2
      simp only [exL, ha, hb, idx, hu', intOf?, hi, h0, h1, and_self, if_true, hu3, Nat.mul_one]
      unfold isS1 at hs
      unfold prt
      cases ht : tab P e' with
      | none => rw [ht] at hs; cases hs
      | some z =>
        rw [ht] at hs
        simp only [Bool.and_eq_true, Bool.not_eq_true'] at hs
        simp only [hs.1.1, Bool.false_eq_true, if_false, hc]
    · cases hu
  · cases hu
end
end Go.Az
