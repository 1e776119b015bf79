/-
  Operations that only reckon or read, on abstract values, and that the model does the same. Conditions: stated at each theorem.
-/
import Derived.Test.YthhbhekccacmlaaAzB
import Derived.Deep.MidRow
import Derived.WalkSpells
set_option linter.unusedSimpArgs false
set_option linter.unusedVariables false
namespace Go.Az
open Go Go.Chz

/-! ### The types' table -/
structure TI where
  d : TypeDesc
  size : Nat
  bytes : Nat
  zc : List Value
def aggD : TypeDesc → Bool
  | .struct _ => true
  | .array _ _ => true
  | _ => false
def allOneV : List Value → Bool
  | [] => true
  | v :: r => match v with
    | .agg _ => false
    | .tuple _ => false
    | _ => allOneV r
theorem allOneV_spec : ∀ {l : List Value}, allOneV l = true → ∀ v ∈ l, v.oneCell' = true
  | [], _, v, hv => by cases hv
  | x :: r, h, v, hv => by
    have hx : x.oneCell' = true ∧ allOneV r = true := by cases x <;> first | exact ⟨rfl, h⟩ | cases h
    rcases List.mem_cons.1 hv with rfl | hv
    · exact hx.1
    · exact allOneV_spec hx.2 v hv
def tab (P : Program) (t : TypeId) : Option TI :=
  match P.info? t, P.underlying t with
  | some inf, some d =>
    match inf.zero with
    | some (.agg cs) => match aggD d && Nat.beq cs.toList.length inf.size && allOneV cs.toList with
      | true => some ⟨d, inf.size, inf.bytes, cs.toList⟩
      | false => none
    | some z => match !aggD d && Nat.beq inf.size 1 && allOneV [z] with
      | true => some ⟨d, 1, inf.bytes, [z]⟩
      | false => none
    | none => none
  | _, _ => none
theorem tab_spec {P : Program} {t : TypeId} {x : TI} (h : tab P t = some x) :
    P.underlying t = some x.d ∧ ∃ inf z, P.info? t = some inf ∧ inf.size = x.size ∧ inf.bytes = x.bytes ∧ inf.zero = some z ∧ z.cells = x.zc.toArray ∧ x.zc.length = x.size ∧ (∀ v ∈ x.zc, v.oneCell' = true) ∧
      (aggD x.d = true → z = .agg x.zc.toArray) ∧ (aggD x.d = false → x.size = 1 ∧ x.zc = [z]) := by
  unfold tab at h
  split at h
  · rename_i inf d hi hu
    split at h
    · rename_i cs hz
      split at h
      · rename_i hc
        simp only [Bool.and_eq_true, Nat.beq_eq] at hc
        obtain ⟨⟨hc1, hc2⟩, hc3⟩ := hc
        injection h with h
        subst h
        refine ⟨hu, inf, .agg cs, hi, rfl, rfl, hz, by simp [Value.cells], hc2, allOneV_spec hc3, fun _ => by simp, fun hf => by simp only at hf; rw [hc1] at hf; cases hf⟩
      · cases h
    · rename_i z hz hne
      split at h
      · rename_i hc
        simp only [Bool.and_eq_true, Nat.beq_eq, Bool.not_eq_true'] at hc
        obtain ⟨⟨hc1, hc2⟩, hc3⟩ := hc
        injection h with h
        subst h
        have h1 := allOneV_spec hc3 z (by simp)
        have hcz : z.cells = #[z] := by cases z <;> first | rfl | (simp [Value.oneCell'] at h1)
        refine ⟨hu, inf, z, hi, hc2, rfl, hne, by simpa using hcz, rfl, ?_, ?_, fun _ => ⟨rfl, rfl⟩⟩
        · intro v hv; simp at hv; subst hv; exact h1
        · intro hf; simp only at hf; rw [hc1] at hf; cases hf
      · cases h
    · cases h
  · cases h

/-! ### Operands -/
def ev (f : Fr) : Operand → AV
  | .tmp t => f.t.getD t (.v undef)
  | .const x => .v x
  | .global g => .v (.pointer (some ⟨g, 0, none⟩))
  | .func g => .fn (.func g) []
theorem getD_real (ρ : Nat → Place) (l : List AV) (t : Nat) : (AV.reals ρ l).toArray.getD t undef = (l.getD t (.v undef)).real ρ := by
  rw [reals_eq]
  by_cases h : t < l.length
  · simp [Array.getD, h]
  · simp [Array.getD, h, AV.real]
theorem ev_real {ρ : Nat → Place} {f : Fr} {A : Act} (h : A.tmps = (AV.reals ρ f.t).toArray) (x : Operand) : A.eval x = (ev f x).real ρ := by
  cases x with
  | tmp t => simp only [Act.eval, h, ev]; exact getD_real ρ f.t t
  | const x => rfl
  | global g => rfl
  | func g => rfl
theorem ev_sc {n : Nat} {f : Fr} (h : AV.scs n f.t = true) (x : Operand) : (ev f x).sc n = true := by
  cases x with
  | tmp t =>
    simp only [ev]
    by_cases ht : t < f.t.length
    · simp only [List.getD_eq_getElem?_getD, List.getElem?_eq_getElem ht, Option.getD_some]
      exact (scs_iff n f.t).1 h _ (List.getElem_mem ht)
    · simp only [List.getD_eq_getElem?_getD, List.getElem?_eq_none (Nat.le_of_not_lt ht), Option.getD_none]; rfl
  | const x => rfl
  | global g => rfl
  | func g => rfl

/-! ### Strings -/
def mkB (l : List UInt8) : ByteArray := ⟨⟨l⟩⟩
def leq : List UInt8 → List UInt8 → Bool
  | [], [] => true
  | a :: x, b :: y => Nat.beq a.toNat b.toNat && leq x y
  | _, _ => false
theorem leq_iff : ∀ a b : List UInt8, leq a b = decide (a = b)
  | [], [] => rfl
  | [], _ :: _ => rfl
  | _ :: _, [] => rfl
  | a :: x, b :: y => by
    rw [leq, leq_iff x y, Bool.eq_iff_iff]
    simp [Nat.beq_eq, UInt8.toNat_inj]
def slt : List UInt8 → List UInt8 → Bool
  | _, [] => false
  | [], _ :: _ => true
  | a :: x, b :: y => Nat.blt a.toNat b.toNat || (Nat.beq a.toNat b.toNat && slt x y)
theorem ba_toList (s : ByteArray) : s.toList = s.data.toList := ByteArray.toList_eq s

/-! ### Integers -/
def ibin (op : BinOp) (k : IntKind) (a : Int) (k' : IntKind) (b : Int) : Option AV :=
  match op with
  | .shl => if b < 0 then none else some (.v (.int k (k.wrap (a * 2 ^ (min b.toNat k.bits)))))
  | .shr => if b < 0 then none else some (.v (.int k (a.fdiv (2 ^ (min b.toNat k.bits)))))
  | .add => if k = k' then some (.v (.int k (k.wrap (a + b)))) else none
  | .sub => if k = k' then some (.v (.int k (k.wrap (a - b)))) else none
  | .mul => if k = k' then some (.v (.int k (k.wrap (a * b)))) else none
  | .quo => if k = k' then if b = 0 then none else some (.v (.int k (k.wrap (a.tdiv b)))) else none
  | .rem => if k = k' then if b = 0 then none else some (.v (.int k (a.tmod b))) else none
  | .and => if k = k' then some (.v (.int k (k.wrap (BitVec.ofInt k.bits a &&& BitVec.ofInt k.bits b).toNat))) else none
  | .or => if k = k' then some (.v (.int k (k.wrap (BitVec.ofInt k.bits a ||| BitVec.ofInt k.bits b).toNat))) else none
  | .xor => if k = k' then some (.v (.int k (k.wrap (BitVec.ofInt k.bits a ^^^ BitVec.ofInt k.bits b).toNat))) else none
  | .andNot => if k = k' then some (.v (.int k (k.wrap (BitVec.ofInt k.bits a &&& ~~~BitVec.ofInt k.bits b).toNat))) else none
  | .eql => if k = k' then some (.v (.bool (a == b))) else none
  | .neq => if k = k' then some (.v (.bool (a != b))) else none
  | .lss => if k = k' then some (.v (.bool (decide (a < b)))) else none
  | .leq => if k = k' then some (.v (.bool (decide (a ≤ b)))) else none
  | .gtr => if k = k' then some (.v (.bool (decide (a > b)))) else none
  | .geq => if k = k' then some (.v (.bool (decide (a ≥ b)))) else none
def sbin (op : BinOp) (a b : ByteArray) : Option AV :=
  match op with
  | .add => if a.data.toList.length + b.data.toList.length ≤ 9223372036854775807 then some (.v (.string (mkB (a.data.toList ++ b.data.toList)))) else none
  | .eql => some (.v (.bool (leq a.data.toList b.data.toList)))
  | .neq => some (.v (.bool (!leq a.data.toList b.data.toList)))
  | _ => none

theorem eqGuard_int (P : Program) (w : World) (op : BinOp) (t : TypeId) (x y : Operand) {a b : Value} (h : ∀ cs cs', ¬ (a = .agg cs ∧ b = .agg cs')) (h2 : ¬ (a = .nilIface ∧ b = .nilIface)) : (eqGuard op t x y a b).run P w = .ok () w := by
  unfold eqGuard
  cases op <;> first
    | rfl
    | (cases a <;> cases b <;> first
      | rfl
      | exact absurd ⟨rfl, rfl⟩ h2
      | exact absurd ⟨rfl, rfl⟩ (h _ _))

theorem run_ibin {P : Program} {w : World} {op : BinOp} {t : TypeId} {k k' : IntKind} {a b : Int} {r : AV} (ρ : Nat → Place) (h : ibin op k a k' b = some r) :
    (binOp op t (.int k a) (.int k' b)).run P w = .ok (r.real ρ) w := by
  unfold ibin at h
  cases op <;> simp only [Option.ite_none_right_eq_some, Option.ite_none_left_eq_some, Option.some.injEq] at h
  all_goals first
    | (obtain ⟨rfl, h0, rfl⟩ := h; simp only [binOp, Op.intDiv, Op.shift, AV.real, if_neg h0, ne_eq, not_true_eq_false, if_false, Sem.run_pure, ite_not]; try rfl)
    | (obtain ⟨h0, rfl⟩ := h; first | (subst h0; simp [binOp, Op.intArith, Op.intBits, Op.intCmp, AV.real]; done) | (simp only [binOp, Op.shift, if_neg h0, AV.real]; rfl))

theorem run_sbin {P : Program} {w : World} {op : BinOp} {t : TypeId} {a b : ByteArray} {r : AV} (ρ : Nat → Place) (h : sbin op a b = some r) :
    (binOp op t (.string a) (.string b)).run P w = .ok (r.real ρ) w := by
  unfold sbin at h
  cases op <;> simp only [Option.ite_none_right_eq_some, Option.some.injEq, reduceCtorEq] at h
  · obtain ⟨h0, rfl⟩ := h
    have hs : ¬ (((a.size + b.size : Nat) : Int) > IntKind.i64.max) := by
      have e : IntKind.i64.max = 9223372036854775807 := by decide
      have e1 : a.data.toList.length = a.size := by simp
      have e2 : b.data.toList.length = b.size := by simp
      omega
    simp only [binOp, Op.stringOp, if_neg hs, AV.real, Sem.run_pure]
    congr 2
  · subst h
    have e : (a.data.toList == b.data.toList) = decide (a.data.toList = b.data.toList) := by rw [Bool.eq_iff_iff]; simp
    simp only [binOp, Op.stringOp, AV.real, leq_iff, ba_toList, Sem.run_pure, e]
  · subst h
    have e : (a.data.toList == b.data.toList) = decide (a.data.toList = b.data.toList) := by rw [Bool.eq_iff_iff]; simp
    simp only [binOp, Op.stringOp, AV.real, leq_iff, ba_toList, Sem.run_pure, e]
end Go.Az
