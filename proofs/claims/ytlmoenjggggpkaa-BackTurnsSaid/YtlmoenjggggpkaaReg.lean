/-
  A region that draws its order of evaluation, walked once along a list that the kernel checks: operations that yield their value in every world that meets S are taken as they come ('light'), an operation that touches the world ('heavy') where it alone can come up. Conditions: stated at each theorem.
-/
import Derived.Test.YtlmoenjggggpkaaMem
import Derived.Deep.RegionHeld3
import Derived.BigGuardPart
set_option linter.unusedVariables false
set_option linter.unusedSectionVars false
namespace Go.Chz
open Go Go.RowKit

section
variable {P : Program} {ops : Array Oper} {Q : Exit → Act → World → Prop} {md : Region.Mode} {S : World → Prop}

/-- The list fits the region's edges. -/
def certFrom (md : Region.Mode) (ops : Array Oper) : List (Nat × Bool) → Array Bool → Bool
  | [], listed => (Region.ready md ops listed).isEmpty
  | (i, true) :: r, listed => (ops[i]?).isSome && Region.free md ops listed i && (Region.ready md ops listed).contains i && certFrom md ops r (listed.setIfInBounds i true)
  | (i, false) :: r, listed => (ops[i]?).isSome && (Region.ready md ops listed == [i]) && certFrom md ops r (listed.setIfInBounds i true)
def certOk (md : Region.Mode) (ops : Array Oper) (l : List (Nat × Bool)) : Bool :=
  Region.noSelect ops && (l.length == ops.size) && certFrom md ops l (Array.replicate ops.size false)

/-- The walk along the list. -/
def wpS (P : Program) (ops : Array Oper) (Q : Exit → Act → World → Prop) (S : World → Prop) : List (Nat × Bool) → Act → World → Prop
  | [], a, w => Q .normal a w
  | (i, true) :: r, a, w => ∃ o v, ops[i]? = some o ∧ YieldsIf P ops S o v a ∧ wpS P ops Q S r (a.put o.dst v) w
  | (i, false) :: r, a, w => wpOp P ops Q i (fun a' w' => S w' ∧ wpS P ops Q S r a' w') a w

theorem wpAnyH_of_wpS (hsel : Region.noSelect ops = true) (hQ : ∀ c (a : Act) d v w, Q (.panic c) (a.put d v) w → Q (.panic c) a w) : ∀ (l : List (Nat × Bool)) (listed : Array Bool) (a : Act) (w : World),
    certFrom md ops l listed = true → S w → wpS P ops Q S l a w → wpAnyH P md ops Q S l.length listed a w
  | [], listed, a, w, hc, _, h => wpAnyH_done (by simpa [certFrom] using hc) h 0
  | (i, true) :: r, listed, a, w, hc, hS, h => by
    obtain ⟨o, v, ho, hy, hr⟩ := h
    simp only [certFrom, Bool.and_eq_true] at hc
    exact wpAnyH_take ho hsel hc.1.1.2 hc.1.2 (fun c a w h => hQ c a _ _ w h) hy hS (wpAnyH_of_wpS hsel hQ r _ _ _ hc.2 hS hr)
  | (i, false) :: r, listed, a, w, hc, hS, h => by
    simp only [certFrom, Bool.and_eq_true, beq_iff_eq] at hc
    refine wpAnyH_all hc.1.2 (by simp) fun j hj => ?_
    obtain rfl : j = i := by simpa using hj
    exact wpOp_mono (fun a' w' h' => ⟨h'.1, wpAnyH_of_wpS hsel hQ r _ _ _ hc.2 h'.1 h'.2⟩) h

/-- THE BEGINNING. -/
theorem wp_region_S {id : Nat} {a : Act} {w : World} (l : List (Nat × Bool)) (hm : P.follows .mixedOrders = true) (hc : certOk .any ops l = true) (hQ : ∀ c (a : Act) d v w, Q (.panic c) (a.put d v) w → Q (.panic c) a w)
    (hS : S w.drew) (h : wpS P ops Q S l a w.drew) : (Code.region id ops true).wp P Q a w := by
  simp only [certOk, Bool.and_eq_true, beq_iff_eq] at hc
  refine wp_region_held_drew (S := S) hm hS fun _ => ?_
  rw [← hc.1.2]
  exact wpAnyH_of_wpS hc.1.1 hQ l _ a _ (by rw [hc.1.2]; exact hc.2) hS h

variable {r : List (Nat × Bool)} {i : Nat} {o : Oper} {a : Act} {w : World}
theorem wpS_nil (h : Q .normal a w) : wpS P ops Q S [] a w := h
theorem wpS_skip (ho : ops[i]? = some o) (hw : Region.wanted o (yielded ops a.tmps) = false) (h : wpS P ops Q S r (a.put o.dst undef) w) : wpS P ops Q S ((i, true) :: r) a w :=
  ⟨o, _, ho, .inr ⟨hw, rfl⟩, h⟩
theorem wpS_light {v : Value} (ho : ops[i]? = some o) (hw : Region.wanted o (yielded ops a.tmps) = true) (hy : ∀ w, S w → (execOp a.eval o).run P w = .ok (.value v) w) (h : wpS P ops Q S r (a.put o.dst v) w) : wpS P ops Q S ((i, true) :: r) a w :=
  ⟨o, v, ho, .inl ⟨hw, hy⟩, h⟩
theorem wpS_heavy (ho : ops[i]? = some o) (hw : Region.wanted o (yielded ops a.tmps) = true) (h : ∀ K : Act → World → Prop, (∀ a w, S w ∧ (S w → wpS P ops Q S r a w) → K a w) → o.wp P a w K Q) : wpS P ops Q S ((i, false) :: r) a w :=
  wpOp_step ho fun K hK => by rw [if_pos hw]; exact h K fun a w hh => hK a w ⟨hh.1, hh.2 hh.1⟩
theorem wpS_hskip (hS : S w) (ho : ops[i]? = some o) (hw : Region.wanted o (yielded ops a.tmps) = false) (h : wpS P ops Q S r (a.put o.dst undef) w) : wpS P ops Q S ((i, false) :: r) a w :=
  wpOp_step ho fun K hK => by rw [if_neg (by rw [hw]; simp)]; exact hK _ _ ⟨hS, h⟩

/-! ### The condition 'all that lay when the region began lies as it lay' -/
theorem wp_region_B {id : Nat} (l : List (Nat × Bool)) (hm : P.follows .mixedOrders = true) (hc : certOk .any ops l = true) (hQ : ∀ c (a : Act) d v w, Q (.panic c) (a.put d v) w → Q (.panic c) a w)
    (h : Below w.heap.size w w.drew → wpS P ops Q (fun w' => Below w.heap.size w w') l a w.drew) : (Code.region id ops true).wp P Q a w :=
  wp_region_S l hm hc hQ (Below.refl _ _).drew (h (Below.refl _ _).drew)
theorem wpS_heavyB {W0 W : World} (hS : Below W0.heap.size W0 W) (ho : ops[i]? = some o) (hw : Region.wanted o (yielded ops a.tmps) = true)
    (h : ∀ K : Act → World → Prop, (∀ a w, Below W.heap.size W w ∧ (Below W0.heap.size W0 w → wpS P ops Q (fun w' => Below W0.heap.size W0 w') r a w) → K a w) → o.wp P a W K Q) : wpS P ops Q (fun w' => Below W0.heap.size W0 w') ((i, false) :: r) a W :=
  wpS_heavy ho hw fun K hK => h K fun a w hh => hK a w ⟨hS.trans (hh.1.mono hS.size), hh.2⟩
theorem wpS_lightB {W0 : World} {v : Value} (ho : ops[i]? = some o) (hw : Region.wanted o (yielded ops a.tmps) = true)
    (hy : ∀ w, (∀ b o, b < W0.heap.size → w.cell? ⟨b, o, none⟩ = W0.cell? ⟨b, o, none⟩) → (execOp a.eval o).run P w = .ok (.value v) w)
    (h : wpS P ops Q (fun w' => Below W0.heap.size W0 w') r (a.put o.dst v) w) : wpS P ops Q (fun w' => Below W0.heap.size W0 w') ((i, true) :: r) a w :=
  wpS_light ho hw (fun w hS => hy w fun b o hb => hS.cell (p := ⟨b, o, none⟩) hb) h
end

/-- A world by what is known of it. -/
theorem abs {R : World → Prop} {W : World} (T : World → Prop) (hT : T W) (h : ∀ W, T W → R W) : R W := h W hT

theorem panic_body {P : Program} {fn : Func} {R : Ending → World → Prop} {c : List PanicEntry} {a : Act} {d : Option Tmp} {v : Value} {w : World} (h : bodyPost P fn R (.panic c) (a.put d v) w) : bodyPost P fn R (.panic c) a w := by
  cases d <;> exact h
end Go.Chz
