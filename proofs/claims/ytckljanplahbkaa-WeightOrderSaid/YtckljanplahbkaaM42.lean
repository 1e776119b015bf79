/-
  A part of the proof of a statement of a chapter's seat; conditions: stated at each theorem.
-/
import Derived.Test.YtckljanplahbkaaM39
import Derived.Test.YtckljanplahbkaaAzR
import Derived.Test.YtckljanplahbkaaRows
import Derived.WalkKit
import Derived.ProofKit
import Derived.OpenShut
import Derived.ShutString
import Derived.ChangeOld
import Derived.ChangeSlices
import Derived.Below
import Derived.Carry
import Derived.Lib.SmallJoins
set_option linter.unusedVariables false
set_option linter.unusedSectionVars false
set_option linter.unusedVariables false
set_option linter.unusedSimpArgs false
namespace Go.Proofs.Ytckljanplahbkaa
open Go.RowKit Go.Az
theorem wfBWeightOrder {k : IntKind} {n : Int} (h : (Lit.int k n).wf = true) : k.min ≤ n ∧ n ≤ k.max := by
  simp only [Lit.wf, Bool.and_eq_true, decide_eq_true_eq] at h; exact h
theorem wWeightOrder (a0 : Option Addr) (l0 c0 : Nat) (z0 : List Int) (n1 : Int) (w : World) (w0 : IsRowX (fun x : Int => [Value.int .i64 x]) (fun x => IntKind.i64.min ≤ x ∧ x ≤ IntKind.i64.max) w a0 l0 c0 z0) (w1 : (Lit.int .i64 n1).wf = true) :
    Calls Try.prog 9 #[.slice a0 l0 c0, .int .i64 n1] w fun e w' => e = .returned (.bool true) ∧ Below w.heap.size w w' := by
  have ok0 := w0.ok 3
  have ok : ∀ r ∈ ([RowX.mk a0 l0 c0 (z0.flatMap (fun x : Int => [Value.int .i64 x])) 3] : List RowX), r.ok w := by
    intro r hr
    simp only [List.mem_cons, List.not_mem_nil, or_false] at hr
    subst hr; exact ok0
  have b1 := wfBWeightOrder w1
  have h := calls_of_acalls (P := Try.prog) (g := 9) (v := .bool true) (args := [RowX.av (RowX.mk a0 l0 c0 (z0.flatMap (fun x : Int => [Value.int .i64 x])) 3) 0, .v (.int .i64 n1)]) (rowsX_hrel ok) rowsX_own
    (by simp only [AV.scs, Bool.and_eq_true]; exact ⟨rowX_sc (i := 0) rfl, rfl, trivial⟩)
    (law9 n1 _ _ _ (rowX_elts (i := 0) (fun _ => ⟨rfl, rfl⟩) w0 rfl) )
  simp only [AV.reals, AV.real, rowX_real (i := 0) (rs := [RowX.mk a0 l0 c0 (z0.flatMap (fun x : Int => [Value.int .i64 x])) 3]) rfl ok0] at h
  exact h


namespace weightOrderDone
open Go.ChangeShapes Go.WideShapes Go.ChangeAt Go.Joins

theorem own : ownKnob Try.prog.godebug = none := by kernel_rfl
theorem laidOut : laidOutB Try.prog = true := by kernel_rfl

set_option maxRecDepth 100000 in
theorem lifted (os : Os) (started : os.Started) (H : Type) (enc : TypeId × Value → H) :
    ReturnsInHanded {} Try.checked os 9 .any (Rows.weightOrderSpec.pre6 enc Try.prog Try.f9 Rows.weightOrderRow.domain false) (Rows.weightOrderSpec.post enc Try.prog Try.f9 false true false false) := by
  refine returnsInHanded_of_change (C := Try.checked) own started (by kernel_rfl) Try.func9
    (ChangeSpec.witness6 (enc := enc) (C := Try.checked) false ⟨#[], #[.slice none 0 0, .int .i64 0], []⟩ 8 (by kernel_rfl) (by kernel_rfl) (by kernel_rfl) (by kernel_rfl)) ?_
  intro W base args ds gs before hval0 hW hcnd _
  have hval : ∀ (j : Nat) t v, Try.f9.params[j]? = some t → args[j]? = some v → Value.okWide Try.prog W .any base t v := hval0
  have hW' := hW
  obtain ⟨p, q, hA0, hV, rfl, hfz, hnd⟩ := hW
  have hA : DataW.TrodAll enc Try.prog W 0 (fun _ => true) true Try.f9.params.toList args.toList ds p := hA0
  rw [Try.params9] at hA hval
  obtain ⟨v0, vs0, d0, ds0, p0, q0, hargs, rfl, rfl, h0, r0⟩ := trodAll_cons hA
  obtain ⟨v1, vs1, d1, ds1, p1, q1, rfl, rfl, rfl, h1, r1⟩ := trodAll_cons r0
  obtain ⟨rfl, rfl, rfl⟩ := trodAll_nil r1
  obtain rfl : args = #[v0, v1] := by cases args; simp_all
  obtain ⟨rfl, rfl⟩ := trodVars_none hV
  have k0 := h0
  have lt0 : ∀ x ∈ p0, x.block < W.heap.size := by obtain ⟨m, hm⟩ := k0; exact DataW.trod_lt m _ _ _ hm
  have hcc0 := cell_of_value Try.underlying22 (hval 0 22 v0 rfl rfl)
  obtain ⟨a0, l0, c0, z0, rfl, w0⟩ : ∃ a len cap zs, v0 = .slice a len cap ∧ IsRowX (fun x : Int => [Value.int .i64 x]) (fun x => IntKind.i64.min ≤ x ∧ x ≤ IntKind.i64.max) W a len cap zs := by
    obtain ⟨fuel, hf⟩ := h0
    obtain ⟨a, len, cap, rfl, _⟩ := cell_slice Try.underlying22 hcc0
    exact open_rows Try.underlying22 (q := 1) (by kernel_rfl) (fun _ => rfl) (el_int Try.underlying3) hcc0 (by simpa [Value.cells] using hf)
  have k1 := h1
  have lt1 : ∀ x ∈ p1, x.block < W.heap.size := by obtain ⟨m, hm⟩ := k1; exact DataW.trod_lt m _ _ _ hm
  obtain ⟨n1, rfl, rfl, rfl, w1⟩ := open_int Try.underlying3 (hval 1 3 v1 rfl rfl) h1
  clear hA0 hval0
  refine (wWeightOrder a0 l0 c0 z0 n1 W w0 w1).mono fun e W' ⟨he, bel⟩ => ?_
  subst he
  exact ⟨_, rfl, _, _, _, [], _, [], hW', trodAll_mk1 (shut_bool Try.underlying4 _), (trodAll_cons_mk (Below.trod laidOut (by kernel_rfl) (of_decide_eq_true (by kernel_rfl)) k0 bel lt0) (trodAll_cons_mk (Below.trod laidOut (by kernel_rfl) (of_decide_eq_true (by kernel_rfl)) k1 bel lt1) trodAll_mk0)), rfl, bel.frame _, fun h => by cases h⟩

theorem over : Rows.weightOrderRow.holds Try.pinned (OpenSpec.ofChange Rows.weightOrderSpec) :=
  OpenClaim.holds_of_wide 9 Try.f9 rfl rfl rfl rfl rfl rfl rfl ⟨rfl, rfl, rfl, rfl, rfl⟩ rfl rfl rfl rfl rfl (by kernel_rfl) Try.func9 (by kernel_rfl)
    (of_decide_eq_true (by kernel_rfl)) (by unfold Func.isWrapper; first | (rw [if_pos (by decide +kernel)]; kernel_rfl) | (rw [if_neg (by decide +kernel)]; exact ⟨rfl, rfl⟩))
    (fun os started H enc _ => lifted os started H enc)

/-- ████ THE STATEMENT ████ -/
theorem proved : Rows.WeightOrderSaid := over
#print axioms proved
end weightOrderDone

end Go.Proofs.Ytckljanplahbkaa
