/-
  A part of the proof of a statement of a chapter's seat; conditions: stated at each theorem.
-/
import Derived.Test.YtfcgmkpihmiadaaP53
import Derived.Test.YtfcgmkpihmiadaaAzR
import Derived.Test.YtfcgmkpihmiadaaRows
import Derived.WalkKit
import Derived.ProofKit
import Derived.OpenShut
import Derived.ShutString
import Derived.ChangeOld
import Derived.ChangeSlices
import Derived.Below
import Derived.Carry
import Derived.Lib.SmallJoins
set_option linter.unusedVariables false
set_option linter.unusedSectionVars false
set_option linter.unusedVariables false
set_option linter.unusedSimpArgs false
namespace Go.Proofs.Ytfcgmkpihmiadaa
open Go.RowKit Go.Az
theorem wfBPoolEnds {k : IntKind} {n : Int} (h : (Lit.int k n).wf = true) : k.min ≤ n ∧ n ≤ k.max := by
  simp only [Lit.wf, Bool.and_eq_true, decide_eq_true_eq] at h; exact h
theorem wPoolEnds (n0 : Int) (a1 : Option Addr) (l1 c1 : Nat) (z1 : List Int) (a2 : Option Addr) (l2 c2 : Nat) (z2 : List Int) (a3 : Option Addr) (l3 c3 : Nat) (z3 : List Int) (w : World) (w0 : (Lit.int .i64 n0).wf = true) (w1 : IsRowX (fun x : Int => [Value.int .i64 x]) (fun x => IntKind.i64.min ≤ x ∧ x ≤ IntKind.i64.max) w a1 l1 c1 z1) (w2 : IsRowX (fun x : Int => [Value.int .i64 x]) (fun x => IntKind.i64.min ≤ x ∧ x ≤ IntKind.i64.max) w a2 l2 c2 z2) (w3 : IsRowX (fun x : Int => [Value.int .i64 x]) (fun x => IntKind.i64.min ≤ x ∧ x ≤ IntKind.i64.max) w a3 l3 c3 z3) :
    Calls Try.prog 6 #[.int .i64 n0, .slice a1 l1 c1, .slice a2 l2 c2, .slice a3 l3 c3] w fun e w' => e = .returned (.bool true) ∧ Below w.heap.size w w' := by
  have ok1 := w1.ok 3
  have ok2 := w2.ok 3
  have ok3 := w3.ok 3
  have ok : ∀ r ∈ ([RowX.mk a1 l1 c1 (z1.flatMap (fun x : Int => [Value.int .i64 x])) 3, RowX.mk a2 l2 c2 (z2.flatMap (fun x : Int => [Value.int .i64 x])) 3, RowX.mk a3 l3 c3 (z3.flatMap (fun x : Int => [Value.int .i64 x])) 3] : List RowX), r.ok w := by
    intro r hr
    simp only [List.mem_cons, List.not_mem_nil, or_false] at hr
    rcases hr with rfl | rfl | rfl
    · exact ok1
    · exact ok2
    · exact ok3
  have b0 := wfBPoolEnds w0
  have h := calls_of_acalls (P := Try.prog) (g := 6) (v := .bool true) (args := [.v (.int .i64 n0), RowX.av (RowX.mk a1 l1 c1 (z1.flatMap (fun x : Int => [Value.int .i64 x])) 3) 0, RowX.av (RowX.mk a2 l2 c2 (z2.flatMap (fun x : Int => [Value.int .i64 x])) 3) 1, RowX.av (RowX.mk a3 l3 c3 (z3.flatMap (fun x : Int => [Value.int .i64 x])) 3) 2]) (rowsX_hrel ok) rowsX_own
    (by simp only [AV.scs, Bool.and_eq_true]; exact ⟨rfl, rowX_sc (i := 0) rfl, rowX_sc (i := 1) rfl, rowX_sc (i := 2) rfl, trivial⟩)
    (law6 n0 _ _ _ _ _ _ _ (rowX_elts (i := 0) (fun _ => ⟨rfl, rfl⟩) w1 rfl) (rowX_elts (i := 1) (fun _ => ⟨rfl, rfl⟩) w2 rfl) (rowX_elts (i := 2) (fun _ => ⟨rfl, rfl⟩) w3 rfl) )
  simp only [AV.reals, AV.real, rowX_real (i := 0) (rs := [RowX.mk a1 l1 c1 (z1.flatMap (fun x : Int => [Value.int .i64 x])) 3, RowX.mk a2 l2 c2 (z2.flatMap (fun x : Int => [Value.int .i64 x])) 3, RowX.mk a3 l3 c3 (z3.flatMap (fun x : Int => [Value.int .i64 x])) 3]) rfl ok1, rowX_real (i := 1) (rs := [RowX.mk a1 l1 c1 (z1.flatMap (fun x : Int => [Value.int .i64 x])) 3, RowX.mk a2 l2 c2 (z2.flatMap (fun x : Int => [Value.int .i64 x])) 3, RowX.mk a3 l3 c3 (z3.flatMap (fun x : Int => [Value.int .i64 x])) 3]) rfl ok2, rowX_real (i := 2) (rs := [RowX.mk a1 l1 c1 (z1.flatMap (fun x : Int => [Value.int .i64 x])) 3, RowX.mk a2 l2 c2 (z2.flatMap (fun x : Int => [Value.int .i64 x])) 3, RowX.mk a3 l3 c3 (z3.flatMap (fun x : Int => [Value.int .i64 x])) 3]) rfl ok3] at h
  exact h


namespace poolEndsDone
open Go.ChangeShapes Go.WideShapes Go.ChangeAt Go.Joins

theorem own : ownKnob Try.prog.godebug = none := by kernel_rfl
theorem laidOut : laidOutB Try.prog = true := by kernel_rfl

set_option maxRecDepth 100000 in
theorem lifted (os : Os) (started : os.Started) (H : Type) (enc : TypeId × Value → H) :
    ReturnsInHanded {} Try.checked os 6 .any (Rows.poolEndsSpec.pre6 enc Try.prog Try.f6 Rows.poolEndsRow.domain false) (Rows.poolEndsSpec.post enc Try.prog Try.f6 false true false false) := by
  refine returnsInHanded_of_change (C := Try.checked) own started (by kernel_rfl) Try.func6
    (ChangeSpec.witness6 (enc := enc) (C := Try.checked) false ⟨#[], #[.int .i64 0, .slice none 0 0, .slice none 0 0, .slice none 0 0], []⟩ 8 (by kernel_rfl) (by kernel_rfl) (by kernel_rfl) (by kernel_rfl)) ?_
  intro W base args ds gs before hval0 hW hcnd _
  have hval : ∀ (j : Nat) t v, Try.f6.params[j]? = some t → args[j]? = some v → Value.okWide Try.prog W .any base t v := hval0
  have hW' := hW
  obtain ⟨p, q, hA0, hV, rfl, hfz, hnd⟩ := hW
  have hA : DataW.TrodAll enc Try.prog W 0 (fun _ => true) true Try.f6.params.toList args.toList ds p := hA0
  rw [Try.params6] at hA hval
  obtain ⟨v0, vs0, d0, ds0, p0, q0, hargs, rfl, rfl, h0, r0⟩ := trodAll_cons hA
  obtain ⟨v1, vs1, d1, ds1, p1, q1, rfl, rfl, rfl, h1, r1⟩ := trodAll_cons r0
  obtain ⟨v2, vs2, d2, ds2, p2, q2, rfl, rfl, rfl, h2, r2⟩ := trodAll_cons r1
  obtain ⟨v3, vs3, d3, ds3, p3, q3, rfl, rfl, rfl, h3, r3⟩ := trodAll_cons r2
  obtain ⟨rfl, rfl, rfl⟩ := trodAll_nil r3
  obtain rfl : args = #[v0, v1, v2, v3] := by cases args; simp_all
  obtain ⟨rfl, rfl⟩ := trodVars_none hV
  have k0 := h0
  have lt0 : ∀ x ∈ p0, x.block < W.heap.size := by obtain ⟨m, hm⟩ := k0; exact DataW.trod_lt m _ _ _ hm
  obtain ⟨n0, rfl, rfl, rfl, w0⟩ := open_int Try.underlying3 (hval 0 3 v0 rfl rfl) h0
  have k1 := h1
  have lt1 : ∀ x ∈ p1, x.block < W.heap.size := by obtain ⟨m, hm⟩ := k1; exact DataW.trod_lt m _ _ _ hm
  have hcc1 := cell_of_value Try.underlying22 (hval 1 22 v1 rfl rfl)
  obtain ⟨a1, l1, c1, z1, rfl, w1⟩ : ∃ a len cap zs, v1 = .slice a len cap ∧ IsRowX (fun x : Int => [Value.int .i64 x]) (fun x => IntKind.i64.min ≤ x ∧ x ≤ IntKind.i64.max) W a len cap zs := by
    obtain ⟨fuel, hf⟩ := h1
    obtain ⟨a, len, cap, rfl, _⟩ := cell_slice Try.underlying22 hcc1
    exact open_rows Try.underlying22 (q := 1) (by kernel_rfl) (fun _ => rfl) (el_int Try.underlying3) hcc1 (by simpa [Value.cells] using hf)
  have k2 := h2
  have lt2 : ∀ x ∈ p2, x.block < W.heap.size := by obtain ⟨m, hm⟩ := k2; exact DataW.trod_lt m _ _ _ hm
  have hcc2 := cell_of_value Try.underlying22 (hval 2 22 v2 rfl rfl)
  obtain ⟨a2, l2, c2, z2, rfl, w2⟩ : ∃ a len cap zs, v2 = .slice a len cap ∧ IsRowX (fun x : Int => [Value.int .i64 x]) (fun x => IntKind.i64.min ≤ x ∧ x ≤ IntKind.i64.max) W a len cap zs := by
    obtain ⟨fuel, hf⟩ := h2
    obtain ⟨a, len, cap, rfl, _⟩ := cell_slice Try.underlying22 hcc2
    exact open_rows Try.underlying22 (q := 1) (by kernel_rfl) (fun _ => rfl) (el_int Try.underlying3) hcc2 (by simpa [Value.cells] using hf)
  have k3 := h3
  have lt3 : ∀ x ∈ p3, x.block < W.heap.size := by obtain ⟨m, hm⟩ := k3; exact DataW.trod_lt m _ _ _ hm
  have hcc3 := cell_of_value Try.underlying22 (hval 3 22 v3 rfl rfl)
  obtain ⟨a3, l3, c3, z3, rfl, w3⟩ : ∃ a len cap zs, v3 = .slice a len cap ∧ IsRowX (fun x : Int => [Value.int .i64 x]) (fun x => IntKind.i64.min ≤ x ∧ x ≤ IntKind.i64.max) W a len cap zs := by
    obtain ⟨fuel, hf⟩ := h3
    obtain ⟨a, len, cap, rfl, _⟩ := cell_slice Try.underlying22 hcc3
    exact open_rows Try.underlying22 (q := 1) (by kernel_rfl) (fun _ => rfl) (el_int Try.underlying3) hcc3 (by simpa [Value.cells] using hf)
  clear hA0 hval0
  refine (wPoolEnds n0 a1 l1 c1 z1 a2 l2 c2 z2 a3 l3 c3 z3 W w0 w1 w2 w3).mono fun e W' ⟨he, bel⟩ => ?_
  subst he
  exact ⟨_, rfl, _, _, _, [], _, [], hW', trodAll_mk1 (shut_bool Try.underlying4 _), (trodAll_cons_mk (Below.trod laidOut (by kernel_rfl) (of_decide_eq_true (by kernel_rfl)) k0 bel lt0) (trodAll_cons_mk (Below.trod laidOut (by kernel_rfl) (of_decide_eq_true (by kernel_rfl)) k1 bel lt1) (trodAll_cons_mk (Below.trod laidOut (by kernel_rfl) (of_decide_eq_true (by kernel_rfl)) k2 bel lt2) (trodAll_cons_mk (Below.trod laidOut (by kernel_rfl) (of_decide_eq_true (by kernel_rfl)) k3 bel lt3) trodAll_mk0)))), rfl, bel.frame _, fun h => by cases h⟩

theorem over : Rows.poolEndsRow.holds Try.pinned (OpenSpec.ofChange Rows.poolEndsSpec) :=
  OpenClaim.holds_of_wide 6 Try.f6 rfl rfl rfl rfl rfl rfl rfl ⟨rfl, rfl, rfl, rfl, rfl⟩ rfl rfl rfl rfl rfl (by kernel_rfl) Try.func6 (by kernel_rfl)
    (of_decide_eq_true (by kernel_rfl)) (by unfold Func.isWrapper; first | (rw [if_pos (by decide +kernel)]; kernel_rfl) | (rw [if_neg (by decide +kernel)]; exact ⟨rfl, rfl⟩))
    (fun os started H enc _ => lifted os started H enc)

/-- ████ THE STATEMENT ████ -/
theorem proved : Rows.PoolEndsSaid := over
#print axioms proved
end poolEndsDone

end Go.Proofs.Ytfcgmkpihmiadaa
