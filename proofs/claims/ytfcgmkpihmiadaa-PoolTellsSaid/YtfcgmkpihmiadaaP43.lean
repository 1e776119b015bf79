/-
  A part of the proof of a statement of a chapter's seat; conditions: stated at each theorem.
-/
import Derived.Test.YtfcgmkpihmiadaaP28
import Derived.Test.YtfcgmkpihmiadaaP42
import Derived.Test.YtfcgmkpihmiadaaAzR
import Derived.Test.YtfcgmkpihmiadaaRows
import Derived.WalkKit
import Derived.ProofKit
import Derived.OpenShut
import Derived.ShutString
import Derived.ChangeOld
import Derived.ChangeSlices
import Derived.Below
import Derived.Carry
import Derived.Lib.SmallJoins
set_option linter.unusedVariables false
set_option linter.unusedSectionVars false
set_option linter.unusedVariables false
set_option linter.unusedSimpArgs false
namespace Go.Proofs.Ytfcgmkpihmiadaa
open Go.RowKit Go.Az
theorem wfBPoolTells {k : IntKind} {n : Int} (h : (Lit.int k n).wf = true) : k.min ≤ n ∧ n ≤ k.max := by
  simp only [Lit.wf, Bool.and_eq_true, decide_eq_true_eq] at h; exact h
theorem wPoolTells (a0_0 : Option Addr) (l0_0 c0_0 : Nat) (z0_0 : List Int) (a0_1 : Option Addr) (l0_1 c0_1 : Nat) (z0_1 : List Wk) (a0_2 : Option Addr) (l0_2 c0_2 : Nat) (z0_2 : List Tk) (n0_3 : Int) (w : World) (w0_0 : IsRowX (fun x : Int => [Value.int .i64 x]) (fun x => IntKind.i64.min ≤ x ∧ x ≤ IntKind.i64.max) w a0_0 l0_0 c0_0 z0_0) (w0_1 : IsRowX encWV wfW w a0_1 l0_1 c0_1 z0_1) (w0_2 : IsRowX encTV wfT w a0_2 l0_2 c0_2 z0_2) (w0_3 : (Lit.int .i64 n0_3).wf = true) :
    Calls Try.prog 8 #[.agg #[.slice a0_0 l0_0 c0_0, .slice a0_1 l0_1 c0_1, .slice a0_2 l0_2 c0_2, .int .i64 n0_3]] w fun e w' => e = .returned (.bool true) ∧ Below w.heap.size w w' := by
  have ok0_0 := w0_0.ok 3
  have ok0_1 := w0_1.ok 53
  have ok0_2 := w0_2.ok 68
  have ok : ∀ r ∈ ([RowX.mk a0_0 l0_0 c0_0 (z0_0.flatMap (fun x : Int => [Value.int .i64 x])) 3, RowX.mk a0_1 l0_1 c0_1 (z0_1.flatMap encWV) 53, RowX.mk a0_2 l0_2 c0_2 (z0_2.flatMap encTV) 68] : List RowX), r.ok w := by
    intro r hr
    simp only [List.mem_cons, List.not_mem_nil, or_false] at hr
    rcases hr with rfl | rfl | rfl
    · exact ok0_0
    · exact ok0_1
    · exact ok0_2
  have b0_3 := wfBPoolTells w0_3
  have h := calls_of_acalls (P := Try.prog) (g := 8) (v := .bool true) (args := [.agg [RowX.av (RowX.mk a0_0 l0_0 c0_0 (z0_0.flatMap (fun x : Int => [Value.int .i64 x])) 3) 0, RowX.av (RowX.mk a0_1 l0_1 c0_1 (z0_1.flatMap encWV) 53) 1, RowX.av (RowX.mk a0_2 l0_2 c0_2 (z0_2.flatMap encTV) 68) 2, .v (.int .i64 n0_3)]]) (rowsX_hrel ok) rowsX_own
    (by simp only [AV.sc, AV.scs, Bool.and_eq_true, Bool.and_true, Bool.true_and]; repeat' (first | exact rowX_sc (i := 0) rfl | exact rowX_sc (i := 1) rfl | exact rowX_sc (i := 2) rfl | exact trivial | rfl | refine ⟨?_, ?_⟩))
    (law8 n0_3 _ _ _ _ _ _ _ (rowX_elts (i := 0) (fun _ => ⟨rfl, rfl⟩) w0_0 rfl) (rowX_elts (i := 1) (fun _ => ⟨rfl, rfl⟩) w0_1 rfl) (rowX_elts (i := 2) (fun _ => ⟨rfl, rfl⟩) w0_2 rfl) )
  simp only [AV.reals, AV.real, rowX_real (i := 0) (rs := [RowX.mk a0_0 l0_0 c0_0 (z0_0.flatMap (fun x : Int => [Value.int .i64 x])) 3, RowX.mk a0_1 l0_1 c0_1 (z0_1.flatMap encWV) 53, RowX.mk a0_2 l0_2 c0_2 (z0_2.flatMap encTV) 68]) rfl ok0_0, rowX_real (i := 1) (rs := [RowX.mk a0_0 l0_0 c0_0 (z0_0.flatMap (fun x : Int => [Value.int .i64 x])) 3, RowX.mk a0_1 l0_1 c0_1 (z0_1.flatMap encWV) 53, RowX.mk a0_2 l0_2 c0_2 (z0_2.flatMap encTV) 68]) rfl ok0_1, rowX_real (i := 2) (rs := [RowX.mk a0_0 l0_0 c0_0 (z0_0.flatMap (fun x : Int => [Value.int .i64 x])) 3, RowX.mk a0_1 l0_1 c0_1 (z0_1.flatMap encWV) 53, RowX.mk a0_2 l0_2 c0_2 (z0_2.flatMap encTV) 68]) rfl ok0_2] at h
  exact h


namespace poolTellsDone
open Go.ChangeShapes Go.WideShapes Go.ChangeAt Go.Joins

theorem own : ownKnob Try.prog.godebug = none := by kernel_rfl
theorem laidOut : laidOutB Try.prog = true := by kernel_rfl

set_option maxRecDepth 100000 in
theorem lifted (os : Os) (started : os.Started) (H : Type) (enc : TypeId × Value → H) :
    ReturnsInHanded {} Try.checked os 8 .any (Rows.poolTellsSpec.pre6 enc Try.prog Try.f8 Rows.poolTellsRow.domain false) (Rows.poolTellsSpec.post enc Try.prog Try.f8 false true false false) := by
  refine returnsInHanded_of_change (C := Try.checked) own started (by kernel_rfl) Try.func8
    (ChangeSpec.witness6 (enc := enc) (C := Try.checked) false ⟨#[], #[.agg #[.slice none 0 0, .slice none 0 0, .slice none 0 0, .int .i64 0]], []⟩ 8 (by kernel_rfl) (by kernel_rfl) (by kernel_rfl) (by kernel_rfl)) ?_
  intro W base args ds gs before hval0 hW hcnd _
  have hval : ∀ (j : Nat) t v, Try.f8.params[j]? = some t → args[j]? = some v → Value.okWide Try.prog W .any base t v := hval0
  have hW' := hW
  obtain ⟨p, q, hA0, hV, rfl, hfz, hnd⟩ := hW
  have hA : DataW.TrodAll enc Try.prog W 0 (fun _ => true) true Try.f8.params.toList args.toList ds p := hA0
  rw [Try.params8] at hA hval
  obtain ⟨v0, vs0, d0, ds0, p0, q0, hargs, rfl, rfl, h0, r0⟩ := trodAll_cons hA
  obtain ⟨rfl, rfl, rfl⟩ := trodAll_nil r0
  obtain rfl : args = #[v0] := by cases args; simp_all
  obtain ⟨rfl, rfl⟩ := trodVars_none hV
  have k0 := h0
  have lt0 : ∀ x ∈ p0, x.block < W.heap.size := by obtain ⟨m, hm⟩ := k0; exact DataW.trod_lt m _ _ _ hm
  have hvv0 := (hval 0 26 v0 rfl rfl)
  obtain ⟨x0_0, x0_1, x0_2, x0_3, y0_0, y0_1, y0_2, y0_3, m0, rfl, rfl, rfl, t0_0, t0_1, t0_2, t0_3⟩ := open_agg4 Try.underlying26 (by kernel_rfl) (by kernel_rfl) hvv0 h0
  have hcc0_0 := cell_of_agg (i := 0) (ts := [22, 23, 24, 3]) Try.underlying26 (by kernel_rfl) hvv0 rfl (by rfl)
  obtain ⟨a0_0, l0_0, c0_0, z0_0, rfl, w0_0⟩ := open_rows (encV := (fun x : Int => [Value.int .i64 x])) (wf := (fun x => IntKind.i64.min ≤ x ∧ x ≤ IntKind.i64.max)) Try.underlying22 (q := 1) (by kernel_rfl) (fun _ => rfl) (el_int Try.underlying3) hcc0_0 t0_0
  have hcc0_1 := cell_of_agg (i := 1) (ts := [22, 23, 24, 3]) Try.underlying26 (by kernel_rfl) hvv0 rfl (by rfl)
  obtain ⟨a0_1, l0_1, c0_1, z0_1, rfl, w0_1⟩ := open_rows (encV := encWV) (wf := wfW) Try.underlying23 (q := 2) (by kernel_rfl) (fun _ => rfl) (el_W) hcc0_1 t0_1
  have hcc0_2 := cell_of_agg (i := 2) (ts := [22, 23, 24, 3]) Try.underlying26 (by kernel_rfl) hvv0 rfl (by rfl)
  obtain ⟨a0_2, l0_2, c0_2, z0_2, rfl, w0_2⟩ := open_rows (encV := encTV) (wf := wfT) Try.underlying24 (q := 4) (by kernel_rfl) (fun _ => rfl) (el_T) hcc0_2 t0_2
  obtain ⟨n0_3, e0_3, _, w0_3⟩ := DataW.trod_int Try.underlying3 t0_3
  obtain rfl : x0_3 = _ := (List.cons.inj e0_3).1
  clear hA0 hval0
  refine (wPoolTells a0_0 l0_0 c0_0 z0_0 a0_1 l0_1 c0_1 z0_1 a0_2 l0_2 c0_2 z0_2 n0_3 W w0_0 w0_1 w0_2 w0_3).mono fun e W' ⟨he, bel⟩ => ?_
  subst he
  exact ⟨_, rfl, _, _, _, [], _, [], hW', trodAll_mk1 (shut_bool Try.underlying4 _), (trodAll_cons_mk (Below.trod laidOut (by kernel_rfl) (of_decide_eq_true (by kernel_rfl)) k0 bel lt0) trodAll_mk0), rfl, bel.frame _, fun h => by cases h⟩

theorem over : Rows.poolTellsRow.holds Try.pinned (OpenSpec.ofChange Rows.poolTellsSpec) :=
  OpenClaim.holds_of_wide 8 Try.f8 rfl rfl rfl rfl rfl rfl rfl ⟨rfl, rfl, rfl, rfl, rfl⟩ rfl rfl rfl rfl rfl (by kernel_rfl) Try.func8 (by kernel_rfl)
    (of_decide_eq_true (by kernel_rfl)) (by unfold Func.isWrapper; first | (rw [if_pos (by decide +kernel)]; kernel_rfl) | (rw [if_neg (by decide +kernel)]; exact ⟨rfl, rfl⟩))
    (fun os started H enc _ => lifted os started H enc)

/-- ████ THE STATEMENT ████ -/
theorem proved : Rows.PoolTellsSaid := over
#print axioms proved
end poolTellsDone

end Go.Proofs.Ytfcgmkpihmiadaa
