/-
  A part of the proof of a statement of a chapter's seat; conditions: stated at each theorem.
-/
import Derived.Test.YtfhbbpdnmdbjbaaK13
import Derived.Test.YtfhbbpdnmdbjbaaAzZH
import Derived.Test.YtfhbbpdnmdbjbaaRows
import Derived.WalkKit
import Derived.ProofKit
import Derived.OpenShut
import Derived.ShutString
import Derived.ChangeOld
import Derived.ChangeSlices
import Derived.Below
import Derived.Carry
import Derived.Lib.SmallJoins
set_option linter.unusedVariables false
set_option linter.unusedSectionVars false
namespace Go.Proofs.Ytfhbbpdnmdbjbaa
open Go.RowKit Go.Az
theorem wfBWorkerPicks {k : IntKind} {n : Int} (h : (Lit.int k n).wf = true) : k.min ≤ n ∧ n ≤ k.max := by
  simp only [Lit.wf, Bool.and_eq_true, decide_eq_true_eq] at h; exact h
theorem wWorkerPicks (n0_0 : Int) (n0_1 : Int) (a1 : Option Addr) (l1 c1 : Nat) (z1 : List Tk) (n2 : Bool) (w : World) (w0_0 : (Lit.int .i64 n0_0).wf = true) (w0_1 : (Lit.int .i64 n0_1).wf = true) (w1 : IsRowX encTV wfT w a1 l1 c1 z1) :
    Calls Try.prog 4 #[.agg #[.int .i64 n0_0, .int .i64 n0_1], .slice a1 l1 c1, .bool n2] w fun e w' => e = .returned (.bool true) ∧ Below w.heap.size w w' := by
  have ok1 := w1.ok 23
  have ok : ∀ r ∈ ([RowX.mk a1 l1 c1 (z1.flatMap encTV) 23] : List RowX), r.ok w := by
    intro r hr
    simp only [List.mem_cons, List.not_mem_nil, or_false] at hr
    subst hr; exact ok1
  have b0_0 := wfBWorkerPicks w0_0
  have b0_1 := wfBWorkerPicks w0_1
  have h := calls_of_acalls (P := Try.prog) (g := 4) (v := .bool true) (args := [.agg [.v (.int .i64 n0_0), .v (.int .i64 n0_1)], RowX.av (RowX.mk a1 l1 c1 (z1.flatMap encTV) 23) 0, .v (.bool n2)]) (rowsX_hrel ok) rowsX_own
    (by simp only [AV.scs, Bool.and_eq_true]; exact ⟨rfl, rowX_sc (i := 0) rfl, rfl, trivial⟩)
    (law4 n0_0 n0_1 n2 _ _ _ (rowX_elts (i := 0) (fun _ => ⟨rfl, rfl⟩) w1 rfl) )
  simp only [AV.reals, AV.real, rowX_real (i := 0) (rs := [RowX.mk a1 l1 c1 (z1.flatMap encTV) 23]) rfl ok1] at h
  exact h


namespace workerPicksDone
open Go.ChangeShapes Go.WideShapes Go.ChangeAt Go.Joins

theorem own : ownKnob Try.prog.godebug = none := by kernel_rfl
theorem laidOut : laidOutB Try.prog = true := by kernel_rfl

set_option maxRecDepth 100000 in
theorem lifted (os : Os) (started : os.Started) (H : Type) (enc : TypeId × Value → H) :
    ReturnsInHanded {} Try.checked os 4 .any (Rows.workerPicksSpec.pre6 enc Try.prog Try.f4 Rows.workerPicksRow.domain false) (Rows.workerPicksSpec.post enc Try.prog Try.f4 false true false false) := by
  refine returnsInHanded_of_change (C := Try.checked) own started (by kernel_rfl) Try.func4
    (ChangeSpec.witness6 (enc := enc) (C := Try.checked) false ⟨#[], #[.agg #[.int .i64 0, .int .i64 0], .slice none 0 0, .bool false], []⟩ 8 (by kernel_rfl) (by kernel_rfl) (by kernel_rfl) (by kernel_rfl)) ?_
  intro W base args ds gs before hval0 hW hcnd _
  have hval : ∀ (j : Nat) t v, Try.f4.params[j]? = some t → args[j]? = some v → Value.okWide Try.prog W .any base t v := hval0
  have hW' := hW
  obtain ⟨p, q, hA0, hV, rfl, hfz, hnd⟩ := hW
  have hA : DataW.TrodAll enc Try.prog W 0 (fun _ => true) true Try.f4.params.toList args.toList ds p := hA0
  rw [Try.params4] at hA hval
  obtain ⟨v0, vs0, d0, ds0, p0, q0, hargs, rfl, rfl, h0, r0⟩ := trodAll_cons hA
  obtain ⟨v1, vs1, d1, ds1, p1, q1, rfl, rfl, rfl, h1, r1⟩ := trodAll_cons r0
  obtain ⟨v2, vs2, d2, ds2, p2, q2, rfl, rfl, rfl, h2, r2⟩ := trodAll_cons r1
  obtain ⟨rfl, rfl, rfl⟩ := trodAll_nil r2
  obtain rfl : args = #[v0, v1, v2] := by cases args; simp_all
  obtain ⟨rfl, rfl⟩ := trodVars_none hV
  have k0 := h0
  have lt0 : ∀ x ∈ p0, x.block < W.heap.size := by obtain ⟨m, hm⟩ := k0; exact DataW.trod_lt m _ _ _ hm
  have hvv0 := (hval 0 30 v0 rfl rfl)
  obtain ⟨x0_0, x0_1, y0_0, y0_1, m0, rfl, rfl, rfl, t0_0, t0_1⟩ := open_agg2 Try.underlying30 (by kernel_rfl) (by kernel_rfl) hvv0 h0
  obtain ⟨n0_0, e0_0, _, w0_0⟩ := DataW.trod_int Try.underlying3 t0_0
  obtain rfl : x0_0 = _ := (List.cons.inj e0_0).1
  obtain ⟨n0_1, e0_1, _, w0_1⟩ := DataW.trod_int Try.underlying3 t0_1
  obtain rfl : x0_1 = _ := (List.cons.inj e0_1).1
  have k1 := h1
  have lt1 : ∀ x ∈ p1, x.block < W.heap.size := by obtain ⟨m, hm⟩ := k1; exact DataW.trod_lt m _ _ _ hm
  have hcc1 := cell_of_value Try.underlying34 (hval 1 34 v1 rfl rfl)
  obtain ⟨a1, l1, c1, z1, rfl, w1⟩ : ∃ a len cap zs, v1 = .slice a len cap ∧ IsRowX encTV wfT W a len cap zs := by
    obtain ⟨fuel, hf⟩ := h1
    obtain ⟨a, len, cap, rfl, _⟩ := cell_slice Try.underlying34 hcc1
    exact open_rows Try.underlying34 (q := 4) (by kernel_rfl) (fun _ => rfl) (el_T) hcc1 (by simpa [Value.cells] using hf)
  have k2 := h2
  have lt2 : ∀ x ∈ p2, x.block < W.heap.size := by obtain ⟨m, hm⟩ := k2; exact DataW.trod_lt m _ _ _ hm
  obtain ⟨n2, rfl, rfl, rfl⟩ := open_bool Try.underlying4 (hval 2 4 v2 rfl rfl) h2
  clear hA0 hval0
  refine (wWorkerPicks n0_0 n0_1 a1 l1 c1 z1 n2 W w0_0 w0_1 w1).mono fun e W' ⟨he, bel⟩ => ?_
  subst he
  exact ⟨_, rfl, _, _, _, [], _, [], hW', trodAll_mk1 (shut_bool Try.underlying4 _), (trodAll_cons_mk (Below.trod laidOut (by kernel_rfl) (of_decide_eq_true (by kernel_rfl)) k0 bel lt0) (trodAll_cons_mk (Below.trod laidOut (by kernel_rfl) (of_decide_eq_true (by kernel_rfl)) k1 bel lt1) (trodAll_cons_mk (Below.trod laidOut (by kernel_rfl) (of_decide_eq_true (by kernel_rfl)) k2 bel lt2) trodAll_mk0))), rfl, bel.frame _, fun h => by cases h⟩

theorem over : Rows.workerPicksRow.holds Try.pinned (OpenSpec.ofChange Rows.workerPicksSpec) :=
  OpenClaim.holds_of_wide 4 Try.f4 rfl rfl rfl rfl rfl rfl rfl ⟨rfl, rfl, rfl, rfl, rfl⟩ rfl rfl rfl rfl rfl (by kernel_rfl) Try.func4 (by kernel_rfl)
    (of_decide_eq_true (by kernel_rfl)) (by unfold Func.isWrapper; first | (rw [if_pos (by decide +kernel)]; kernel_rfl) | (rw [if_neg (by decide +kernel)]; exact ⟨rfl, rfl⟩))
    (fun os started H enc _ => lifted os started H enc)

/-- ████ THE STATEMENT ████ -/
theorem proved : Rows.WorkerPicksSaid := over
#print axioms proved
end workerPicksDone

end Go.Proofs.Ytfhbbpdnmdbjbaa
