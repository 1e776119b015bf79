/-
  A part of the proof of a statement of a chapter's seat; conditions: stated at each theorem.
-/
import Derived.Test.YtgjbmhclgmpjdaaGreatQ28
import Derived.Test.YtgjbmhclgmpjdaaGreatAzR
import Derived.Test.YtgjbmhclgmpjdaaGreatRows
import Derived.WalkKit
import Derived.ProofKit
import Derived.OpenShut
import Derived.ShutString
import Derived.ChangeOld
import Derived.ChangeSlices
import Derived.Below
import Derived.Carry
import Derived.Lib.SmallJoins
set_option linter.unusedVariables false
set_option linter.unusedSectionVars false
set_option linter.unusedVariables false
set_option linter.unusedSimpArgs false
namespace Go.Proofs.YtgjbmhclgmpjdaaGreat
open Go.RowKit Go.Az
theorem wfBTopFrames {k : IntKind} {n : Int} (h : (Lit.int k n).wf = true) : k.min ≤ n ∧ n ≤ k.max := by
  simp only [Lit.wf, Bool.and_eq_true, decide_eq_true_eq] at h; exact h
theorem wTopFrames (a0 : Option Addr) (l0 c0 : Nat) (z0 : List Int) (a1 : Option Addr) (l1 c1 : Nat) (z1 : List Int) (n2 : ByteArray) (n3 : Int) (w : World) (w0 : IsRowX (fun x : Int => [Value.int .i64 x]) (fun x => IntKind.i64.min ≤ x ∧ x ≤ IntKind.i64.max) w a0 l0 c0 z0) (w1 : IsRowX (fun x : Int => [Value.int .i64 x]) (fun x => IntKind.i64.min ≤ x ∧ x ≤ IntKind.i64.max) w a1 l1 c1 z1) (w2 : n2.size ≤ maxLen) (w3 : (Lit.int .i64 n3).wf = true) :
    Calls Tryz.prog 4 #[.slice a0 l0 c0, .slice a1 l1 c1, .string n2, .int .i64 n3] w fun e w' => e = .returned (.bool true) ∧ Below w.heap.size w w' := by
  have ok0 := w0.ok 3
  have ok1 := w1.ok 3
  have ok : ∀ r ∈ ([RowX.mk a0 l0 c0 (z0.flatMap (fun x : Int => [Value.int .i64 x])) 3, RowX.mk a1 l1 c1 (z1.flatMap (fun x : Int => [Value.int .i64 x])) 3] : List RowX), r.ok w := by
    intro r hr
    simp only [List.mem_cons, List.not_mem_nil, or_false] at hr
    rcases hr with rfl | rfl
    · exact ok0
    · exact ok1
  have b3 := wfBTopFrames w3
  have h := calls_of_acalls (P := Tryz.prog) (g := 4) (v := .bool true) (args := [RowX.av (RowX.mk a0 l0 c0 (z0.flatMap (fun x : Int => [Value.int .i64 x])) 3) 0, RowX.av (RowX.mk a1 l1 c1 (z1.flatMap (fun x : Int => [Value.int .i64 x])) 3) 1, .v (.string n2), .v (.int .i64 n3)]) (rowsX_hrel ok) rowsX_own
    (by simp only [AV.scs, Bool.and_eq_true]; exact ⟨rowX_sc (i := 0) rfl, rowX_sc (i := 1) rfl, rfl, rfl, trivial⟩)
    (law4 n2.data.toList n3 _ _ _ _ _ (rowX_elts (i := 0) (fun _ => ⟨rfl, rfl⟩) w0 rfl) (rowX_elts (i := 1) (fun _ => ⟨rfl, rfl⟩) w1 rfl) (rowX_len w0) (rowX_len w1) (str_len w2))
  simp only [AV.reals, AV.real, rowX_real (i := 0) (rs := [RowX.mk a0 l0 c0 (z0.flatMap (fun x : Int => [Value.int .i64 x])) 3, RowX.mk a1 l1 c1 (z1.flatMap (fun x : Int => [Value.int .i64 x])) 3]) rfl ok0, rowX_real (i := 1) (rs := [RowX.mk a0 l0 c0 (z0.flatMap (fun x : Int => [Value.int .i64 x])) 3, RowX.mk a1 l1 c1 (z1.flatMap (fun x : Int => [Value.int .i64 x])) 3]) rfl ok1] at h
  exact h


namespace topFramesDone
open Go.ChangeShapes Go.WideShapes Go.ChangeAt Go.Joins

theorem own : ownKnob Tryz.prog.godebug = none := by kernel_rfl
theorem laidOut : laidOutB Tryz.prog = true := by kernel_rfl

set_option maxRecDepth 100000 in
theorem lifted (os : Os) (started : os.Started) (H : Type) (enc : TypeId × Value → H) :
    ReturnsInHanded {} Tryz.checked os 4 .any (Rows.topFramesSpec.pre6 enc Tryz.prog Tryz.f4 Rows.topFramesRow.domain false) (Rows.topFramesSpec.post enc Tryz.prog Tryz.f4 false true false false) := by
  refine returnsInHanded_of_change (C := Tryz.checked) own started (by kernel_rfl) Tryz.func4
    (ChangeSpec.witness6 (enc := enc) (C := Tryz.checked) false ⟨#[], #[.slice none 0 0, .slice none 0 0, .string ⟨#[]⟩, .int .i64 0], []⟩ 8 (by kernel_rfl) (by kernel_rfl) (by kernel_rfl) (by kernel_rfl)) ?_
  intro W base args ds gs before hval0 hW hcnd _
  have hval : ∀ (j : Nat) t v, Tryz.f4.params[j]? = some t → args[j]? = some v → Value.okWide Tryz.prog W .any base t v := hval0
  have hW' := hW
  obtain ⟨p, q, hA0, hV, rfl, hfz, hnd⟩ := hW
  have hA : DataW.TrodAll enc Tryz.prog W 0 (fun _ => true) true Tryz.f4.params.toList args.toList ds p := hA0
  rw [Tryz.params4] at hA hval
  obtain ⟨v0, vs0, d0, ds0, p0, q0, hargs, rfl, rfl, h0, r0⟩ := trodAll_cons hA
  obtain ⟨v1, vs1, d1, ds1, p1, q1, rfl, rfl, rfl, h1, r1⟩ := trodAll_cons r0
  obtain ⟨v2, vs2, d2, ds2, p2, q2, rfl, rfl, rfl, h2, r2⟩ := trodAll_cons r1
  obtain ⟨v3, vs3, d3, ds3, p3, q3, rfl, rfl, rfl, h3, r3⟩ := trodAll_cons r2
  obtain ⟨rfl, rfl, rfl⟩ := trodAll_nil r3
  obtain rfl : args = #[v0, v1, v2, v3] := by cases args; simp_all
  obtain ⟨rfl, rfl⟩ := trodVars_none hV
  have k0 := h0
  have lt0 : ∀ x ∈ p0, x.block < W.heap.size := by obtain ⟨m, hm⟩ := k0; exact DataW.trod_lt m _ _ _ hm
  have hcc0 := cell_of_value Tryz.underlying22 (hval 0 22 v0 rfl rfl)
  obtain ⟨a0, l0, c0, z0, rfl, w0⟩ : ∃ a len cap zs, v0 = .slice a len cap ∧ IsRowX (fun x : Int => [Value.int .i64 x]) (fun x => IntKind.i64.min ≤ x ∧ x ≤ IntKind.i64.max) W a len cap zs := by
    obtain ⟨fuel, hf⟩ := h0
    obtain ⟨a, len, cap, rfl, _⟩ := cell_slice Tryz.underlying22 hcc0
    exact open_rows Tryz.underlying22 (q := 1) (by kernel_rfl) (fun _ => rfl) (el_int Tryz.underlying3) hcc0 (by simpa [Value.cells] using hf)
  have k1 := h1
  have lt1 : ∀ x ∈ p1, x.block < W.heap.size := by obtain ⟨m, hm⟩ := k1; exact DataW.trod_lt m _ _ _ hm
  have hcc1 := cell_of_value Tryz.underlying22 (hval 1 22 v1 rfl rfl)
  obtain ⟨a1, l1, c1, z1, rfl, w1⟩ : ∃ a len cap zs, v1 = .slice a len cap ∧ IsRowX (fun x : Int => [Value.int .i64 x]) (fun x => IntKind.i64.min ≤ x ∧ x ≤ IntKind.i64.max) W a len cap zs := by
    obtain ⟨fuel, hf⟩ := h1
    obtain ⟨a, len, cap, rfl, _⟩ := cell_slice Tryz.underlying22 hcc1
    exact open_rows Tryz.underlying22 (q := 1) (by kernel_rfl) (fun _ => rfl) (el_int Tryz.underlying3) hcc1 (by simpa [Value.cells] using hf)
  have k2 := h2
  have lt2 : ∀ x ∈ p2, x.block < W.heap.size := by obtain ⟨m, hm⟩ := k2; exact DataW.trod_lt m _ _ _ hm
  obtain ⟨n2, rfl, rfl, rfl, w2⟩ := Go.ChangeMaps.open_string Tryz.underlying9 (hval 2 9 v2 rfl rfl) h2
  have k3 := h3
  have lt3 : ∀ x ∈ p3, x.block < W.heap.size := by obtain ⟨m, hm⟩ := k3; exact DataW.trod_lt m _ _ _ hm
  obtain ⟨n3, rfl, rfl, rfl, w3⟩ := open_int Tryz.underlying3 (hval 3 3 v3 rfl rfl) h3
  clear hA0 hval0
  refine (wTopFrames a0 l0 c0 z0 a1 l1 c1 z1 n2 n3 W w0 w1 w2 w3).mono fun e W' ⟨he, bel⟩ => ?_
  subst he
  exact ⟨_, rfl, _, _, _, [], _, [], hW', trodAll_mk1 (shut_bool Tryz.underlying4 _), (trodAll_cons_mk (Below.trod laidOut (by kernel_rfl) (of_decide_eq_true (by kernel_rfl)) k0 bel lt0) (trodAll_cons_mk (Below.trod laidOut (by kernel_rfl) (of_decide_eq_true (by kernel_rfl)) k1 bel lt1) (trodAll_cons_mk (Below.trod laidOut (by kernel_rfl) (of_decide_eq_true (by kernel_rfl)) k2 bel lt2) (trodAll_cons_mk (Below.trod laidOut (by kernel_rfl) (of_decide_eq_true (by kernel_rfl)) k3 bel lt3) trodAll_mk0)))), rfl, bel.frame _, fun h => by cases h⟩

theorem over : Rows.topFramesRow.holds Tryz.pinned (OpenSpec.ofChange Rows.topFramesSpec) :=
  OpenClaim.holds_of_wide 4 Tryz.f4 rfl rfl rfl rfl rfl rfl rfl ⟨rfl, rfl, rfl, rfl, rfl⟩ rfl rfl rfl rfl rfl (by kernel_rfl) Tryz.func4 (by kernel_rfl)
    (of_decide_eq_true (by kernel_rfl)) (by unfold Func.isWrapper; first | (rw [if_pos (by decide +kernel)]; kernel_rfl) | (rw [if_neg (by decide +kernel)]; exact ⟨rfl, rfl⟩))
    (fun os started H enc _ => lifted os started H enc)

/-- ████ THE STATEMENT ████ -/
theorem proved : Rows.TopFramesSaid := over
#print axioms proved
end topFramesDone

end Go.Proofs.YtgjbmhclgmpjdaaGreat
