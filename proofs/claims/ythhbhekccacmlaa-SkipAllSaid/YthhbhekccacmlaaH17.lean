/-
  A part of the proof of a statement of a chapter's seat; conditions: stated at each theorem.
-/
import Derived.Test.YthhbhekccacmlaaH15
import Derived.Test.YthhbhekccacmlaaAzZH
import Derived.Test.YthhbhekccacmlaaRows
import Derived.WalkKit
import Derived.ProofKit
import Derived.OpenShut
import Derived.ShutString
import Derived.ChangeOld
import Derived.ChangeSlices
import Derived.Below
import Derived.Carry
import Derived.Lib.SmallJoins
set_option linter.unusedVariables false
set_option linter.unusedSectionVars false
set_option linter.unusedSimpArgs false
namespace Go.Proofs.Ythhbhekccacmlaa
open Go.RowKit Go.Az
theorem wfBSkipAll {k : IntKind} {n : Int} (h : (Lit.int k n).wf = true) : k.min ≤ n ∧ n ≤ k.max := by
  simp only [Lit.wf, Bool.and_eq_true, decide_eq_true_eq] at h; exact h
theorem wSkipAll (a0 : Option Addr) (l0 c0 : Nat) (z0 : List (List UInt8)) (n1 : Int) (n2 : ByteArray) (w : World) (w0 : IsRowX (fun x : List UInt8 => [Value.string (mkB x)]) (fun x => x.length ≤ maxLen) w a0 l0 c0 z0) (w1 : (Lit.int .i64 n1).wf = true) (w2 : n2.size ≤ maxLen) :
    Calls Try.prog 7 #[.slice a0 l0 c0, .int .i64 n1, .string n2] w fun e w' => e = .returned (.bool true) ∧ Below w.heap.size w w' := by
  have ok0 := w0.ok 9
  have ok : ∀ r ∈ ([RowX.mk a0 l0 c0 (z0.flatMap (fun x : List UInt8 => [Value.string (mkB x)])) 9] : List RowX), r.ok w := by
    intro r hr
    simp only [List.mem_cons, List.not_mem_nil, or_false] at hr
    subst hr; exact ok0
  have b1 := wfBSkipAll w1
  have h := calls_of_acalls (P := Try.prog) (g := 7) (v := .bool true) (args := [RowX.av (RowX.mk a0 l0 c0 (z0.flatMap (fun x : List UInt8 => [Value.string (mkB x)])) 9) 0, .v (.int .i64 n1), .v (.string n2)]) (rowsX_hrel ok) rowsX_own
    (by simp only [AV.scs, Bool.and_eq_true]; exact ⟨rowX_sc (i := 0) rfl, rfl, rfl, trivial⟩)
    (law7 n1 n2.data.toList _ _ _ (rowX_elts (i := 0) (fun _ => ⟨rfl, rfl⟩) w0 rfl) )
  simp only [AV.reals, AV.real, rowX_real (i := 0) (rs := [RowX.mk a0 l0 c0 (z0.flatMap (fun x : List UInt8 => [Value.string (mkB x)])) 9]) rfl ok0] at h
  exact h


namespace skipAllDone
open Go.ChangeShapes Go.WideShapes Go.ChangeAt Go.Joins

theorem own : ownKnob Try.prog.godebug = none := by kernel_rfl
theorem laidOut : laidOutB Try.prog = true := by kernel_rfl

set_option maxRecDepth 100000 in
theorem lifted (os : Os) (started : os.Started) (H : Type) (enc : TypeId × Value → H) :
    ReturnsInHanded {} Try.checked os 7 .any (Rows.skipAllSpec.pre6 enc Try.prog Try.f7 Rows.skipAllRow.domain false) (Rows.skipAllSpec.post enc Try.prog Try.f7 false true false false) := by
  refine returnsInHanded_of_change (C := Try.checked) own started (by kernel_rfl) Try.func7
    (ChangeSpec.witness6 (enc := enc) (C := Try.checked) false ⟨#[], #[.slice none 0 0, .int .i64 0, .string ⟨#[]⟩], []⟩ 8 (by kernel_rfl) (by kernel_rfl) (by kernel_rfl) (by kernel_rfl)) ?_
  intro W base args ds gs before hval0 hW hcnd _
  have hval : ∀ (j : Nat) t v, Try.f7.params[j]? = some t → args[j]? = some v → Value.okWide Try.prog W .any base t v := hval0
  have hW' := hW
  obtain ⟨p, q, hA0, hV, rfl, hfz, hnd⟩ := hW
  have hA : DataW.TrodAll enc Try.prog W 0 (fun _ => true) true Try.f7.params.toList args.toList ds p := hA0
  rw [Try.params7] at hA hval
  obtain ⟨v0, vs0, d0, ds0, p0, q0, hargs, rfl, rfl, h0, r0⟩ := trodAll_cons hA
  obtain ⟨v1, vs1, d1, ds1, p1, q1, rfl, rfl, rfl, h1, r1⟩ := trodAll_cons r0
  obtain ⟨v2, vs2, d2, ds2, p2, q2, rfl, rfl, rfl, h2, r2⟩ := trodAll_cons r1
  obtain ⟨rfl, rfl, rfl⟩ := trodAll_nil r2
  obtain rfl : args = #[v0, v1, v2] := by cases args; simp_all
  obtain ⟨rfl, rfl⟩ := trodVars_none hV
  have k0 := h0
  have lt0 : ∀ x ∈ p0, x.block < W.heap.size := by obtain ⟨m, hm⟩ := k0; exact DataW.trod_lt m _ _ _ hm
  have hcc0 := cell_of_value Try.underlying38 (hval 0 38 v0 rfl rfl)
  obtain ⟨a0, l0, c0, z0, rfl, w0⟩ : ∃ a len cap zs, v0 = .slice a len cap ∧ IsRowX (fun x : List UInt8 => [Value.string (mkB x)]) (fun x => x.length ≤ maxLen) W a len cap zs := by
    obtain ⟨fuel, hf⟩ := h0
    obtain ⟨a, len, cap, rfl, _⟩ := cell_slice Try.underlying38 hcc0
    exact open_rows Try.underlying38 (q := 1) (by kernel_rfl) (fun _ => rfl) (el_str Try.underlying9) hcc0 (by simpa [Value.cells] using hf)
  have k1 := h1
  have lt1 : ∀ x ∈ p1, x.block < W.heap.size := by obtain ⟨m, hm⟩ := k1; exact DataW.trod_lt m _ _ _ hm
  obtain ⟨n1, rfl, rfl, rfl, w1⟩ := open_int Try.underlying3 (hval 1 3 v1 rfl rfl) h1
  have k2 := h2
  have lt2 : ∀ x ∈ p2, x.block < W.heap.size := by obtain ⟨m, hm⟩ := k2; exact DataW.trod_lt m _ _ _ hm
  obtain ⟨n2, rfl, rfl, rfl, w2⟩ := Go.ChangeMaps.open_string Try.underlying9 (hval 2 9 v2 rfl rfl) h2
  clear hA0 hval0
  refine (wSkipAll a0 l0 c0 z0 n1 n2 W w0 w1 w2).mono fun e W' ⟨he, bel⟩ => ?_
  subst he
  exact ⟨_, rfl, _, _, _, [], _, [], hW', trodAll_mk1 (shut_bool Try.underlying4 _), (trodAll_cons_mk (Below.trod laidOut (by kernel_rfl) (of_decide_eq_true (by kernel_rfl)) k0 bel lt0) (trodAll_cons_mk (Below.trod laidOut (by kernel_rfl) (of_decide_eq_true (by kernel_rfl)) k1 bel lt1) (trodAll_cons_mk (Below.trod laidOut (by kernel_rfl) (of_decide_eq_true (by kernel_rfl)) k2 bel lt2) trodAll_mk0))), rfl, bel.frame _, fun h => by cases h⟩

theorem over : Rows.skipAllRow.holds Try.pinned (OpenSpec.ofChange Rows.skipAllSpec) :=
  OpenClaim.holds_of_wide 7 Try.f7 rfl rfl rfl rfl rfl rfl rfl ⟨rfl, rfl, rfl, rfl, rfl⟩ rfl rfl rfl rfl rfl (by kernel_rfl) Try.func7 (by kernel_rfl)
    (of_decide_eq_true (by kernel_rfl)) (by unfold Func.isWrapper; first | (rw [if_pos (by decide +kernel)]; kernel_rfl) | (rw [if_neg (by decide +kernel)]; exact ⟨rfl, rfl⟩))
    (fun os started H enc _ => lifted os started H enc)

/-- ████ THE STATEMENT ████ -/
theorem proved : Rows.SkipAllSaid := over
#print axioms proved
end skipAllDone

end Go.Proofs.Ythhbhekccacmlaa
