/-
  A part of the proof of a statement of a chapter's seat; conditions: stated at each theorem.
-/
import Derived.Test.YtgbddbiimffplaaN35
import Derived.Test.YtgbddbiimffplaaAzR
import Derived.Deep.Strs
set_option linter.unusedVariables false
set_option linter.unusedSectionVars false
set_option linter.unusedSimpArgs false
set_option linter.unusedVariables false
namespace Go.Proofs.Ytgbddbiimffplaa
open Go.Az Go Go.ChangeShapes Go.Joins Go.Deep
abbrev encCV (t : Ce) : List Value := [.int .i64 t.s, .int .i64 t.b, .int .i64 t.x]
abbrev wfCe (t : Ce) : Prop := (IntKind.i64.min ≤ t.s ∧ t.s ≤ IntKind.i64.max) ∧ (IntKind.i64.min ≤ t.b ∧ t.b ≤ IntKind.i64.max) ∧ (IntKind.i64.min ≤ t.x ∧ t.x ≤ IntKind.i64.max)
theorem el_Ce {H : Type} {enc : TypeId × Value → H} {W : World} : ∀ n cs y, DataW.trod enc Try.prog W 0 (fun _ => true) true n 41 cs = some y → ∃ x : Ce, wfCe x ∧ cs = encCV x := by
  intro n cs y h
  obtain ⟨y0, y1, y2, m, _, hl, h0, h1, h2⟩ := trod_struct3 Try.underlying41 h
  rw [show Try.prog.cellsOf 41 = 3 by kernel_rfl] at hl
  match cs, hl with
  | [c0, c1, c2], _ =>
    simp only [show Try.prog.cellsOf 3 = 1 by kernel_rfl, List.drop_zero, List.drop_succ_cons, List.take_succ_cons, List.take_zero] at h0 h1 h2
    obtain ⟨u, e0, _, w0⟩ := DataW.trod_int Try.underlying3 h0
    obtain ⟨b, e1, _, w1⟩ := DataW.trod_int Try.underlying3 h1
    obtain ⟨x, e2, _, w2⟩ := DataW.trod_int Try.underlying3 h2
    obtain rfl := (List.cons.inj e0).1
    obtain rfl := (List.cons.inj e1).1
    obtain rfl := (List.cons.inj e2).1
    simp only [Lit.wf, Bool.and_eq_true, decide_eq_true_eq] at w0 w1 w2
    exact ⟨⟨u, b, x⟩, ⟨w0, w1, w2⟩, rfl⟩
end Go.Proofs.Ytgbddbiimffplaa
