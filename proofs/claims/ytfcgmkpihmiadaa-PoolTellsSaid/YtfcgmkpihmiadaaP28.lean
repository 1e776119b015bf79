/-
  A part of the proof of a statement of a chapter's seat; conditions: stated at each theorem.
-/
import Derived.Test.YtfcgmkpihmiadaaP27
import Derived.Test.YtfcgmkpihmiadaaAzR
set_option linter.unusedVariables false
set_option linter.unusedSectionVars false
set_option linter.unusedSimpArgs false
set_option linter.unusedVariables false
namespace Go.Proofs.Ytfcgmkpihmiadaa
open Go.Az Go Go.ChangeShapes Go.Joins
abbrev encTV (t : Tk) : List Value := [.int .i64 t.u, .bool t.f, .bool t.o, .int .i64 t.a]
abbrev wfT (t : Tk) : Prop := (IntKind.i64.min ≤ t.u ∧ t.u ≤ IntKind.i64.max) ∧ (IntKind.i64.min ≤ t.a ∧ t.a ≤ IntKind.i64.max)
theorem el_T {H : Type} {enc : TypeId × Value → H} {W : World} : ∀ n cs y, DataW.trod enc Try.prog W 0 (fun _ => true) true n 68 cs = some y → ∃ x : Tk, wfT x ∧ cs = encTV x := by
  intro n cs y h
  obtain ⟨y0, y1, y2, y3, m, _, hl, h0, h1, h2, h3⟩ := trod_struct4 Try.underlying68 h
  rw [show Try.prog.cellsOf 68 = 4 by kernel_rfl] at hl
  match cs, hl with
  | [c0, c1, c2, c3], _ =>
    simp only [show Try.prog.cellsOf 3 = 1 by kernel_rfl, show Try.prog.cellsOf 4 = 1 by kernel_rfl, List.drop_zero, List.drop_succ_cons, List.take_succ_cons, List.take_zero] at h0 h1 h2 h3
    obtain ⟨u, e0, _, w0⟩ := DataW.trod_int Try.underlying3 h0
    obtain ⟨f, e1, _⟩ := DataW.trod_bool Try.underlying4 h1
    obtain ⟨o, e2, _⟩ := DataW.trod_bool Try.underlying4 h2
    obtain ⟨a, e3, _, w3⟩ := DataW.trod_int Try.underlying3 h3
    obtain rfl := (List.cons.inj e0).1
    obtain rfl := (List.cons.inj e1).1
    obtain rfl := (List.cons.inj e2).1
    obtain rfl := (List.cons.inj e3).1
    simp only [Lit.wf, Bool.and_eq_true, decide_eq_true_eq] at w0 w3
    exact ⟨⟨u, f, o, a⟩, ⟨w0, w3⟩, rfl⟩
abbrev encWV (t : Wk) : List Value := [.int .i64 t.j, .int .i64 t.d]
abbrev wfW (t : Wk) : Prop := (IntKind.i64.min ≤ t.j ∧ t.j ≤ IntKind.i64.max) ∧ (IntKind.i64.min ≤ t.d ∧ t.d ≤ IntKind.i64.max)
theorem el_W {H : Type} {enc : TypeId × Value → H} {W : World} : ∀ n cs y, DataW.trod enc Try.prog W 0 (fun _ => true) true n 53 cs = some y → ∃ x : Wk, wfW x ∧ cs = encWV x := by
  intro n cs y h
  obtain ⟨y0, y1, m, _, hl, h0, h1⟩ := trod_struct2 Try.underlying53 h
  rw [show Try.prog.cellsOf 53 = 2 by kernel_rfl] at hl
  match cs, hl with
  | [c0, c1], _ =>
    simp only [show Try.prog.cellsOf 3 = 1 by kernel_rfl, List.drop_zero, List.drop_succ_cons, List.take_succ_cons, List.take_zero] at h0 h1
    obtain ⟨u, e0, _, w0⟩ := DataW.trod_int Try.underlying3 h0
    obtain ⟨a, e1, _, w1⟩ := DataW.trod_int Try.underlying3 h1
    obtain rfl := (List.cons.inj e0).1
    obtain rfl := (List.cons.inj e1).1
    simp only [Lit.wf, Bool.and_eq_true, decide_eq_true_eq] at w0 w1
    exact ⟨⟨u, a⟩, ⟨w0, w1⟩, rfl⟩
end Go.Proofs.Ytfcgmkpihmiadaa
