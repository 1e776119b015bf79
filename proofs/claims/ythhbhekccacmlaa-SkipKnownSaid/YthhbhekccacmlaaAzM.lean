/-
  All operations that turn the memory by themselves: 'exH'. Conditions: stated at each theorem.
-/
import Derived.Test.YthhbhekccacmlaaAzL
set_option linter.unusedSimpArgs false
set_option linter.unusedVariables false
namespace Go.Az
open Go Go.Chz Go.RowKit

section
variable {P : Program} {ρ : Nat → Place} {h : Hp} {w : World}

/-- An operation that turns the memory by itself. -/
def exH (P : Program) (f : Fr) (h : Hp) (op : Op) : Option (AV × Hp) :=
  match op with
  | .alloc t => match tab P t with
    | some x => newC P h t (zAV x).cellsL
    | none => none
  | .box t x => if (ev f x).cellOk = true then newC P h t (ev f x).cellsL else none
  | .buildSlice t len parts => bsl P h t len (parts.toList.map fun p => (p.1, ev f p.2))
  | .store t a x => (sto P h t (ev f a) (ev f x)).map fun h' => (.v undef, h')
  | .convert s d x => byt P h s d (ev f x)
  | .makeMap _ r => mkm h (r.map (ev f))
  | .makeSlice t l c => msl P h t (ev f l) (ev f c)
  | .mapUpdate t m k x => (mpu P h t (ev f m) (ev f k) (ev f x)).map fun h' => (.v undef, h')
  | .insert t m k x => (mpu P h t (ev f m) (ev f k) (ev f x)).map fun h' => (.v undef, h')
  | .call c => match c.callee, c.args.toList with
    | .builtin .append, [s, x] => app P h c.argTypes.toList (ev f s) (ev f x)
    | _, _ => none
  | _ => none

theorem Out.ofV {r : AV} {h' : Hp} {s : Sem Value} (hx : OutV P ρ h w r h' (s.run P w)) : Out P ρ h w r h' (((do pure (.value (← s))) : Sem Next).run P w) := by
  rw [Sem.run_bind]; exact hx.value
theorem Out.ofU {h' : Hp} {s : Sem Unit} (hx : OutU P ρ h w h' (s.run P w)) : Out P ρ h w (.v undef) h' (((do s; pure .skip) : Sem Next).run P w) := by
  rw [Sem.run_bind]; exact hx.skip

theorem zAV_cellOk {t : TypeId} {x : TI} (hx : tab P t = some x) : (zAV x).cellOk = true := by
  obtain ⟨hu, inf, z, hinf, hs, hb, hz, hzc, hl, h1, hagg, hna⟩ := tab_spec hx
  unfold zAV
  split
  · rfl
  · rename_i ha
    obtain ⟨_, h2⟩ := hna (by simpa using ha)
    rw [h2]
    have := h1 z (by rw [h2]; simp)
    simp only [List.getD_cons_zero]
    cases z <;> first | rfl | (simp [Value.oneCell'] at this)

theorem exH_ok (H : HRel P ρ h w) {f : Fr} {A : Act} (hA : A.tmps = (AV.reals ρ f.t).toArray) (hs : AV.scs h.length f.t = true) {o : Oper} {r : AV} {h' : Hp} (hr : exH P f h o.op = some (r, h')) :
    Out P ρ h w r h' ((execOp A.eval o).run P w) := by
  have E := ev_real (ρ := ρ) hA
  have S := ev_sc hs
  unfold exH at hr
  unfold execOp
  split at hr <;> first | (cases hr; done) | skip
  · rename_i t ho
    split at hr <;> first | (cases hr; done) | skip
    rename_i x hx
    simp only [ho]
    refine Out.ofV ?_
    have := newC_ok H (v := (zAV x).real ρ) hr (cellsL_sc (zAV_sc _ _)) (cellsL_real ρ _ (cellOk_spec (zAV_cellOk hx)))
    simp only [Instr.alloc, Sem.run_bind, zAV_real hx ρ w, Result.andThen_ok] at this ⊢
    exact this
  · rename_i t x ho
    simp only [Option.ite_none_right_eq_some] at hr
    obtain ⟨hok, hr⟩ := hr
    simp only [ho]
    refine Out.ofV ?_
    have := newC_ok H (v := (ev f x).real ρ) hr (cellsL_sc (S x)) (cellsL_real ρ _ (cellOk_spec hok))
    simp only [Instr.box, E]
    exact this
  · rename_i t len parts ho
    have hp : parts.map (fun (i, x) => (i, A.eval x)) = ((parts.toList.map fun p => (p.1, ev f p.2)).map fun p => (p.1, p.2.real ρ)).toArray := by
      apply Array.ext'
      simp [E]
    simp only [ho, hp]
    refine Out.ofV (bsl_ok H hr fun p hp => ?_)
    obtain ⟨q, _, rfl⟩ := List.mem_map.1 hp
    exact S _
  · rename_i t a x ho
    obtain ⟨h2, hh, he⟩ := Option.map_eq_some_iff.1 hr
    injection he with e1 e2
    subst e1; subst e2
    simp only [ho, E]
    exact Out.ofU (sto_ok H hh (S x))
  · rename_i s d x ho
    simp only [ho, E]
    exact Out.ofV (byt_ok H hr)
  · rename_i t r' ho
    have hm : r'.map A.eval = (r'.map (ev f)).map (AV.real ρ) := by cases r' <;> simp [E]
    simp only [ho, hm]
    exact Out.ofV (mkm_ok H hr)
  · rename_i t l c ho
    simp only [ho, E]
    exact Out.ofV (msl_ok H hr)
  · rename_i t m k x ho
    obtain ⟨h2, hh, he⟩ := Option.map_eq_some_iff.1 hr
    injection he with e1 e2
    subst e1; subst e2
    simp only [ho, E]
    exact Out.ofU (mpu_ok H hh (S x))
  · rename_i t m k x ho
    obtain ⟨h2, hh, he⟩ := Option.map_eq_some_iff.1 hr
    injection he with e1 e2
    subst e1; subst e2
    simp only [ho, E]
    exact Out.ofU (mpu_ok H hh (S x))
  · rename_i c ho
    split at hr <;> first | (cases hr; done) | skip
    rename_i s x hc hargs
    have ha : c.args = #[s, x] := by cases hq : c.args; simp_all
    simp only [ho, resolve, hc, ha, Sem.run_bind, Sem.run_pure, Result.andThen_ok, invoke, builtin]
    have hts : c.argTypes.toList.toArray = c.argTypes := by simp
    have := app_ok H (ty := o.type) hr (S s)
    rw [hts] at this
    have e2 : (#[s, x] : Array Operand).map A.eval = #[(ev f s).real ρ, (ev f x).real ρ] := by simp [E]
    rw [e2]
    exact this.value
end
end Go.Az
