/-
  What the runner says is a contract ('run_acalls'). Conditions: stated at each theorem.
-/
import Derived.Test.YthhbhekccacmlaaAzU
set_option linter.unusedSimpArgs false
set_option linter.unusedVariables false
namespace Go.Az
open Go Go.Chz Go.RowKit

section
variable {P : Program} {Γ : FuncId → List AV → Option AV} {h : Hp} {m : Nat}

theorem acalls_trim {g : FuncId} {args : List AV} {N : AV → Hp → Prop} (hc : ACalls P g args h (fun r h' => N (trim h.length r h').1 (trim h.length r h').2)) : ACalls P g args h N := by
  intro ρ w H hs
  refine (hc ρ w H hs).mono fun e w' hp => ?_
  obtain ⟨ρ', r, h', rfl, h2, h3, h4, h5, h6⟩ := hp
  unfold trim at h4
  split at h4
  · rename_i ht
    simp only [Bool.and_eq_true, List.all_eq_true] at ht
    refine ⟨ρ', r, h'.take h.length, rfl, ?_, by rw [List.length_take]; omega, h4, h5.take _ ht.2, ?_⟩
    · rw [List.length_take, Nat.min_eq_left h3]; exact ht.1
    · exact (h6.trans (Stp.take h.length h.length) (Nat.le_refl _))
  · exact ⟨ρ', r, h', rfl, h2, h3, h4, h5, h6⟩

/-- What is said of the functions that are taken as known. -/
def Known (P : Program) (Γ : FuncId → List AV → Option AV) : Prop := ∀ g args r, Γ g args = some r → ∀ h, ACalls P g args h (fun r' h' => r' = r ∧ h' = h)
theorem known_none (P : Program) : Known P (fun _ _ => none) := fun _ _ _ h => by cases h

def CodeOk (P : Program) (xc : Option Nat → Code → Fr → Hp → Option (Exit × Fr × Hp)) : Prop :=
  ∀ ro c f h e f' h', xc ro c f h = some (e, f', h') → ∀ m K, K e f' h' → AW P m ro c K f h ∧ ∀ b, c = .loop b → ∃ k, ARd P m ro b K k f h
theorem callW_ok {xc : Option Nat → Code → Fr → Hp → Option (Exit × Fr × Hp)} (hx : CodeOk P xc) {g : FuncId} {args : List AV} {r : AV} {h' : Hp} (hr : callW P xc g args h = some (r, h')) {N : AV → Hp → Prop} (hn : N r h') : ACalls P g args h N := by
  unfold callW at hr
  split at hr <;> first | (cases hr; done) | skip
  rename_i fn hf
  split at hr <;> first | (cases hr; done) | skip
  rename_i c hb
  refine acalls_trim (acalls_of_aw hf hb ?_)
  split at hr <;> first | (cases hr; done) | skip
  · rename_i f1 h1 hc
    split at hr <;> first | (cases hr; done) | skip
    rename_i h2 hd
    split at hr <;> first | (cases hr; done) | skip
    rename_i r2 hra
    simp only [fA_eq, Option.some.injEq] at hr
    refine (hx _ _ _ _ _ _ _ hc h.length _ ?_).1
    exact ⟨h2, r2, hd, hra, by simp only [hr]; exact hn⟩
  · rename_i f1 h1 hc
    split at hr <;> first | (cases hr; done) | skip
    rename_i h2 hd
    split at hr <;> first | (cases hr; done) | skip
    rename_i r2 hra
    simp only [fA_eq, Option.some.injEq] at hr
    refine (hx _ _ _ _ _ _ _ hc h.length _ ?_).1
    exact ⟨h2, r2, hd, hra, by simp only [hr]; exact hn⟩
theorem endX_spec {i : Nat} {jump : Option Code} {b : Bool} {h : Hp} {r : AV} {h' : Hp} (hr : endX i jump b h = some (r, h')) : endA i jump h = some h' ∧ r = .v (.bool b) := by
  unfold endX at hr
  split at hr
  · rename_i h2 he
    simp only [Option.some.injEq, Prod.mk.injEq] at hr
    obtain ⟨rfl, rfl⟩ := hr
    exact ⟨he, rfl⟩
  · cases hr
theorem yldW_ok {xc : Option Nat → Code → Fr → Hp → Option (Exit × Fr × Hp)} (hx : CodeOk P xc) {i : Nat} {args : List AV} {r : AV} {h' : Hp} (hr : yldW xc i args h = some (r, h')) {N : AV → Hp → Prop} (hn : N r h') : AYld P i args h N := by
  unfold yldW at hr
  split at hr <;> first | (cases hr; done) | skip
  rename_i st pe tm ps asg bd d hi
  split at hr <;> first | (cases hr; done) | skip
  rename_i hl
  split at hr <;> first | (cases hr; done) | skip
  rename_i f1 h1 hc1
  split at hr <;> first | (cases hr; done) | skip
  rename_i h1' hb
  refine ayld_of_aw hi (by simpa using hl) ((hx _ _ _ _ _ _ _ hc1 h.length _ ⟨h1', hb, ?_⟩).1)
  split at hr <;> first | (cases hr; done) | skip
  · rename_i f2 h2 hc2
    obtain ⟨he, rfl⟩ := endX_spec hr
    exact (hx _ _ _ _ _ _ _ hc2 h.length _ ⟨h', he, hn⟩).1
  · rename_i f2 h2 hc2
    obtain ⟨he, rfl⟩ := endX_spec hr
    exact (hx _ _ _ _ _ _ _ hc2 h.length _ ⟨h', he, hn⟩).1
  · rename_i id f2 h2 hc2
    obtain ⟨he, rfl⟩ := endX_spec hr
    exact (hx _ _ _ _ _ _ _ hc2 h.length _ ⟨h', he, hn⟩).1
  · rename_i t f2 h2 hc2
    obtain ⟨he, rfl⟩ := endX_spec hr
    exact (hx _ _ _ _ _ _ _ hc2 h.length _ ⟨h', he, hn⟩).1
theorem chkL_spec {h : Hp} {x : Option (AV × Hp)} {r : AV} {h' : Hp} (hr : chkL h x = some (r, h')) : x = some (r, h') ∧ h.length ≤ h'.length := by
  unfold chkL at hr
  split at hr
  · split at hr
    · rename_i hb
      simp only [Option.some.injEq, Prod.mk.injEq] at hr
      obtain ⟨rfl, rfl⟩ := hr
      exact ⟨rfl, by simpa using hb⟩
    · cases hr
  · cases hr
theorem xOp_ok {xc : Option Nat → Code → Fr → Hp → Option (Exit × Fr × Hp)} (hx : CodeOk P xc) (hΓ : Known P Γ) :
    XoOk P (xOp P Γ (callW P xc) (yldW xc)) ∧ ∀ o f h v h', xOp P Γ (callW P xc) (yldW xc) o f h = some (v, h') → h.length ≤ h'.length := by
  refine ⟨fun o f h v h' hr N hn => ?_, fun o f h v h' hr => ?_⟩
  · unfold xOp at hr
    split at hr
    · rename_i g args hc
      split at hr <;> first | (cases hr; done) | skip
      rename_i hg
      refine .inr (.inr (.inl ⟨g, args, hc, hg, ?_⟩))
      split at hr
      · rename_i r hk
        simp only [Option.some.injEq, Prod.mk.injEq] at hr
        obtain ⟨rfl, rfl⟩ := hr
        exact (hΓ g args _ hk h).mono fun r h' _ hh => by rw [hh.1, hh.2]; exact hn
      · exact callW_ok hx (chkL_spec hr).1 hn
    · split at hr
      · rename_i i args hc
        exact .inr (.inr (.inr (.inl ⟨i, args, hc, yldW_ok hx (chkL_spec hr).1 hn⟩)))
      · split at hr
        · rename_i r hl
          simp only [Option.some.injEq, Prod.mk.injEq] at hr
          obtain ⟨rfl, rfl⟩ := hr
          exact .inl ⟨_, hl, hn⟩
        · split at hr
          · rename_i r h2 hh
            rw [fH_eq] at hr
            have := (chkL_spec hr).1
            simp only [Option.some.injEq, Prod.mk.injEq] at this
            obtain ⟨rfl, rfl⟩ := this
            exact .inr (.inl ⟨_, _, hh, hn⟩)
          · cases hr
  · unfold xOp at hr
    split at hr
    · split at hr <;> first | (cases hr; done) | skip
      split at hr
      · simp only [Option.some.injEq, Prod.mk.injEq] at hr
        rw [hr.2]; exact Nat.le_refl _
      · exact (chkL_spec hr).2
    · split at hr
      · exact (chkL_spec hr).2
      · split at hr
        · simp only [Option.some.injEq, Prod.mk.injEq] at hr
          rw [hr.2]; exact Nat.le_refl _
        · split at hr
          · rw [fH_eq] at hr; exact (chkL_spec hr).2
          · cases hr

theorem xCode_ok (hm : P.follows .mixedOrders = true) (hΓ : Known P Γ) : ∀ n, CodeOk P (xCode P Γ n)
  | 0 => fun ro c f h e f' h' hr => by simp [xCode] at hr
  | n + 1 => by
    have ih := xCode_ok hm hΓ n
    obtain ⟨xo1, xo2⟩ := xOp_ok (Γ := Γ) ih hΓ
    intro ro c f h e f' h' hr m K hk
    cases c with
    | skip =>
      simp only [xCode, Option.some.injEq, Prod.mk.injEq] at hr
      obtain ⟨rfl, rfl, rfl⟩ := hr
      exact ⟨wk_ok hm _ _ _ _ hk, fun b hb => by cases hb⟩
    | region id ops draw =>
      refine ⟨?_, fun b hb => by cases hb⟩
      cases draw with
      | false =>
        simp only [xCode] at hr
        split at hr <;> first | (cases hr; done) | skip
        rename_i f2 h2 hx
        simp only [Option.some.injEq, Prod.mk.injEq] at hr
        obtain ⟨rfl, rfl, rfl⟩ := hr
        refine wk_ok hm _ _ _ _ ?_
        simp only [wk]
        exact xL_ok xo1 _ _ _ _ _ hx hk
      | true =>
        simp only [xCode] at hr
        split at hr <;> first | (cases hr; done) | skip
        rename_i f2 h2 hx
        simp only [Option.some.injEq, Prod.mk.injEq] at hr
        obtain ⟨rfl, rfl, rfl⟩ := hr
        refine wk_ok hm _ _ _ _ ?_
        simp only [wk]
        exact .inl (xR_ok xo1 xo2 hx hk)
    | seq a b =>
      refine ⟨?_, fun b hb => by cases hb⟩
      simp only [xCode] at hr
      split at hr
      · rename_i f1 h1 ha
        exact aw_seq ((ih _ _ _ _ _ _ _ ha m _ ((ih _ _ _ _ _ _ _ hr m K hk).1)).1)
      · rename_i hne
        refine aw_seq ((ih _ _ _ _ _ _ _ hr m _ ?_).1)
        cases e <;> first | exact hk | exact absurd hr (hne _ _)
    | cond c a b =>
      refine ⟨?_, fun b hb => by cases hb⟩
      simp only [xCode] at hr
      split at hr <;> first | (cases hr; done) | skip
      · rename_i hc; exact aw_cond hc ((ih _ _ _ _ _ _ _ hr m K hk).1)
      · rename_i hc; exact aw_cond hc ((ih _ _ _ _ _ _ _ hr m K hk).1)
    | block id b =>
      refine ⟨?_, fun b hb => by cases hb⟩
      simp only [xCode] at hr
      split at hr
      · rename_i i f1 h1 hb
        split at hr
        · rename_i hi
          simp only [Option.some.injEq, Prod.mk.injEq] at hr
          obtain ⟨rfl, rfl, rfl⟩ := hr
          refine aw_block ((ih _ _ _ _ _ _ _ hb m _ ?_).1)
          simp only [blkK]
          rw [if_pos (by simpa using hi)]; exact hk
        · rename_i hi
          simp only [Option.some.injEq, Prod.mk.injEq] at hr
          obtain ⟨rfl, rfl, rfl⟩ := hr
          refine aw_block ((ih _ _ _ _ _ _ _ hb m _ ?_).1)
          simp only [blkK]
          rw [if_neg (by rintro rfl; simp at hi)]; exact hk
      · rename_i hne
        refine aw_block ((ih _ _ _ _ _ _ _ hr m _ ?_).1)
        cases e <;> first | exact hk | exact absurd hr (hne _ _ _)
    | loop b =>
      have key : ∃ k, ARd P m ro b K k f h := by
        simp only [xCode] at hr
        split at hr
        · rename_i f1 h1 hb
          obtain ⟨k, hk1⟩ := (ih _ _ _ _ _ _ _ hr m K hk).2 b rfl
          exact ⟨k + 1, (ih _ _ _ _ _ _ _ hb m _ hk1).1⟩
        · rename_i hne
          refine ⟨1, (ih _ _ _ _ _ _ _ hr m _ ?_).1⟩
          cases e <;> first | exact hk | exact absurd hr (hne _ _)
      obtain ⟨k, hk1⟩ := key
      exact ⟨aw_rounds k hk1, fun b' hb => by injection hb with hb; subst hb; exact ⟨k, hk1⟩⟩
    | rangeFunc g ps asg bd =>
      refine ⟨?_, fun b hb => by cases hb⟩
      simp only [xCode] at hr
      split at hr <;> first | (cases hr; done) | skip
      rename_i gf cs hg
      split at hr <;> first | (cases hr; done) | skip
      rename_i hok
      split at hr <;> first | (cases hr; done) | skip
      rename_i r1 h1 hc
      split at hr <;> first | (cases hr; done) | skip
      rename_i st pe tm2 ps2 asg2 bd2 d2 hi
      split at hr <;> first | (cases hr; done) | skip
      rename_i hst
      refine aw_range hg hok (callW_ok ih hc ⟨st, pe, tm2, ps2, asg2, bd2, d2, hi, hst, ?_⟩)
      split at hr
      · simp only [Option.some.injEq, Prod.mk.injEq] at hr
        obtain ⟨rfl, rfl, rfl⟩ := hr
        exact hk
      · exact (ih _ _ _ _ _ _ _ hr m K hk).1
    | exit id =>
      simp only [xCode, Option.some.injEq, Prod.mk.injEq] at hr
      obtain ⟨rfl, rfl, rfl⟩ := hr
      exact ⟨wk_ok hm _ _ _ _ hk, fun b hb => by cases hb⟩
    | label l =>
      simp only [xCode, Option.some.injEq, Prod.mk.injEq] at hr
      obtain ⟨rfl, rfl, rfl⟩ := hr
      exact ⟨wk_ok hm _ _ _ _ hk, fun b hb => by cases hb⟩
    | ret =>
      simp only [xCode, Option.some.injEq, Prod.mk.injEq] at hr
      obtain ⟨rfl, rfl, rfl⟩ := hr
      exact ⟨wk_ok hm _ _ _ _ hk, fun b hb => by cases hb⟩
    | scope b =>
      refine ⟨?_, fun b hb => by cases hb⟩
      simp only [xCode] at hr
      split at hr
      · cases hr
      · rename_i hne
        refine aw_scope ((ih _ _ _ _ _ _ _ hr m _ ?_).1)
        cases e <;> first | exact hk | exact absurd hr (hne _ _ _)
    | goto l => simp [xCode] at hr
    | refuse s => simp [xCode] at hr

/-- THE RUNNER's WORD. -/
theorem run_acalls (hm : P.follows .mixedOrders = true) (hΓ : Known P Γ) {n : Nat} {g : FuncId} {args : List AV} {r : AV} {h' : Hp} (hr : runC P Γ n g args h = some (r, h')) : ACalls P g args h (fun r' h'' => r' = r ∧ h'' = h') :=
  callW_ok (xCode_ok hm hΓ n) hr ⟨rfl, rfl⟩
end
end Go.Az
