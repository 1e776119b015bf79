/-
  Parts of aggregates, equality of structs, loads, slices, indexes, conversions and quiet builtins, on abstract values. Conditions: stated at each theorem.
-/
import Derived.Test.YthhbhekccacmlaaAzC
set_option linter.unusedSimpArgs false
set_option linter.unusedVariables false
namespace Go.Az
open Go Go.Chz

section
variable {P : Program}
theorem run_isAgg {t : TypeId} {d : TypeDesc} (h : P.underlying t = some d) (w : World) : (isAgg t).run P w = .ok (aggD d) w := by
  unfold isAgg
  rw [Sem.run_bind, run_underlying h w]
  cases d <;> rfl
theorem run_sizeOf {t : TypeId} {inf : TypeInfo} (h : P.info? t = some inf) (w : World) : (sizeOf t).run P w = .ok inf.size w := by
  simp [sizeOf, typeInfo, h]
theorem reals_getElem? (ρ : Nat → Place) (cs : List AV) (i : Nat) : (AV.reals ρ cs)[i]? = (cs[i]?).map (AV.real ρ) := by rw [reals_eq]; simp
theorem reals_length (ρ : Nat → Place) (cs : List AV) : (AV.reals ρ cs).length = cs.length := by rw [reals_eq]; simp

def prt (P : Program) (t : TypeId) (cs : List AV) (off : Nat) : Option AV :=
  match tab P t with
  | some x => if aggD x.d = true then if off + x.size ≤ cs.length then some (.agg ((cs.drop off).take x.size)) else none else cs[off]?
  | none => none
theorem run_part {t : TypeId} {cs : List AV} {off : Nat} {r : AV} (ρ : Nat → Place) (w : World) (h : prt P t cs off = some r) :
    (part t (AV.reals ρ cs).toArray off).run P w = .ok (r.real ρ) w := by
  unfold prt at h
  split at h
  · rename_i x hx
    obtain ⟨hu, inf, z, hi, hs, _⟩ := tab_spec hx
    unfold part
    rw [Sem.run_bind, run_isAgg hu w, Result.andThen_ok]
    split at h
    · rename_i hagg
      rw [hagg]
      split at h
      · injection h with h
        subst h
        simp only [if_true, Sem.run_bind, run_sizeOf hi w, Result.andThen_ok, Sem.run_pure, AV.real]
        congr 2
        apply Array.ext'
        simp only [List.extract_toArray, reals_eq, hs]
        simp [List.extract_eq_take_drop, List.map_take, List.map_drop]
      · cases h
    · rename_i hagg
      have : aggD x.d = false := by simpa using hagg
      rw [this]
      simp only [List.getElem?_toArray, reals_getElem?, h]
      simp
  · cases h
theorem prt_sc {t : TypeId} {cs : List AV} {off n : Nat} {r : AV} (h : prt P t cs off = some r) (hs : AV.scs n cs = true) : r.sc n = true := by
  unfold prt at h
  split at h
  · split at h
    · split at h
      · injection h with h
        subst h
        refine (scs_iff n _).2 fun a ha => (scs_iff n cs).1 hs a (List.mem_of_mem_drop (List.mem_of_mem_take ha))
      · cases h
    · exact (scs_iff n cs).1 hs r (List.mem_of_getElem? h)
  · cases h

/-! ### Equality -/
def aeqF (P : Program) (eq : TypeId → AV → AV → Option Bool) (xs ys : List AV) : List Field → Option Bool
  | [] => some true
  | f :: r => if f.name = "_" then aeqF P eq xs ys r else
    match prt P f.type xs f.offset, prt P f.type ys f.offset with
    | some a, some b =>
      match eq f.type a b, aeqF P eq xs ys r with
      | some c, some c' => some (c && c')
      | _, _ => none
    | _, _ => none
def aeq (P : Program) : Nat → TypeId → AV → AV → Option Bool
  | 0, _, _, _ => none
  | d + 1, t, x, y =>
    match P.underlying t, x, y with
    | some .bool, .v (.bool a), .v (.bool b) => some (a == b)
    | some (.int _), .v (.int k a), .v (.int k' b) => if k = k' then some (a == b) else none
    | some .string, .v (.string a), .v (.string b) => some (leq a.data.toList b.data.toList)
    | some (.struct fs), .agg xs, .agg ys => if P.stoodInHeld t = true then none else aeqF P (aeq P d) xs ys fs.toList
    | some (.slice _), .v (.slice none _ _), .v (.slice none _ _) => some true
    | some (.slice _), .v (.slice none _ _), .sl _ _ _ _ _ => some false
    | some (.slice _), .sl _ _ _ _ _, .v (.slice none _ _) => some false
    | some (.pointer _), .v (.pointer none), .v (.pointer none) => some true
    | some (.pointer _), .ptr _ _, .v (.pointer none) => some false
    | some (.pointer _), .v (.pointer none), .ptr _ _ => some false
    | _, _, _ => none

theorem run_equalIn (ρ : Nat → Place) (w : World) : ∀ (d D : Nat) (t : TypeId) (x y : AV) (b : Bool), d ≤ D → aeq P d t x y = some b → (Op.equalIn D t (x.real ρ) (y.real ρ)).run P w = .ok b w
  | 0, _, _, _, _, _, _, h => by simp [aeq] at h
  | d + 1, 0, _, _, _, _, hD, _ => by omega
  | d + 1, D + 1, t, x, y, b, hD, h => by
    unfold aeq at h
    split at h <;> first | (cases h; done) | skip
    · rename_i hu
      injection h with h; subst h
      simp only [AV.real, Op.equalIn, Sem.run_bind, run_underlying hu w, Result.andThen_ok, Sem.run_pure]
    · rename_i hu
      simp only [Option.ite_none_right_eq_some, Option.some.injEq] at h
      obtain ⟨rfl, rfl⟩ := h
      simp only [AV.real, Op.equalIn, Sem.run_bind, run_underlying hu w, Result.andThen_ok, Sem.run_pure, if_true]
    · rename_i a b' hu
      injection h with h; subst h
      have e : (a == b') = leq a.data.toList b'.data.toList := by
        have e0 : (a == b') = (a.data == b'.data) := rfl
        rw [leq_iff, e0, Bool.eq_iff_iff]
        simp only [beq_iff_eq, decide_eq_true_eq]
        exact ⟨fun h => by rw [h], fun h => Array.ext' h⟩
      simp only [AV.real, Op.equalIn, Sem.run_bind, run_underlying hu w, Result.andThen_ok, Sem.run_pure, e]
    · rename_i fs xs ys hu
      split at h
      · cases h
      · rename_i hst
        simp only [AV.real, Op.equalIn, Sem.run_bind, run_underlying hu w, Result.andThen_ok, run_program, hst]
        have key : ∀ (l : List Field) (b : Bool), aeqF P (aeq P d) xs ys l = some b →
            (do
              let r ← forIn l ((none, ()) : Option Bool × PUnit) fun f _ => do
                if f.name ≠ "_" then
                  if !(← Op.equalIn D f.type (← part f.type (AV.reals ρ xs).toArray f.offset) (← part f.type (AV.reals ρ ys).toArray f.offset)) then
                    pure (ForInStep.done (some false, ()))
                  else pure (ForInStep.yield (none, ()))
                else pure (ForInStep.yield (none, ()))
              match r.1 with
              | some a => pure a
              | none => pure true : Sem Bool).run P w = .ok b w := by
          intro l
          induction l with
          | nil => intro b hb; simp [aeqF] at hb; subst hb; rfl
          | cons f l ih =>
            intro b hb
            simp only [aeqF] at hb
            rw [List.forIn_cons]
            split at hb
            · rename_i hn
              have := ih b hb
              simp only [hn, ne_eq, not_true_eq_false, if_false, Sem.run_bind, Sem.run_pure, Result.andThen_ok] at this ⊢
              exact this
            · rename_i hn
              split at hb
              · rename_i a a' ha ha'
                split at hb
                · rename_i c c' hc hc'
                  injection hb with hb
                  subst hb
                  have h1 := run_equalIn ρ w d D f.type a a' c (by omega) hc
                  have h2 := ih c' hc'
                  simp only [ne_eq, hn, not_false_eq_true, if_true, Sem.run_bind, run_part ρ w ha, run_part ρ w ha', Result.andThen_ok, h1]
                  cases c
                  · simp
                  · simp only [Bool.not_true, Bool.false_eq_true, if_false, Sem.run_pure, Result.andThen_ok, Bool.true_and]
                    simp only [Sem.run_bind] at h2
                    exact h2
                · cases hb
              · cases hb
        have := key fs.toList b h
        simp only [Bool.false_eq_true, if_false]
        rw [← Array.forIn_toList]
        rw [Sem.run_bind] at this ⊢
        refine Eq.trans ?_ this
        refine congr (congrArg _ ?_) ?_
        · rfl
        · funext a w'
          obtain ⟨a1, a2⟩ := a
          cases a1 <;> rfl
    all_goals
      rename_i hu
      injection h with h; subst h
      simp only [AV.real, Op.equalIn, Sem.run_bind, run_underlying hu w, Result.andThen_ok, Sem.run_pure, Option.isNone]
end
end Go.Az
