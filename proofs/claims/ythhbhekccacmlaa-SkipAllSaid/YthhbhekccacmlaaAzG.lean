/-
  Conversions, lookups, composite values, quiet builtins, and all operations that leave the memory alone: 'exL'. Conditions: stated at each theorem.
-/
import Derived.Test.YthhbhekccacmlaaAzF
set_option linter.unusedSimpArgs false
set_option linter.unusedVariables false
namespace Go.Az
open Go Go.Chz

section
variable {P : Program} {ρ : Nat → Place} {h : Hp} {w : World}

/-! ### Conversions -/
/-- Cells that are bytes, as bytes. -/
def unB : List AV → Option (List UInt8)
  | [] => some []
  | .v (.int .u8 n) :: r => (unB r).map fun l => UInt8.ofNat n.toNat :: l
  | _ => none
theorem unB_get {cs : List AV} : ∀ {l : List UInt8}, unB cs = some l → cs.length = l.length ∧ ∀ (j : Nat) (b : UInt8), l[j]? = some b → ∃ n : Int, cs[j]? = some (.v (.int .u8 n)) ∧ b = UInt8.ofNat n.toNat := by
  induction cs with
  | nil => intro l h; simp [unB] at h; subst h; simp
  | cons a r ih =>
    intro l h
    unfold unB at h
    split at h
    · rename_i heq; simp at heq
    · rename_i n r' heq
      injection heq with e1 e2
      subst e1; subst e2
      obtain ⟨l', hl', rfl⟩ := Option.map_eq_some_iff.1 h
      obtain ⟨h1, h2⟩ := ih hl'
      refine ⟨by simp [h1], fun j b hj => ?_⟩
      cases j with
      | zero => simp at hj; exact ⟨n, by simp, hj.symm⟩
      | succ j => simp at hj ⊢; exact h2 j b hj
    · cases h

theorem run_bytesLoop (ρ : Nat → Place) (w : World) : ∀ (cs : List AV) (l : List UInt8) (s : ByteArray), unB cs = some l →
    (forIn (AV.reals ρ cs) s fun c s => (match c with
      | .int .u8 n => pure (ForInStep.yield (s.push (UInt8.ofNat n.toNat)))
      | _ => stuck "bytesToString: byte expected" : Sem (ForInStep ByteArray))).run P w = .ok ⟨(s.data.toList ++ l).toArray⟩ w := by
  intro cs
  induction cs with
  | nil =>
    intro l s h
    simp [unB] at h; subst h
    simp only [AV.reals, List.forIn_nil, Sem.run_pure, List.append_nil]
  | cons a r ih =>
    intro l s h
    unfold unB at h
    split at h
    · rename_i heq; simp at heq
    · rename_i n r' heq
      injection heq with e1 e2
      subst e1; subst e2
      obtain ⟨l', hl', rfl⟩ := Option.map_eq_some_iff.1 h
      simp only [AV.reals, AV.real, List.forIn_cons, pure_bind]
      rw [ih l' _ hl']
      simp
    · cases h
theorem run_bytes (H : HRel P ρ h w) {i o n c : Nat} {u : Bool} {cs : List AV} {t : TypeId} {ow : Bool} {l : List UInt8} (hi : h[i]? = some (.cells cs t ow)) (hle : o + n ≤ cs.length) (hl : unB ((cs.drop o).take n) = some l) :
    (Conv.bytesToString ((AV.sl i o n c u).real ρ)).run P w = .ok (.string (mkB l)) w := by
  unfold Conv.bytesToString
  simp only [AV.real]
  rw [Sem.run_bind, run_loadRange H hi o n hle, Result.andThen_ok, Sem.run_bind]
  have e := run_bytesLoop (P := P) ρ w _ l ByteArray.empty hl
  rw [← Array.forIn_toList]
  have : (forIn (AV.reals ρ ((cs.drop o).take n)).toArray.toList ByteArray.empty fun c s => (match c with
      | .int .u8 n => pure (ForInStep.yield (s.push (UInt8.ofNat n.toNat)))
      | _ => stuck "bytesToString: byte expected" : Sem (ForInStep ByteArray))).run P w = .ok (mkB l) w := by
    rw [List.toList_toArray, e]; rfl
  refine Eq.trans (congrArg (fun r => Result.andThen r _) (?_ : _ = Result.ok (mkB l) w)) rfl
  exact this

def cnv (P : Program) (h : Hp) (s d : TypeId) (x : AV) : Option AV :=
  match P.underlying s, P.underlying d, x with
  | some (.int _), some (.int k), .v (.int _ n) => some (.v (.int k (k.wrap n)))
  | some .string, some .string, .v (.string b) => some (.v (.string b))
  | some (.slice e), some .string, .v (.slice none 0 0) => match P.underlying e with
    | some (.int .u8) => some (.v (.string (mkB [])))
    | _ => none
  | some (.slice e), some .string, .sl i o n _ _ => match P.underlying e with
    | some (.int .u8) => match h[i]? with
      | some (.cells cs _ _) => if o + n ≤ cs.length then (unB ((cs.drop o).take n)).map fun l => .v (.string (mkB l)) else none
      | _ => none
    | _ => none
  | _, _, _ => none

theorem run_cnv (H : HRel P ρ h w) {s d : TypeId} {x r : AV} (hr : cnv P h s d x = some r) : (convert s d (x.real ρ)).run P w = .ok (r.real ρ) w ∧ r.sc h.length = true := by
  unfold cnv at hr
  split at hr
  · rename_i k0 k k1 n hs hd
    injection hr with hr; subst hr
    simp only [convert, AV.real, Sem.run_bind, run_underlying hs w, run_underlying hd w, Result.andThen_ok, Conv.intToInt, Sem.run_pure]
    exact ⟨trivial, rfl⟩
  · rename_i b hs hd
    injection hr with hr; subst hr
    simp only [convert, AV.real, Sem.run_bind, run_underlying hs w, run_underlying hd w, Result.andThen_ok, Sem.run_pure]
    exact ⟨trivial, rfl⟩
  · rename_i e hs hd
    split at hr
    · rename_i he
      injection hr with hr; subst hr
      simp only [convert, AV.real, Sem.run_bind, run_underlying hs w, run_underlying hd w, run_underlying he w, Result.andThen_ok, Conv.bytesToString, Sem.run_pure]
      exact ⟨rfl, rfl⟩
    · cases hr
  · rename_i e i o n c u hs hd
    split at hr
    · rename_i he
      split at hr
      · rename_i cs t ow hi
        simp only [Option.ite_none_right_eq_some] at hr
        obtain ⟨hle, hr⟩ := hr
        obtain ⟨l, hl, rfl⟩ := Option.map_eq_some_iff.1 hr
        refine ⟨?_, rfl⟩
        have := run_bytes H (c := c) (u := u) hi hle hl
        simp only [AV.real] at this ⊢
        simp only [convert, Sem.run_bind, run_underlying hs w, run_underlying hd w, run_underlying he w, Result.andThen_ok, this]
      · cases hr
    · cases hr
  · cases hr
end
end Go.Az
