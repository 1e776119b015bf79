/-
  Slice expressions, conversions, lookups, composite values and quiet builtins on abstract values. Conditions: stated at each theorem.
-/
import Derived.Test.YthhbhekccacmlaaAzE
set_option linter.unusedSimpArgs false
set_option linter.unusedVariables false
namespace Go.Az
open Go Go.Chz

section
variable {P : Program} {ρ : Nat → Place} {h : Hp} {w : World}

/-! ### Slice expressions -/
/-- A bound: an integer from 0 to y. -/
def bnd (x : AV) (y : Nat) : Option Nat :=
  match intOf? x with
  | some a => if 0 ≤ a ∧ a ≤ y then some a.toNat else none
  | none => none
theorem run_bnd {x : AV} {y n : Nat} {c : BoundsCode} (hb : bnd x y = some n) : (Instr.sliceBound (x.real ρ) y c).run P w = .ok n w ∧ n ≤ y := by
  unfold bnd at hb
  split at hb
  · rename_i a ha
    obtain ⟨k, rfl⟩ := intOf?_spec ha
    simp only [Option.ite_none_right_eq_some, Option.some.injEq] at hb
    obtain ⟨h0, rfl⟩ := hb
    simp only [Instr.sliceBound, AV.real, asIntOf, Sem.run_bind, Sem.run_pure, Result.andThen_ok, h0.1, h0.2, and_self, if_true]
    exact ⟨trivial, by omega⟩
  · cases hb
/-- The three bounds where the capacity is known. -/
def bnds (len cap : Nat) (lo hi mx : Option AV) : Option (Nat × Nat × Nat) :=
  match mx with
  | some m => match bnd m cap with
    | some m => match hi with
      | some hi => match bnd hi m with
        | some hi => match lo with
          | some lo => match bnd lo hi with
            | some lo => some (lo, hi, m)
            | none => none
          | none => some (0, hi, m)
        | none => none
      | none => none
    | none => none
  | none => match hi with
    | some hi => match bnd hi cap with
      | some hi => match lo with
        | some lo => match bnd lo hi with
          | some lo => some (lo, hi, cap)
          | none => none
        | none => some (0, hi, cap)
      | none => none
    | none => match lo with
      | some lo => match bnd lo len with
        | some lo => some (lo, len, cap)
        | none => none
      | none => some (0, len, cap)
theorem run_bnds {is : Bool} {len cap : Nat} {lo hi mx : Option AV} {l k m : Nat} (hb : bnds len cap lo hi mx = some (l, k, m)) :
    (Instr.sliceBounds is len cap (lo.map (AV.real ρ)) (hi.map (AV.real ρ)) (mx.map (AV.real ρ))).run P w = .ok (l, k, m) w := by
  unfold bnds at hb
  split at hb
  · split at hb
    · rename_i hm
      split at hb
      · split at hb
        · rename_i hh
          split at hb
          · split at hb
            · rename_i hl
              injection hb with hb
              injection hb with e1 e2
              injection e2 with e2 e3
              subst e1; subst e2; subst e3
              simp only [Instr.sliceBounds, Option.map_some, Sem.run_bind, (run_bnd hm).1, (run_bnd hh).1, (run_bnd hl).1, Result.andThen_ok, Sem.run_pure]
            · cases hb
          · injection hb with hb
            injection hb with e1 e2
            injection e2 with e2 e3
            subst e1; subst e2; subst e3
            simp only [Instr.sliceBounds, Option.map_some, Option.map_none, Sem.run_bind, (run_bnd hm).1, (run_bnd hh).1, Result.andThen_ok, Sem.run_pure]
        · cases hb
      · cases hb
    · cases hb
  · split at hb
    · split at hb
      · rename_i hh
        split at hb
        · split at hb
          · rename_i hl
            injection hb with hb
            injection hb with e1 e2
            injection e2 with e2 e3
            subst e1; subst e2; subst e3
            simp only [Instr.sliceBounds, Option.map_some, Option.map_none, Sem.run_bind, (run_bnd hh).1, (run_bnd hl).1, Result.andThen_ok, Sem.run_pure]
          · cases hb
        · injection hb with hb
          injection hb with e1 e2
          injection e2 with e2 e3
          subst e1; subst e2; subst e3
          simp only [Instr.sliceBounds, Option.map_some, Option.map_none, Sem.run_bind, (run_bnd hh).1, Result.andThen_ok, Sem.run_pure]
      · cases hb
    · split at hb
      · split at hb
        · rename_i hl
          injection hb with hb
          injection hb with e1 e2
          injection e2 with e2 e3
          subst e1; subst e2; subst e3
          simp only [Instr.sliceBounds, Option.map_some, Option.map_none, Sem.run_bind, (run_bnd hl).1, Result.andThen_ok, Sem.run_pure]
        · cases hb
      · injection hb with hb
        injection hb with e1 e2
        injection e2 with e2 e3
        subst e1; subst e2; subst e3
        simp only [Instr.sliceBounds, Option.map_some, Option.map_none, Sem.run_bind, Result.andThen_ok, Sem.run_pure]

/-- The address that a slice expression gives. -/
def cutAt (o l m size : Nat) : Nat := if m = l then o else o + l * size
theorem cutAt_real (b p o l m size : Nat) : (if m = l then (⟨b, p + o, none⟩ : Addr) else (⟨b, p + o, none⟩ : Addr).add (l * size)) = ⟨b, p + cutAt o l m size, none⟩ := by
  unfold cutAt
  split
  · rfl
  · rw [add0, Nat.add_assoc]

/-- Bounds where the capacity is not known but is at least len. -/
def ubnds (len : Nat) (lo hi mx : Option AV) : Option (Nat × Nat × Option Nat) :=
  match mx with
  | some m => match bnds len len lo hi (some m) with
    | some (l, k, m) => some (l, k, some m)
    | none => none
  | none => match bnds len len lo hi none with
    | some (l, k, _) => if l < len ∨ l = 0 then some (l, k, none) else none
    | none => none

theorem bnd_mono {x : AV} {y y' n : Nat} (h : bnd x y = some n) (hy : y ≤ y') : bnd x y' = some n := by
  unfold bnd at h ⊢
  split at h
  · rename_i a ha
    simp only [Option.ite_none_right_eq_some, Option.some.injEq] at h
    obtain ⟨h0, rfl⟩ := h
    simp only [if_pos (show 0 ≤ a ∧ a ≤ (y' : Int) by omega)]
  · cases h
theorem bnds_mono_mx {len cap cap' : Nat} {lo hi : Option AV} {m : AV} {r : Nat × Nat × Nat} (h : bnds len cap lo hi (some m) = some r) (hc : cap ≤ cap') : bnds len cap' lo hi (some m) = some r := by
  unfold bnds at h ⊢
  simp only at h ⊢
  split at h
  · rename_i hm
    rw [bnd_mono hm hc]
    exact h
  · cases h
theorem bnds_mono_none {len cap cap' : Nat} {lo hi : Option AV} {l k m : Nat} (h : bnds len cap lo hi none = some (l, k, m)) (hc : cap ≤ cap') : bnds len cap' lo hi none = some (l, k, cap') := by
  unfold bnds at h ⊢
  simp only at h ⊢
  split at h
  · split at h
    · rename_i hh
      rw [bnd_mono hh hc]
      simp only
      split at h
      · split at h
        · injection h with h
          injection h with e1 e2
          injection e2 with e2 e3
          subst e1; subst e2
          simp only [*]
        · cases h
      · injection h with h
        injection h with e1 e2
        injection e2 with e2 e3
        subst e1; subst e2
        rfl
    · cases h
  · split at h
    · split at h
      · injection h with h
        injection h with e1 e2
        injection e2 with e2 e3
        subst e1; subst e2
        simp only [*]
      · cases h
    · injection h with h
      injection h with e1 e2
      injection e2 with e2 e3
      subst e1; subst e2
      rfl

/-- The unknown capacity is at least what is known of the cells. -/
def capOk (P : Program) (h : Hp) (e : TypeId) (i n c : Nat) : Bool :=
  match h[i]?, P.info? e with
  | some (.cells cs t true), some inf => Nat.beq t e && Nat.blt 0 inf.size && Nat.ble ((c + n) * inf.size) cs.length
  | _, _ => false

def slc (P : Program) (h : Hp) (t : TypeId) (x : AV) (lo hi mx : Option AV) : Option AV :=
  match P.underlying t, x with
  | some .string, .v (.string s) => match mx with
    | some _ => none
    | none => match bnds s.data.toList.length s.data.toList.length lo hi none with
      | some (l, k, _) => some (.v (.string (mkB ((s.data.toList.take k).drop l))))
      | none => none
  | some (.array n e), .ptr i o => match P.info? e, bnds n n lo hi mx with
    | some inf, some (l, k, m) => some (.sl i (cutAt o l m inf.size) (k - l) (m - l) false)
    | _, _ => none
  | some (.pointer arr), .ptr i o => match P.underlying arr with
    | some (.array n e) => match P.info? e, bnds n n lo hi mx with
      | some inf, some (l, k, m) => some (.sl i (cutAt o l m inf.size) (k - l) (m - l) false)
      | _, _ => none
    | _ => none
  | some (.slice e), .sl i o n c false => match P.info? e, bnds n c lo hi mx with
    | some inf, some (l, k, m) => some (.sl i (cutAt o l m inf.size) (k - l) (m - l) false)
    | _, _ => none
  | some (.slice e), .sl i o n c true => if capOk P h e i n c = true then match P.info? e, ubnds n lo hi mx with
    | some inf, some (l, k, some m) => some (.sl i (cutAt o l m inf.size) (k - l) (m - l) false)
    | some inf, some (l, k, none) => some (.sl i (o + l * inf.size) (k - l) (c + l) true)
    | _, _ => none else none
  | some (.slice e), .v (.slice none 0 0) => match P.info? e, bnds 0 0 lo hi mx with
    | some inf, some (l, k, m) => some (.v (.slice none (k - l) (m - l)))
    | _, _ => none
  | _, _ => none

theorem capOk_spec (H : HRel P ρ h w) {e : TypeId} {i n c : Nat} (hc : capOk P h e i n c = true) : c + n ≤ (ρ i).cap := by
  unfold capOk at hc
  split at hc
  · rename_i cs t inf hi hinf
    simp only [Bool.and_eq_true, Nat.beq_eq, Nat.blt_eq, Nat.ble_eq] at hc
    obtain ⟨⟨rfl, h0⟩, hle⟩ := hc
    obtain ⟨_, cur, fz, _, _, _, hcap⟩ := (H.obj i _ hi).2 rfl
    have h2 := (hcap inf hinf).2
    exact Nat.le_of_mul_le_mul_right (Nat.le_trans hle h2) h0
  · cases hc

theorem run_slc (H : HRel P ρ h w) {t : TypeId} {x r : AV} {lo hi mx : Option AV} (hr : slc P h t x lo hi mx = some r) :
    (Instr.sliceAt t (x.real ρ) (lo.map (AV.real ρ)) (hi.map (AV.real ρ)) (mx.map (AV.real ρ))).run P w = .ok (r.real ρ) w ∧ (x.sc h.length = true → r.sc h.length = true) := by
  unfold slc at hr
  split at hr
  · rename_i s hu
    split at hr
    · cases hr
    · split at hr <;> try (cases hr; done)
      · rename_i l k m hb
        injection hr with hr
        subst hr
        have hb' : bnds s.size s.size lo hi none = some (l, k, m) := by simpa using hb
        simp only [Instr.sliceAt, Sem.run_bind, run_underlying hu w, Result.andThen_ok, Instr.slice, AV.real, Option.map_none, Option.isSome_none, Bool.false_eq_true, if_false, Sem.run_pure]
        have := run_bnds (P := P) (ρ := ρ) (w := w) (is := false) hb'
        simp only [Option.map_none] at this
        rw [this]
        refine ⟨?_, fun _ => rfl⟩
        simp only [Result.andThen_ok, Sem.run_pure]
        congr 2
        apply ByteArray.ext
        apply Array.ext'
        simp [mkB, List.extract_eq_take_drop, List.drop_take]
  · rename_i n e i o hu
    split at hr
    · rename_i inf l k m hinf hb
      injection hr with hr
      subst hr
      simp only [Instr.sliceAt, Sem.run_bind, run_underlying hu w, Result.andThen_ok, AV.real, Instr.sureAddr, Sem.run_pure, run_bnds hb, run_sizeOf hinf w, cutAt_real]
      exact ⟨by simp, fun h => h⟩
    · cases hr
  · rename_i arr i o hu
    split at hr
    · rename_i n e hu2
      split at hr
      · rename_i inf l k m hinf hb
        injection hr with hr
        subst hr
        simp only [Instr.sliceAt, Sem.run_bind, run_underlying hu w, Result.andThen_ok, Instr.slice, AV.real, asAddr, run_underlying hu2 w, Sem.run_pure, run_bnds hb, run_sizeOf hinf w, cutAt_real]
        exact ⟨by simp, fun h => h⟩
      · cases hr
    · cases hr
  · rename_i e i o n c hu
    split at hr
    · rename_i inf l k m hinf hb
      injection hr with hr
      subst hr
      simp only [Instr.sliceAt, Sem.run_bind, run_underlying hu w, Result.andThen_ok, Instr.slice, AV.real, Bool.false_eq_true, if_false, run_bnds hb, run_sizeOf hinf w, Sem.run_pure, Option.map_some]
      refine ⟨?_, fun h => h⟩
      rw [← cutAt_real]
      split <;> rfl
    · cases hr
  · rename_i e i o n c hu
    split at hr
    · rename_i hcap
      have hc := capOk_spec H hcap
      split at hr
      · rename_i inf l k m hinf hb
        injection hr with hr
        subst hr
        unfold ubnds at hb
        split at hb
        · split at hb
          · rename_i mv l' k' m' hb2
            injection hb with hb
            injection hb with e1 e2
            injection e2 with e2 e3
            injection e3 with e3
            subst e1; subst e2; subst e3
            have hb3 := run_bnds (P := P) (ρ := ρ) (w := w) (is := true) (bnds_mono_mx hb2 (show n ≤ (ρ i).cap - c by omega))
            simp only [Option.map_some] at hb3
            simp only [Instr.sliceAt, Sem.run_bind, run_underlying hu w, Result.andThen_ok, Instr.slice, AV.real, if_true, run_sizeOf hinf w, Sem.run_pure, Option.map_some, Bool.false_eq_true, if_false, hb3]
            refine ⟨?_, fun h => h⟩
            rw [← cutAt_real]
            split <;> rfl
          · cases hb
        · split at hb
          · split at hb
            · cases hb
            · cases hb
          · cases hb
      · rename_i inf l k hinf hb
        injection hr with hr
        subst hr
        unfold ubnds at hb
        split at hb
        · split at hb
          · cases hb
          · cases hb
        · split at hb
          · rename_i l' k' m' hb2
            split at hb
            · rename_i hl
              injection hb with hb
              injection hb with e1 e2
              injection e2 with e2 e3
              subst e1; subst e2
              have hb3 := run_bnds (P := P) (ρ := ρ) (w := w) (is := true) (bnds_mono_none hb2 (show n ≤ (ρ i).cap - c by omega))
              simp only [Option.map_none] at hb3
              simp only [Instr.sliceAt, Sem.run_bind, run_underlying hu w, Result.andThen_ok, Instr.slice, AV.real, if_true, run_sizeOf hinf w, Sem.run_pure, Option.map_some, Option.map_none, hb3]
              refine ⟨?_, fun h => h⟩
              have e1 : (ρ i).cap - c - l' = (ρ i).cap - (c + l') := by omega
              rw [e1]
              split
              · rename_i hm
                have : l' = 0 := by omega
                subst this
                simp
              · rw [add0, Nat.add_assoc]
            · cases hb
          · cases hb
      · cases hr
    · cases hr
  · rename_i e hu
    split at hr
    · rename_i inf l k m hinf hb
      injection hr with hr
      subst hr
      simp only [Instr.sliceAt, Sem.run_bind, run_underlying hu w, Result.andThen_ok, Instr.slice, AV.real, run_bnds hb, run_sizeOf hinf w, Sem.run_pure, Option.map_none, ite_self]
      exact ⟨trivial, fun h => h⟩
    · cases hr
  · cases hr
end
end Go.Az
