/-
  Loads, addresses, slices, indexes, conversions, lookups and quiet builtins on abstract values, and that the model does the same. Conditions: stated at each theorem.
-/
import Derived.Test.YthhbhekccacmlaaAzD
set_option linter.unusedSimpArgs false
set_option linter.unusedVariables false
namespace Go.Az
open Go Go.Chz

section
variable {P : Program} {ρ : Nat → Place} {h : Hp} {w : World}

theorem HRel.cell (H : HRel P ρ h w) {i j : Nat} {cs : List AV} {t : TypeId} {o : Bool} {a : AV} (hi : h[i]? = some (.cells cs t o)) (hj : cs[j]? = some a) :
    w.cell? ⟨(ρ i).b, (ρ i).o + j, none⟩ = some (a.real ρ) := (H.obj i _ hi).1 j a hj
theorem HRel.cellSc (H : HRel P ρ h w) {i j : Nat} {cs : List AV} {t : TypeId} {o : Bool} {a : AV} (hi : h[i]? = some (.cells cs t o)) (hj : cs[j]? = some a) : a.sc h.length = true :=
  (scs_iff _ cs).1 (H.sc i _ hi) a (List.mem_of_getElem? hj)
/-- A range of cells. -/
theorem HRel.range (H : HRel P ρ h w) {i : Nat} {cs : List AV} {t : TypeId} {ow : Bool} (hi : h[i]? = some (.cells cs t ow)) (o n : Nat) (hn : o + n ≤ cs.length) :
    ∀ j v, (AV.reals ρ ((cs.drop o).take n))[j]? = some v → w.cell? ((⟨(ρ i).b, (ρ i).o + o, none⟩ : Addr).add j) = some v := by
  intro j v hv
  rw [reals_getElem?] at hv
  obtain ⟨a, ha, rfl⟩ := Option.map_eq_some_iff.1 hv
  rw [List.getElem?_take] at ha
  split at ha
  · rw [List.getElem?_drop] at ha
    have := H.cell hi ha
    rw [add0, Nat.add_assoc]; exact this
  · cases ha
theorem run_loadRange (H : HRel P ρ h w) {i : Nat} {cs : List AV} {t : TypeId} {ow : Bool} (hi : h[i]? = some (.cells cs t ow)) (o n : Nat) (hn : o + n ≤ cs.length) :
    (loadCells ⟨(ρ i).b, (ρ i).o + o, none⟩ n).run P w = .ok (AV.reals ρ ((cs.drop o).take n)).toArray w := by
  have hl : (AV.reals ρ ((cs.drop o).take n)).length = n := by rw [reals_length, List.length_take, List.length_drop]; omega
  have := run_loadCells_list (P := P) w ⟨(ρ i).b, (ρ i).o + o, none⟩ _ (H.range hi o n hn)
  rwa [hl] at this

/-! ### Loads -/
def ldc (P : Program) (h : Hp) (t : TypeId) (i o : Nat) : Option AV :=
  match tab P t, h[i]? with
  | some x, some (.cells cs _ _) => if aggD x.d = true then if o + x.size ≤ cs.length then some (.agg ((cs.drop o).take x.size)) else none else cs[o]?
  | _, _ => none
theorem run_ldc (H : HRel P ρ h w) {t : TypeId} {i o : Nat} {r : AV} (hr : ldc P h t i o = some r) :
    (loadVar t ⟨(ρ i).b, (ρ i).o + o, none⟩).run P w = .ok (r.real ρ) w ∧ r.sc h.length = true := by
  unfold ldc at hr
  split at hr
  · rename_i x cs t' ow hx hi
    obtain ⟨hu, inf, z, hinf, hs, _⟩ := tab_spec hx
    unfold loadVar
    rw [Sem.run_bind, run_isAgg hu w, Result.andThen_ok]
    split at hr
    · rename_i hagg
      rw [hagg]
      split at hr
      · rename_i hle
        injection hr with hr
        subst hr
        simp only [if_true, Sem.run_bind, run_sizeOf hinf w, Result.andThen_ok, hs, run_loadRange H hi o x.size hle, Sem.run_pure, AV.real]
        exact ⟨trivial, (scs_iff _ _).2 fun a ha => (scs_iff _ cs).1 (H.sc i _ hi) a (List.mem_of_mem_drop (List.mem_of_mem_take ha))⟩
      · cases hr
    · rename_i hagg
      have : aggD x.d = false := by simpa using hagg
      rw [this]
      simp only [Bool.false_eq_true, if_false, run_load, H.cell hi hr]
      exact ⟨trivial, H.cellSc hi hr⟩
  · cases hr

/-! ### Addresses -/
def fad (P : Program) (s : TypeId) (x : AV) (fld : Nat) : Option AV :=
  match P.underlying s, x with
  | some (.struct fs), .ptr i o =>
    match fs[fld]? with
    | some f => match P.info? f.type with
      | some inf => if inf.size = 0 then none else some (.ptr i (o + f.offset))
      | none => none
    | none => none
  | _, _ => none
theorem run_fad {s : TypeId} {x r : AV} {fld : Nat} (hr : fad P s x fld = some r) : (Instr.fieldAt s (x.real ρ) fld).run P w = .ok (r.real ρ) w ∧ (x.sc h.length = true → r.sc h.length = true) := by
  unfold fad at hr
  split at hr
  · rename_i fs i o hu
    split at hr
    · rename_i f hf
      split at hr
      · rename_i inf hinf
        split at hr
        · cases hr
        · rename_i h0
          injection hr with hr
          subst hr
          simp only [Instr.fieldAt, AV.real, Sem.run_bind, run_underlying hu w, Result.andThen_ok, hf, Instr.sureAddr, Sem.run_pure, fieldPlace, run_sizeOf hinf w, h0, if_false, add0]
          exact ⟨by rw [Nat.add_assoc], fun h => h⟩
      · cases hr
    · cases hr
  · cases hr

def intOf? : AV → Option Int
  | .v (.int _ n) => some n
  | _ => none
theorem intOf?_spec {x : AV} {n : Int} (h : intOf? x = some n) : ∃ k, x = .v (.int k n) := by
  unfold intOf? at h
  split at h
  · injection h with h; subst h; exact ⟨_, rfl⟩
  · cases h

def iad (P : Program) (t : TypeId) (x ix : AV) : Option AV :=
  match P.underlying t, x, intOf? ix with
  | some (.slice e), .sl i o n _ _, some a =>
    match P.info? e with
    | some inf => if 0 ≤ a ∧ a < n then some (.ptr i (o + a.toNat * inf.size)) else none
    | none => none
  | some (.array n e), .ptr i o, some a =>
    match P.info? e with
    | some inf => if 0 ≤ a ∧ a < n then some (.ptr i (o + a.toNat * inf.size)) else none
    | none => none
  | _, _, _ => none
theorem run_iad {t : TypeId} {x ix r : AV} (hr : iad P t x ix = some r) : (Instr.indexAt t (x.real ρ) (ix.real ρ)).run P w = .ok (r.real ρ) w ∧ (x.sc h.length = true → r.sc h.length = true) := by
  unfold iad at hr
  split at hr
  · rename_i e i o n c u a hu ha
    obtain ⟨k, rfl⟩ := intOf?_spec ha
    split at hr
    · rename_i inf hinf
      simp only [Option.ite_none_right_eq_some, Option.some.injEq] at hr
      obtain ⟨h0, rfl⟩ := hr
      simp only [Instr.indexAt, AV.real, asIntOf, Sem.run_bind, Sem.run_pure, run_underlying hu w, Result.andThen_ok, h0.1, h0.2, and_self, if_true, run_sizeOf hinf w, add0]
      exact ⟨by rw [Nat.add_assoc], fun h => h⟩
    · cases hr
  · rename_i n e i o a hu ha
    obtain ⟨k, rfl⟩ := intOf?_spec ha
    split at hr
    · rename_i inf hinf
      simp only [Option.ite_none_right_eq_some, Option.some.injEq] at hr
      obtain ⟨h0, rfl⟩ := hr
      simp only [Instr.indexAt, AV.real, asIntOf, Sem.run_bind, Sem.run_pure, run_underlying hu w, Result.andThen_ok, Instr.sureAddr, h0.1, h0.2, and_self, if_true, run_sizeOf hinf w, add0]
      exact ⟨by rw [Nat.add_assoc], fun h => h⟩
    · cases hr
  · cases hr

def idx (P : Program) (t : TypeId) (x ix : AV) : Option AV :=
  match P.underlying t, x, intOf? ix with
  | some .string, .v (.string s), some a => if 0 ≤ a then (s.data.toList[a.toNat]?).map fun b => .v (.int .u8 b.toNat) else none
  | some (.array n e), .agg cs, some a =>
    match P.info? e with
    | some inf => if 0 ≤ a ∧ a < n then prt P e cs (a.toNat * inf.size) else none
    | none => none
  | _, _, _ => none
theorem run_idx {t : TypeId} {x ix r : AV} (hr : idx P t x ix = some r) : (Instr.index t (x.real ρ) (ix.real ρ)).run P w = .ok (r.real ρ) w ∧ (x.sc h.length = true → r.sc h.length = true) := by
  unfold idx at hr
  split at hr
  · rename_i s a hu ha
    obtain ⟨k, rfl⟩ := intOf?_spec ha
    split at hr
    · rename_i h0
      obtain ⟨b, hb, rfl⟩ := Option.map_eq_some_iff.1 hr
      have hb' : s[a.toNat]? = some b := by
        have hl : a.toNat < s.data.toList.length := (List.getElem?_eq_some_iff.1 hb).1
        have hl2 : a.toNat < s.size := by simpa using hl
        rw [getElem?_pos s a.toNat hl2]
        rw [List.getElem?_eq_getElem hl] at hb
        injection hb with hb
        rw [← hb]
        rfl
      simp only [Instr.index, AV.real, asIntOf, Sem.run_bind, Sem.run_pure, run_underlying hu w, Result.andThen_ok, h0, if_true, hb']
      exact ⟨trivial, fun _ => rfl⟩
    · cases hr
  · rename_i n e cs a hu ha
    obtain ⟨k, rfl⟩ := intOf?_spec ha
    split at hr
    · rename_i inf hinf
      simp only [Option.ite_none_right_eq_some] at hr
      obtain ⟨h0, hp⟩ := hr
      simp only [Instr.index, AV.real, asIntOf, Sem.run_bind, Sem.run_pure, run_underlying hu w, Result.andThen_ok, h0.1, h0.2, and_self, if_true, run_sizeOf hinf w, run_part ρ w hp]
      exact ⟨trivial, fun h => prt_sc hp h⟩
    · cases hr
  · cases hr

def fld (P : Program) (t : TypeId) (x : AV) (k : Nat) : Option AV :=
  match P.underlying t, x with
  | some (.struct fs), .agg cs =>
    match fs[k]? with
    | some f => prt P f.type cs f.offset
    | none => none
  | _, _ => none
theorem run_fld {t : TypeId} {x r : AV} {k : Nat} (hr : fld P t x k = some r) : (Instr.field t (x.real ρ) k).run P w = .ok (r.real ρ) w ∧ (x.sc h.length = true → r.sc h.length = true) := by
  unfold fld at hr
  split at hr
  · rename_i fs cs hu
    split at hr
    · rename_i f hf
      simp only [Instr.field, AV.real, Sem.run_bind, run_underlying hu w, Result.andThen_ok, hf, asAgg, Sem.run_pure, run_part ρ w hr]
      exact ⟨trivial, fun h => prt_sc hr h⟩
    · cases hr
  · cases hr
end
end Go.Az
