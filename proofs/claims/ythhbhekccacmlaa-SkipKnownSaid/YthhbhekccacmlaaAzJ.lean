/-
  Operations that turn the memory: new cells, stores, maps, new rows. Conditions: stated at each theorem.
-/
import Derived.Test.YthhbhekccacmlaaAzI
import Derived.IntWalk
set_option linter.unusedSimpArgs false
set_option linter.unusedVariables false
namespace Go.Az
open Go Go.Chz Go.RowKit

/-- What an operation that turns the memory comes to. -/
def Out (P : Program) (ρ : Nat → Place) (h : Hp) (w : World) (r : AV) (h' : Hp) (x : Result Next) : Prop :=
  ∃ ρ' w', (x = .ok (.value (r.real ρ')) w' ∨ (x = .ok .skip w' ∧ r = .v undef)) ∧ r.sc h'.length = true ∧ h.length ≤ h'.length ∧ HRel P ρ' h' w' ∧ Stp h.length ρ h w ρ' h' w'
/-- The same of one that yields a value. -/
def OutV (P : Program) (ρ : Nat → Place) (h : Hp) (w : World) (r : AV) (h' : Hp) (x : Result Value) : Prop :=
  ∃ ρ' w', x = .ok (r.real ρ') w' ∧ r.sc h'.length = true ∧ h.length ≤ h'.length ∧ HRel P ρ' h' w' ∧ Stp h.length ρ h w ρ' h' w'
def OutU (P : Program) (ρ : Nat → Place) (h : Hp) (w : World) (h' : Hp) (x : Result Unit) : Prop :=
  ∃ ρ' w', x = .ok () w' ∧ h.length ≤ h'.length ∧ HRel P ρ' h' w' ∧ Stp h.length ρ h w ρ' h' w'

section
variable {P : Program} {ρ : Nat → Place} {h : Hp} {w : World}

/-- What is live lies in a block that is there. -/
theorem HRel.live_lt (H : HRel P ρ h w) {i : Nat} {o : AObj} (hi : h[i]? = some o) (ho : o.live = true) : (ρ i).b < w.heap.size := by
  by_cases hown : o.own = true
  · exact H.lt hi hown
  · cases o with
    | gone => cases ho
    | cells cs t own =>
      cases cs with
      | nil => simp [AObj.live] at ho; exact absurd ho hown
      | cons a r => exact World.block_lt_of_cell? w ⟨(ρ i).b, (ρ i).o + 0, none⟩ ((H.obj i _ hi).1 0 a rfl)
    | map es c => exact absurd rfl hown
    | loop st pe tm ps asg bd d => exact absurd rfl hown
    | dfr => exact absurd rfl hown

theorem World.alloc_eq (w : World) (o : Obj) : ({ w with heap := w.heap.push o } : World) = w.alloc o := rfl

/-- New cells in a new block. -/
theorem HRel.pushCells (H : HRel P ρ h w) {cs : List AV} {t : TypeId} {cap : Nat} {cur : Array Value} {fz : Nat × Nat} (hs : AV.scs h.length cs = true)
    (hcur : ∀ (j : Nat) (a : AV), cs[j]? = some a → cur[j]? = some (a.real ρ)) (hf : freeRow fz cur.size) (hm : cap ≤ maxLen)
    (hc : ∀ inf, P.info? t = some inf → cap * inf.size ≤ cur.size ∧ cs.length ≤ cap * inf.size) :
    HRel P (upd ρ h.length ⟨w.heap.size, 0, cap⟩) (h ++ [.cells cs t true]) (w.alloc (.cells cur t fz)) ∧
    Stp h.length ρ h w (upd ρ h.length ⟨w.heap.size, 0, cap⟩) (h ++ [.cells cs t true]) (w.alloc (.cells cur t fz)) := by
  have hb : ∀ b, b < w.heap.size → (w.alloc (.cells cur t fz)).heap[b]? = w.heap[b]? := fun b hb => Below.heap_alloc w _ b hb
  have hg : (w.alloc (.cells cur t fz)).heap[w.heap.size]? = some (.cells cur t fz) := heap_alloc_new w _
  refine ⟨HRel.push (H.other fun i o _ _ hlt => hb _ hlt) ⟨fun j a hj => ?_, fun _ => ⟨rfl, cur, fz, hg, hf, hm, hc⟩⟩ ?_ ?_, Stp.push rfl rfl rfl (by simp) hb (fun _ => Nat.le_refl _)⟩
  · have ha : a.sc h.length = true := (scs_iff _ cs).1 hs a (List.mem_of_getElem? hj)
    have hr : a.real (upd ρ h.length ⟨w.heap.size, 0, cap⟩) = a.real ρ := real_agree (upd_lt ρ _) a ha
    rw [hr, cell_of_row _ w.heap.size (0 + j) cur t fz hg, Nat.zero_add]
    exact hcur j a hj
  · exact scs_mono (by omega) cs hs
  · intro _ j o' hj ho' _
    have := H.live_lt hj ho'
    simp only; omega

theorem OutV.value {r : AV} {h' : Hp} {x : Result Value} (hx : OutV P ρ h w r h' x) : Out P ρ h w r h' (x.andThen fun v w => .ok (.value v) w) := by
  obtain ⟨ρ', w', rfl, h1, h2, h3, h4⟩ := hx
  exact ⟨ρ', w', .inl rfl, h1, h2, h3, h4⟩
theorem OutU.skip {h' : Hp} {x : Result Unit} (hx : OutU P ρ h w h' x) : Out P ρ h w (.v undef) h' (x.andThen fun _ w => .ok .skip w) := by
  obtain ⟨ρ', w', rfl, h1, h3, h4⟩ := hx
  exact ⟨ρ', w', .inr ⟨rfl, rfl⟩, rfl, h1, h3, h4⟩

/-! ### New variables -/
def newC (P : Program) (h : Hp) (t : TypeId) (cs : List AV) : Option (AV × Hp) :=
  match P.info? t with
  | some inf => if cs.length = inf.size then some (.ptr h.length 0, h ++ [.cells cs t true]) else none
  | none => none
theorem newC_ok (H : HRel P ρ h w) {t : TypeId} {cs : List AV} {v : Value} {r : AV} {h' : Hp} (hr : newC P h t cs = some (r, h')) (hs : AV.scs h.length cs = true) (hv : v.cells = (AV.reals ρ cs).toArray) :
    OutV P ρ h w r h' (((do pure (.pointer (some (← newVar t v)))) : Sem Value).run P w) := by
  unfold newC at hr
  split at hr
  · rename_i inf hinf
    simp only [Option.ite_none_right_eq_some, Option.some.injEq, Prod.mk.injEq] at hr
    obtain ⟨hl, rfl, rfl⟩ := hr
    have hp := H.pushCells (t := t) (cap := 1) (cur := (AV.reals ρ cs).toArray) (fz := (0, 0)) hs (fun j a hj => by simp [reals_getElem?, hj]) (.inl (Nat.le_refl _)) (by simp [maxLen])
      (fun i hi => by rw [hinf] at hi; injection hi with hi; subst hi; simp [reals_length]; omega)
    refine ⟨_, _, ?_, ?_, by simp, hp.1, hp.2⟩
    · simp only [newVar, newRow, hv, Sem.run_bind, run_newObj, Result.andThen_ok, Sem.run_pure, AV.real, upd_same]
      rfl
    · simp [AV.sc]
  · cases hr

/-! ### Rows of zeros, and of parts -/
def zrow (x : TI) (n : Nat) : List AV := (List.range n).map fun i => .v (x.zc.getD (i % x.size) undef)
theorem zrow_real (ρ : Nat → Place) (x : TI) (n : Nat) (z : Value) (hz : z.cells = x.zc.toArray) (hl : x.zc.length = x.size) (h0 : n = 0 ∨ 0 < x.size) (zz : Array Value) (hzz : n ≠ 0 → zz = z.cells) :
    (Array.range n).map (fun i => zz[i % zz.size]!) = (AV.reals ρ (zrow x n)).toArray := by
  apply Array.ext'
  simp only [Array.toList_map, Array.toList_range, zrow, reals_eq, List.map_map]
  refine List.map_congr_left fun i hi => ?_
  have hn : n ≠ 0 := by rintro rfl; simp at hi
  rw [hzz hn, hz]
  have hsz : 0 < x.size := h0.resolve_left hn
  have : i % x.size < x.zc.length := by rw [hl]; exact Nat.mod_lt _ hsz
  simp [hl, AV.real, List.getD_eq_getElem?_getD, List.getElem?_eq_getElem this]
theorem zrow_sc (n m : Nat) (x : TI) : AV.scs n (zrow x m) = true := (scs_iff n _).2 fun a ha => by
  simp only [zrow, List.mem_map] at ha; obtain ⟨_, _, rfl⟩ := ha; rfl
theorem zrow_length (x : TI) (n : Nat) : (zrow x n).length = n := by simp [zrow]

def bsl (P : Program) (h : Hp) (t : TypeId) (len : Nat) (parts : List (Nat × AV)) : Option (AV × Hp) :=
  match P.underlying t with
  | some (.slice e) => match tab P e with
    | some x => if len * x.size ≤ 16777216 ∧ 0 < x.size ∧ len ≤ 16777216 then
        match afill (fun i => some (i * x.size, x.size)) (zrow x (len * x.size)) parts with
        | some cs => if cs.length = len * x.size then some (.sl h.length 0 len len false, h ++ [.cells cs e true]) else none
        | none => none
      else none
    | none => none
  | _ => none
theorem bsl_ok (H : HRel P ρ h w) {t : TypeId} {len : Nat} {parts : List (Nat × AV)} {r : AV} {h' : Hp} (hr : bsl P h t len parts = some (r, h')) (hs : ∀ p ∈ parts, p.2.sc h.length = true) :
    OutV P ρ h w r h' ((Instr.buildSlice t len (parts.map fun p => (p.1, p.2.real ρ)).toArray).run P w) := by
  unfold bsl at hr
  split at hr
  · rename_i e hu
    split at hr
    · rename_i x hx
      obtain ⟨hu2, inf, z, hinf, hsz, hb, hz, hzc, hl, h1, hagg, hna⟩ := tab_spec hx
      simp only [Option.ite_none_right_eq_some] at hr
      obtain ⟨⟨hle, h0, hlen⟩, hr⟩ := hr
      split at hr
      · rename_i cs hcs
        simp only [Option.ite_none_right_eq_some, Option.some.injEq, Prod.mk.injEq] at hr
        obtain ⟨hcl, rfl, rfl⟩ := hr
        have hf := afill_real ρ _ _ _ _ hcs
        have hcsc := afill_sc hcs (zrow_sc _ _ x) hs
        have hp := H.pushCells (t := e) (cap := len) (cur := (AV.reals ρ cs).toArray) (fz := (0, 0)) hcsc (fun j a hj => by simp [reals_getElem?, hj]) (.inl (Nat.le_refl _)) (by simp [maxLen]; omega)
          (fun i hi => by rw [hinf] at hi; injection hi with hi; subst hi; simp [reals_length, hsz, hcl])
        refine ⟨_, _, ?_, by simp [AV.sc], by simp, hp.1, hp.2⟩
        have hzr : (zeroValue e).run P w = .ok z w := by simp [zeroValue, typeInfo, hinf, hz]
        have hn24 : ¬ (len * x.size > 2 ^ 24) := by omega
        simp only [Instr.buildSlice, Sem.run_bind, run_underlying hu w, Result.andThen_ok, run_sizeOf hinf w, hsz, hn24, if_false]
        by_cases hn : len * x.size = 0
        · have e0 := zrow_real ρ x (len * x.size) z hzc hl (.inr h0) #[] (fun h => absurd hn h)
          simp only [hn, if_true, pure_bind] at e0 ⊢
          rw [hn] at hf
          rw [e0, hf]
          simp only [newRow, Sem.run_bind, run_newObj, Result.andThen_ok, Sem.run_pure, AV.real, upd_same, Bool.false_eq_true, if_false]
          rfl
        · have e0 := zrow_real ρ x (len * x.size) z hzc hl (.inr h0) z.cells (fun _ => rfl)
          simp only [hn, if_false, Sem.run_bind, hzr, Sem.run_pure, Result.andThen_ok]
          rw [e0, hf]
          simp only [newRow, Sem.run_bind, run_newObj, Result.andThen_ok, Sem.run_pure, AV.real, upd_same, Bool.false_eq_true, if_false]
          rfl
      · cases hr
    · cases hr
  · cases hr

def msl (P : Program) (h : Hp) (t : TypeId) (l c : AV) : Option (AV × Hp) :=
  match P.underlying t, intOf? l, intOf? c with
  | some (.slice e), some l, some c => match tab P e with
    | some x => if 0 ≤ l ∧ l ≤ c ∧ c ≤ 9223372036854775807 ∧ (x.bytes : Int) * c ≤ 281474976710656 ∧ 0 < x.size then
        some (.sl h.length 0 l.toNat c.toNat false, h ++ [.cells (zrow x (c.toNat * x.size)) e true])
      else none
    | none => none
  | _, _, _ => none
theorem wrap_i64_in {n : Int} (h0 : -9223372036854775808 ≤ n) (h1 : n ≤ 9223372036854775807) : IntKind.i64.wrap n = n := IntWalk.i64_in n ⟨h0, h1⟩
theorem msl_ok (H : HRel P ρ h w) {t : TypeId} {l c r : AV} {h' : Hp} (hr : msl P h t l c = some (r, h')) :
    OutV P ρ h w r h' ((Instr.makeSlice t (l.real ρ) (c.real ρ)).run P w) := by
  unfold msl at hr
  split at hr
  · rename_i e ln cn hu hl' hc'
    obtain ⟨k1, rfl⟩ := intOf?_spec hl'
    obtain ⟨k2, rfl⟩ := intOf?_spec hc'
    split at hr
    · rename_i x hx
      obtain ⟨hu2, inf, z, hinf, hsz, hb, hz, hzc, hl, h1, hagg, hna⟩ := tab_spec hx
      simp only [Option.ite_none_right_eq_some, Option.some.injEq, Prod.mk.injEq] at hr
      obtain ⟨⟨hl0, hlc, hcm, hby, h0⟩, rfl, rfl⟩ := hr
      have hp := H.pushCells (cs := zrow x (cn.toNat * x.size)) (t := e) (cap := cn.toNat) (cur := (AV.reals ρ (zrow x (cn.toNat * x.size))).toArray) (fz := (0, 0)) (zrow_sc _ _ x) (fun j a hj => by rw [List.getElem?_toArray, reals_getElem?, hj]; rfl) (.inl (Nat.le_refl _)) (by simp [maxLen]; omega)
        (fun i hi => by rw [hinf] at hi; injection hi with hi; subst hi; simp [reals_length, hsz, zrow_length])
      refine ⟨_, _, ?_, by simp [AV.sc], by simp, hp.1, hp.2⟩
      have hzr : (zeroValue e).run P w = .ok z w := by simp [zeroValue, typeInfo, hinf, hz]
      have w1 := wrap_i64_in (n := ln) (by omega) (by omega)
      have w2 := wrap_i64_in (n := cn) (by omega) (by omega)
      have t1 : ((decide (cn < 0) || decide ((inf.bytes : Int) * cn > 2 ^ 48)) || decide (ln < 0) || decide (ln > cn)) = false := by
        rw [hb]; simp; omega
      simp only [Instr.makeSlice, AV.real, asInt, asIntOf, Sem.run_bind, run_underlying hu w, Sem.run_pure, Result.andThen_ok, typeInfo, run_program, hinf, w1, w2, t1, Bool.false_eq_true, if_false, run_askRoom, run_sizeOf hinf w, hsz]
      by_cases hn : cn.toNat * x.size = 0
      · have e0 := zrow_real ρ x (cn.toNat * x.size) z hzc hl (.inr h0) #[] (fun h => absurd hn h)
        simp only [hn, if_true, pure_bind] at e0 ⊢
        rw [e0]
        simp only [newRow, Sem.run_bind, run_newObj, Result.andThen_ok, Sem.run_pure, upd_same, Bool.false_eq_true, if_false]
        rfl
      · have e0 := zrow_real ρ x (cn.toNat * x.size) z hzc hl (.inr h0) z.cells (fun _ => rfl)
        simp only [hn, if_false, Sem.run_bind, hzr, Sem.run_pure, Result.andThen_ok]
        rw [e0]
        simp only [newRow, Sem.run_bind, run_newObj, Result.andThen_ok, Sem.run_pure, upd_same, Bool.false_eq_true, if_false]
        rfl
    · cases hr
  · cases hr
end
end Go.Az
