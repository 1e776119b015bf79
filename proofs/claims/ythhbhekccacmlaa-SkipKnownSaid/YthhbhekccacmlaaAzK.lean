/-
  Stores, maps, new rows by append and by conversion; all operations that turn the memory: 'exH'. Conditions: stated at each theorem.
-/
import Derived.Test.YthhbhekccacmlaaAzJ
set_option linter.unusedSimpArgs false
set_option linter.unusedVariables false
namespace Go.Az
open Go Go.Chz Go.RowKit

section
variable {P : Program} {ρ : Nat → Place} {h : Hp} {w : World}

theorem grown_hb {w' : World} {g : Nat} (hg : w.grownBy w' (some g)) : ∀ b, b ≠ g → b < w.heap.size → w'.heap[b]? = w.heap[b]? :=
  fun b hne hlt => hg.block b hlt (fun e => hne (Option.some.inj e))

/-! ### Stores -/
def allOne : List AV → Bool
  | [] => true
  | a :: r => a.one && allOne r
theorem allOne_iff : ∀ l : List AV, allOne l = true ↔ ∀ a ∈ l, a.one = true
  | [] => by simp [allOne]
  | a :: r => by simp [allOne, allOne_iff r]
/-- Cells of the call's own, written. -/
theorem HRel.writeCells (H : HRel P ρ h w) {i o : Nat} {cs vs : List AV} {t : TypeId} (hi : h[i]? = some (.cells cs t true)) (hle : o + vs.length ≤ cs.length) (h1 : allOne vs = true) (hs : AV.scs h.length vs = true) :
    ∃ w', (storeCells ⟨(ρ i).b, (ρ i).o + o, none⟩ (AV.reals ρ vs)).run P w = .ok () w' ∧ HRel P ρ (h.set i (.cells (setMany cs o vs) t true)) w' ∧ Stp h.length ρ h w ρ (h.set i (.cells (setMany cs o vs) t true)) w' := by
  obtain ⟨hcell, hown⟩ := H.obj i _ hi
  obtain ⟨h0, cur, fz, hg, hf, hm, hcap⟩ := hown rfl
  have hcur : ∀ (j : Nat) (a : AV), cs[j]? = some a → cur[j]? = some (a.real ρ) := by
    intro j a hj
    have := hcell j a hj
    rw [h0, Nat.zero_add, cell_of_row w _ j cur t fz hg] at this
    exact this
  have hlen : cs.length ≤ cur.size := by
    cases hn : cs.length with
    | zero => omega
    | succ n =>
      have hlt : n < cs.length := by omega
      have := hcur n cs[n] (List.getElem?_eq_getElem hlt)
      have := (Array.getElem?_eq_some_iff.1 this).1
      omega
  have hone : ∀ v ∈ AV.reals ρ vs, v.oneCell' = true := by
    intro v hv
    rw [reals_eq] at hv
    obtain ⟨a, ha, rfl⟩ := List.mem_map.1 hv
    exact one_real ρ a ((allOne_iff vs).1 h1 a ha)
  obtain ⟨w', cur', hst, hg', hsz, hgr, hl⟩ := run_storeCells_free (P := P) (ρ i).b o t fz (AV.reals ρ vs) 0 cur w hg hf (by rw [reals_length]; omega) hone
  simp only [Nat.add_zero, reals_length] at hl
  refine ⟨w', by rw [h0, Nat.zero_add]; exact hst, H.set hi rfl ⟨fun j a hj => ?_, fun _ => ⟨h0, cur', fz, hg', by rw [hsz]; exact hf, hm, fun inf hinf => ?_⟩⟩ ?_ (grown_hb hgr), Stp.set _ hi rfl hgr.os hgr.tape hgr.output hgr.size (grown_hb hgr)⟩
  · rw [h0, Nat.zero_add, cell_of_row w' _ j cur' t fz hg', ← Array.getElem?_toList, hl]
    unfold setMany at hj
    have e : (AV.reals ρ (cs.take o ++ vs ++ cs.drop (o + vs.length)))[j]? = some (a.real ρ) := by rw [reals_getElem?, hj]; rfl
    have e2 : AV.reals ρ (cs.take o ++ vs ++ cs.drop (o + vs.length)) = (AV.reals ρ cs).take o ++ AV.reals ρ vs ++ (AV.reals ρ cs).drop (o + vs.length) := by
      simp only [reals_eq, List.map_append, List.map_take, List.map_drop]
    rw [e2] at e
    have hpre : ∀ k, k < cs.length → cur.toList[k]? = (AV.reals ρ cs)[k]? := by
      intro k hk
      rw [Array.getElem?_toList, hcur k cs[k] (List.getElem?_eq_getElem hk), reals_getElem?, List.getElem?_eq_getElem hk]; rfl
    have hj1 : j < cs.length := by
      have := (List.getElem?_eq_some_iff.1 hj).1
      simp only [List.length_append, List.length_take, List.length_drop] at this
      omega
    rw [← e]
    simp only [List.getElem?_append, List.length_append, List.length_take, reals_length, Array.length_toList, List.getElem?_take, List.getElem?_drop]
    have m1 : min o cur.size = o := by omega
    have m2 : min o cs.length = o := by omega
    rw [m1, m2]
    split
    · split
      · exact hpre j hj1
      · rfl
    · exact hpre _ (by omega)
  · obtain ⟨c1, c2⟩ := hcap inf hinf
    refine ⟨by rw [hsz]; exact c1, ?_⟩
    simp only [setMany, List.length_append, List.length_take, List.length_drop]
    omega
  · exact setMany_sc (H.sc i _ hi) hs

def sto (P : Program) (h : Hp) (t : TypeId) (a x : AV) : Option Hp :=
  match a, P.info? t with
  | .ptr i o, some inf => match h[i]? with
    | some (.cells cs t' true) => if x.cellOk = true ∧ allOne x.cellsL = true ∧ x.cellsL.length = inf.size ∧ o + inf.size ≤ cs.length then some (h.set i (.cells (setMany cs o x.cellsL) t' true)) else none
    | _ => none
  | _, _ => none
theorem sto_ok (H : HRel P ρ h w) {t : TypeId} {a x : AV} {h' : Hp} (hr : sto P h t a x = some h') (hx : x.sc h.length = true) : OutU P ρ h w h' ((Instr.storeAt t (a.real ρ) (x.real ρ)).run P w) := by
  unfold sto at hr
  split at hr
  · rename_i i o inf hinf
    split at hr
    · rename_i cs t' hi
      simp only [Option.ite_none_right_eq_some, Option.some.injEq] at hr
      obtain ⟨⟨hok, h1, hsz, hle⟩, rfl⟩ := hr
      obtain ⟨w', hst, hH, hS⟩ := H.writeCells hi (vs := x.cellsL) (o := o) (by omega) h1 (cellsL_sc hx)
      refine ⟨ρ, w', ?_, by simp, hH, hS⟩
      have hc := cellsL_real ρ x (cellOk_spec hok)
      have hcs : ¬ ((x.real ρ).cells.size ≠ inf.size) := by rw [hc]; simp [reals_length, hsz]
      simp only [Instr.storeAt, AV.real, Instr.sureAddr, Sem.run_bind, Sem.run_pure, Result.andThen_ok, storeVar, run_sizeOf hinf w, hcs, if_false]
      rw [hc, List.toList_toArray]
      exact hst
    · cases hr
  · cases hr

/-! ### Maps -/
theorem Stp.pushObj (H : HRel P ρ h w) {o : AObj} {ob : Obj} (hs : o.sc (h.length + 1) = true) (ho : ORel P (upd ρ h.length ⟨w.heap.size, 0, 0⟩) (w.alloc ob) ⟨w.heap.size, 0, 0⟩ o) :
    HRel P (upd ρ h.length ⟨w.heap.size, 0, 0⟩) (h ++ [o]) (w.alloc ob) ∧ Stp h.length ρ h w (upd ρ h.length ⟨w.heap.size, 0, 0⟩) (h ++ [o]) (w.alloc ob) := by
  have hb : ∀ b, b < w.heap.size → (w.alloc ob).heap[b]? = w.heap[b]? := fun b hb => Below.heap_alloc w _ b hb
  refine ⟨HRel.push (H.other fun i o _ _ hlt => hb _ hlt) ho hs fun _ j o' hj ho' _ => ?_, Stp.push rfl rfl rfl (by simp) hb (fun _ => Nat.le_refl _)⟩
  have := H.live_lt hj ho'
  simp only; omega
def mkm (h : Hp) (reserve : Option AV) : Option (AV × Hp) :=
  match reserve with
  | none => some (.mp h.length, h ++ [.map [] 0])
  | some _ => none
theorem mkm_ok (H : HRel P ρ h w) {t : TypeId} {reserve : Option AV} {r : AV} {h' : Hp} (hr : mkm h reserve = some (r, h')) : OutV P ρ h w r h' ((Instr.makeMap t (reserve.map (AV.real ρ))).run P w) := by
  unfold mkm at hr
  split at hr
  · simp only [Option.some.injEq, Prod.mk.injEq] at hr
    obtain ⟨rfl, rfl⟩ := hr
    have hp := Stp.pushObj (ob := .map #[] 0) H (o := .map [] 0) rfl (by simp only [ORel]; exact heap_alloc_new w _)
    refine ⟨_, _, ?_, by simp [AV.sc], by simp, hp.1, hp.2⟩
    simp only [Instr.makeMap, Option.map_none, Sem.run_bind, run_newObj, Result.andThen_ok, Sem.run_pure, AV.real, upd_same]
    rfl
  · cases hr

/-- The entry of a key: its number among them. -/
def midx (d : TypeDesc) (k : Value) : List (Value × AV × Nat) → Nat → Option (Option Nat)
  | [], _ => some none
  | e :: r, i => match Instr.sameNow d k e.1 with
    | some true => some (some i)
    | some false => midx d k r (i + 1)
    | none => none
theorem midx_real (ρ : Nat → Place) (d : TypeDesc) (k : Value) : ∀ (es : List (Value × AV × Nat)) (i : Nat) (r : Option Nat), midx d k es i = some r →
    match r with
    | none => Instr.findNow d k (mapReal ρ es) i = some none
    | some j => i ≤ j ∧ ∃ e, es[j - i]? = some e ∧ Instr.sameNow d k e.1 = some true ∧ Instr.findNow d k (mapReal ρ es) i = some (some (j, e.2.1.real ρ))
  | [], i, r, h => by simp [midx] at h; subst h; rfl
  | e :: es, i, r, h => by
    simp only [midx] at h
    split at h
    · rename_i hs
      injection h with h; subst h
      exact ⟨Nat.le_refl _, e, by simp, hs, by simp [mapReal, Instr.findNow, hs]⟩
    · rename_i hs
      have ih := midx_real ρ d k es (i + 1) r h
      cases r with
      | none => simp only [mapReal, List.map_cons, Instr.findNow, hs] at ih ⊢; exact ih
      | some j =>
        obtain ⟨hle, e', he', hs', hf⟩ := ih
        refine ⟨by omega, e', ?_, hs', by simp only [mapReal, List.map_cons, Instr.findNow, hs] at hf ⊢; exact hf⟩
        rw [show j - i = (j - (i + 1)) + 1 by omega, List.getElem?_cons_succ]; exact he'
    · cases h
theorem sameBits_of_sameNow {d : TypeDesc} {k k' : Value} (hd : keyD d = true) (h : Instr.sameNow d k k' = some true) : Instr.sameBits 10000 k' k = true := by
  unfold Instr.sameNow at h
  split at h
  · split at h
    · rename_i hk
      subst hk
      simp at h
      subst h
      simp [Instr.sameBits]
    · cases h
  · rename_i a b
    have e0 : (a == b) = (a.data == b.data) := rfl
    have e1 : (b == a) = (b.data == a.data) := rfl
    injection h with h
    rw [e0] at h
    have : a.data = b.data := by simpa using h
    unfold Instr.sameBits
    rw [e1]; simp [this]
  · simp [keyD] at hd
  · cases h
def mset (es : List (Value × AV × Nat)) (i : Nat) (k : Value) (v : AV) : List (Value × AV × Nat) :=
  match es[i]? with
  | some e => es.set i (k, v, e.2.2)
  | none => es
theorem mset_real (ρ : Nat → Place) (es : List (Value × AV × Nat)) (i : Nat) (k : Value) (v : AV) : (mapReal ρ es).toArray.modify i (fun e => { e with key := k, val := v.real ρ }) = (mapReal ρ (mset es i k v)).toArray := by
  apply Array.ext'
  rw [Array.toList_modify, List.toList_toArray]
  unfold mset
  cases hi : es[i]? with
  | none =>
    have : es.length ≤ i := List.getElem?_eq_none_iff.1 hi
    rw [List.modify_eq_self (by simp [mapReal]; omega)]
  | some e =>
    simp only
    have hlt : i < es.length := (List.getElem?_eq_some_iff.1 hi).1
    apply List.ext_getElem?
    intro j
    rw [List.getElem?_modify]
    simp only [mapReal, List.getElem?_map, List.getElem?_set]
    by_cases hij : i = j
    · subst hij
      have he : es[i] = e := by rw [List.getElem?_eq_getElem hlt] at hi; injection hi
      simp [hlt, he]
    · simp [hij]
def mpu (P : Program) (h : Hp) (t : TypeId) (m k v : AV) : Option Hp :=
  match P.underlying t, m, k with
  | some (.map kt _), .mp i, .v kv =>
    match h[i]?, P.underlying kt with
    | some (.map es c), some kd => if keyD kd = true then
        match midx kd kv es 0 with
        | some (some j) => some (h.set i (.map (mset es j kv v) c))
        | some none => some (h.set i (.map (es ++ [(kv, v, c)]) (c + 1)))
        | none => none
      else none
    | _, _ => none
  | _, _, _ => none
theorem run_setObj {b : Nat} {o o' : Obj} (hg : w.heap[b]? = some o) (hne : ∀ c e f, o ≠ .cells c e f) : (setObj b o').run P w = .ok () { w with heap := w.heap.setIfInBounds b o' } := by
  cases o <;> first | exact absurd rfl (hne _ _ _) | simp only [setObj, Sem.run, hg]
theorem HRel.setObj (H : HRel P ρ h w) {i : Nat} {x o : AObj} {ob : Obj} (hi : h[i]? = some x) (hx : x.own = true) (hs : o.sc h.length = true)
    (ho : ORel P ρ { w with heap := w.heap.setIfInBounds (ρ i).b ob } (ρ i) o) :
    HRel P ρ (h.set i o) { w with heap := w.heap.setIfInBounds (ρ i).b ob } ∧ Stp h.length ρ h w ρ (h.set i o) { w with heap := w.heap.setIfInBounds (ρ i).b ob } := by
  have hb : ∀ b, b ≠ (ρ i).b → b < w.heap.size → ({ w with heap := w.heap.setIfInBounds (ρ i).b ob } : World).heap[b]? = w.heap[b]? := by
    intro b hne _
    simp only
    rw [Array.getElem?_setIfInBounds_ne (Ne.symm hne)]
  exact ⟨H.set hi hx ho hs hb, Stp.set _ hi hx rfl rfl rfl (by simp) hb⟩
theorem all_set {f : (Value × AV × Nat) → Bool} {es : List (Value × AV × Nat)} {i : Nat} {e : Value × AV × Nat} (h : es.all f = true) (he : f e = true) : (es.set i e).all f = true := by
  rw [List.all_eq_true] at h ⊢
  intro x hx
  rcases List.mem_or_eq_of_mem_set hx with h1 | h1
  · exact h x h1
  · exact h1 ▸ he
theorem mpu_ok (H : HRel P ρ h w) {t : TypeId} {m k v : AV} {h' : Hp} (hr : mpu P h t m k v = some h') (hv : v.sc h.length = true) : OutU P ρ h w h' ((Instr.mapUpdate t (m.real ρ) (k.real ρ) (v.real ρ)).run P w) := by
  unfold mpu at hr
  split at hr
  · rename_i kt et i kv hu
    split at hr
    · rename_i es c kd hi hk
      simp only [Option.ite_none_right_eq_some] at hr
      obtain ⟨hkd, hr⟩ := hr
      have hg : w.heap[(ρ i).b]? = some (.map (mapReal ρ es).toArray c) := H.obj i _ hi
      have hlt : (ρ i).b < w.heap.size := H.lt hi rfl
      have hget : (getObj (ρ i).b).run P w = .ok (.map (mapReal ρ es).toArray c) w := by simp only [getObj, Sem.run, hg]
      have hset : ∀ o', (setObj (ρ i).b o').run P w = .ok () { w with heap := w.heap.setIfInBounds (ρ i).b o' } := fun o' => run_setObj hg (by intro _ _ _ h; cases h)
      have hcs := H.sc i _ hi
      split at hr
      · rename_i j hm
        injection hr with hr; subst hr
        obtain ⟨_, e, he, hsn, hf⟩ := midx_real ρ kd kv es 0 (some j) hm
        simp only [Nat.sub_zero] at he
        have hgj : (mapReal ρ es).toArray[j]? = some { key := e.1, val := e.2.1.real ρ, born := e.2.2 } := by simp [mapReal, he]
        have hst : (Instr.keyThatStays e.1 kv).run P w = .ok kv w := by
          unfold Instr.keyThatStays
          rw [sameBits_of_sameNow hkd hsn]; rfl
        have hp := H.setObj (ob := .map (mapReal ρ (mset es j kv v)).toArray c) hi rfl (o := .map (mset es j kv v) c) (by
          unfold mset; rw [he]; exact all_set hcs hv) (by simp only [ORel, Array.getElem?_setIfInBounds_self_of_lt hlt])
        refine ⟨ρ, _, ?_, by simp, hp.1, hp.2⟩
        simp only [Instr.mapUpdate, AV.real, Sem.run_bind, run_underlying hu w, Result.andThen_ok, hget, run_checkKey hk hkd, Instr.findKey, run_underlying hk w, List.toList_toArray, hf, Sem.run_pure, hgj, Option.map_some, Option.getD_some, hst, mset_real, hset]
      · rename_i hm
        injection hr with hr; subst hr
        have hf := midx_real ρ kd kv es 0 none hm
        have hp := H.setObj (ob := .map (mapReal ρ (es ++ [(kv, v, c)])).toArray (c + 1)) hi rfl (o := .map (es ++ [(kv, v, c)]) (c + 1)) (by
          simp only [AObj.sc, List.all_append, List.all_cons, List.all_nil, Bool.and_true, Bool.and_eq_true]; exact ⟨hcs, hv⟩) (by simp only [ORel, Array.getElem?_setIfInBounds_self_of_lt hlt])
        refine ⟨ρ, _, ?_, by simp, hp.1, hp.2⟩
        have hpush : (mapReal ρ es).toArray.push { key := kv, val := v.real ρ, born := c } = (mapReal ρ (es ++ [(kv, v, c)])).toArray := by
          apply Array.ext'; simp [mapReal]
        simp only at hf
        simp only [Instr.mapUpdate, AV.real, Sem.run_bind, run_underlying hu w, Result.andThen_ok, hget, run_checkKey hk hkd, Instr.findKey, run_underlying hk w, List.toList_toArray, hf, Sem.run_pure, hpush, hset]
      · cases hr
    · cases hr
  · cases hr
end
end Go.Az
