/-
  Slices of any elements that are passed in, alone or in a struct: what the statement's own memory says of them, as an abstract memory that is only read. Conditions: stated at each theorem.
-/
import Derived.Test.YthhbhekccacmlaaAzZGB
import Derived.ChangeSlices
import Derived.Lib.SmallJoins
set_option linter.unusedSimpArgs false
set_option linter.unusedVariables false
namespace Go.Az
open Go Go.Chz Go.ChangeShapes

abbrev vEnc {α : Type} (encV : α → List Value) (x : α) : List AV := (encV x).map AV.v
structure RowX where
  a : Option Addr
  len : Nat
  cap : Nat
  cs : List Value
  t : TypeId
def RowX.obj (r : RowX) : AObj := .cells (r.cs.map AV.v) r.t false
def RowX.av (r : RowX) (i : Nat) : AV := match r.a with
  | none => .v (.slice none 0 0)
  | some _ => .sl i 0 r.len r.cap false
def RowX.place (r : RowX) : Place := match r.a with
  | none => ⟨0, 0, 0⟩
  | some ad => ⟨ad.block, ad.off, r.cap⟩
def rhoX (rs : List RowX) (i : Nat) : Place := match rs[i]? with
  | some r => r.place
  | none => ⟨0, 0, 0⟩
def RowX.ok (W : World) (r : RowX) : Prop := (r.a = none ∧ r.len = 0 ∧ r.cap = 0 ∧ r.cs = []) ∨ ∃ ad, r.a = some ad ∧ r.len ≤ r.cap ∧ ad.spot = none ∧ ∀ j v, r.cs[j]? = some v → W.cell? (ad.add j) = some v
theorem rowsX_hrel {P : Program} {W : World} {rs : List RowX} (h : ∀ r ∈ rs, r.ok W) : HRel P (rhoX rs) (rs.map RowX.obj) W := by
  refine ⟨?_, ?_, ?_⟩
  · intro i o hi
    rw [List.getElem?_map] at hi
    obtain ⟨r, hr, rfl⟩ := Option.map_eq_some_iff.1 hi
    refine ⟨?_, fun hf => by cases hf⟩
    intro j a hj
    rw [List.getElem?_map] at hj
    obtain ⟨x, hx, rfl⟩ := Option.map_eq_some_iff.1 hj
    rcases h r (List.mem_of_getElem? hr) with ⟨_, _, _, hz⟩ | ⟨ad, ha, _, hsp, hc⟩
    · rw [hz] at hx; cases hx
    · have h1 := hc j x hx
      have e1 : rhoX rs i = ⟨ad.block, ad.off, r.cap⟩ := by simp only [rhoX, hr, RowX.place, ha]
      have e2 : (⟨ad.block, ad.off + j, none⟩ : Addr) = ad.add j := by
        cases ad with
        | mk b o s => simp only at hsp; subst hsp; rw [add0]
      rw [e1]
      simp only [e2, h1, AV.real]
  · intro i o hi
    rw [List.getElem?_map] at hi
    obtain ⟨r, hr, rfl⟩ := Option.map_eq_some_iff.1 hi
    show AV.scs _ _ = true
    exact (scs_iff _ _).2 fun a ha => by
      obtain ⟨x, _, rfl⟩ := List.mem_map.1 ha
      rfl
  · intro i j o o' hi hj ho
    rw [List.getElem?_map] at hi
    obtain ⟨r, hr, rfl⟩ := Option.map_eq_some_iff.1 hi
    cases ho
theorem rowsX_own {rs : List RowX} : ∀ o ∈ rs.map RowX.obj, o.own = false := by
  intro o ho
  obtain ⟨r, _, rfl⟩ := List.mem_map.1 ho
  rfl
theorem rowX_real {W : World} {rs : List RowX} {i : Nat} {r : RowX} (hr : rs[i]? = some r) (h : r.ok W) : (r.av i).real (rhoX rs) = .slice r.a r.len r.cap := by
  rcases h with ⟨ha, hl, hc, _⟩ | ⟨ad, ha, _, hsp, _⟩
  · simp only [RowX.av, ha, AV.real, hl, hc]
  · simp only [RowX.av, ha, AV.real, rhoX, hr, RowX.place, Nat.add_zero, Bool.false_eq_true, if_false]
    cases ad with
    | mk b o s => simp only at hsp; subst hsp; rfl
theorem rowX_sc {rs : List RowX} {i : Nat} {r : RowX} (hr : rs[i]? = some r) : (r.av i).sc (rs.map RowX.obj).length = true := by
  unfold RowX.av
  split
  · rfl
  · have := (List.getElem?_eq_some_iff.1 hr).1
    simp [AV.sc, this]
/-- The slice value of the world W, and what its whole row holds. -/
def IsRowX {α : Type} (encV : α → List Value) (wf : α → Prop) (W : World) (a : Option Addr) (len cap : Nat) (zs : List α) : Prop :=
  (a = none ∧ len = 0 ∧ cap = 0 ∧ zs = []) ∨ ∃ ad, a = some ad ∧ len ≤ cap ∧ cap ≤ maxLen ∧ zs.length = cap ∧ ad.spot = none ∧ (∀ j v, (zs.flatMap encV)[j]? = some v → W.cell? (ad.add j) = some v) ∧ ∀ z ∈ zs, wf z
section
variable {α : Type} {encV : α → List Value} {wf : α → Prop} {W : World} {a : Option Addr} {len cap : Nat} {zs : List α} {t : TypeId} {q : Nat}
theorem IsRowX.ok (h : IsRowX encV wf W a len cap zs) (t : TypeId) : (RowX.mk a len cap (zs.flatMap encV) t).ok W := by
  rcases h with ⟨h1, h2, h3, h4⟩ | ⟨ad, h1, h2, h3, h4, h5, h6, h7⟩
  · exact .inl ⟨h1, h2, h3, by simp [h4]⟩
  · exact .inr ⟨ad, h1, h2, h5, h6⟩
theorem vflat (encV : α → List Value) : ∀ zs : List α, (zs.flatMap encV).map AV.v = zs.flatMap (vEnc encV)
  | [] => rfl
  | z :: r => by simp only [List.flatMap_cons, List.map_append, vflat encV r]
theorem rowX_elts {rs : List RowX} {i : Nat} (hE : EncOk (vEnc encV) q) (h : IsRowX encV wf W a len cap zs) (hr : rs[i]? = some (RowX.mk a len cap (zs.flatMap encV) t)) : Elts (vEnc encV) q (rs.map RowX.obj) ((RowX.mk a len cap (zs.flatMap encV) t).av i) (zs.take len) := by
  rcases h with ⟨h1, h2, h3, h4⟩ | ⟨ad, h1, h2, h3, h4, h5, h6, h7⟩
  · left; simp [RowX.av, h1, h4]
  · right
    have e : (zs.take len).length = len := by rw [List.length_take, Nat.min_eq_left (by omega)]
    refine ⟨i, 0, cap, false, (zs.flatMap encV).map AV.v, t, false, by simp only [RowX.av, h1, e], by rw [List.getElem?_map, hr]; rfl, ?_, ?_⟩
    · rw [e, vflat, flat_len hE]
      have := Nat.mul_le_mul_right q h2
      rw [h4]; omega
    · rw [e, List.drop_zero, vflat, flat_take hE]
theorem rowX_wf (h : IsRowX encV wf W a len cap zs) : ∀ x ∈ zs.take len, wf x := by
  intro x hx
  rcases h with ⟨h1, h2, h3, h4⟩ | ⟨ad, h1, h2, h3, h4, h5, h6, h7⟩
  · rw [h4] at hx; simp at hx
  · exact h7 x (List.mem_of_mem_take hx)
end

/-! ### Out of the statement's memory -/
theorem cell_of_value {P : Program} {w : World} {r : Reach} {b : Nat} {t e : TypeId} {v : Value} (ht : P.underlying t = some (.slice e)) (h : Value.okWide P w r b t v) : Cell.okWide P w r b t v := by
  simpa only [Value.okWide, ht] using h
theorem cell_of_agg {P : Program} {w : World} {r : Reach} {b : Nat} {t u : TypeId} {fs : Array Field} {ts : List TypeId} {cs : Array Value} {i : Nat} {v : Value} (ht : P.underlying t = some (.struct fs)) (hts : P.cellTypes P.depth t = some ts) (h : Value.okWide P w r b t (.agg cs)) (hv : cs[i]? = some v) (hi : ts[i % ts.length]? = some u) : Cell.okWide P w r b u v := by
  simp only [Value.okWide, ht] at h
  obtain ⟨cs', e, _, ts', h1, _, h2⟩ := h
  injection e with e
  subst e
  rw [hts] at h1
  injection h1 with h1
  subst h1
  obtain ⟨u', hu', hc⟩ := h2 i v hv
  rw [hi] at hu'
  injection hu' with hu'
  subst hu'
  exact hc
theorem cell_slice {P : Program} {w : World} {r : Reach} {b : Nat} {t e : TypeId} {v : Value} (ht : P.underlying t = some (.slice e)) (h : Cell.okWide P w r b t v) : ∃ a len cap, v = .slice a len cap ∧ (∀ ad, a = some ad → ad.spot = none) := by
  simp only [Cell.okWide, ht, Cell.ok] at h
  cases v with
  | slice a len cap =>
    cases a with
    | none => exact ⟨none, len, cap, rfl, fun ad h => by cases h⟩
    | some ad => exact ⟨some ad, len, cap, rfl, fun ad' h' => by injection h' with h'; subst h'; exact h.2.2.2.1⟩
  | _ => exact absurd h (by simp)
theorem add_add (ad : Addr) (h : ad.spot = none) (i j : Nat) : (ad.add i).add j = ad.add (i + j) := by
  cases ad with
  | mk b o s => simp only at h; subst h; rw [add0, add0, add0, Nat.add_assoc]
theorem open_rows {H : Type} {enc : TypeId × Value → H} {P : Program} {W : World} {α : Type} {encV : α → List Value} {wf : α → Prop} {t e : TypeId} {q fuel : Nat} {v : Value} {r : Reach} {b : Nat} {y : DataW H × List MemPlace} (ht : P.underlying t = some (.slice e)) (hq : P.cellsOf e = q)
    (hlen : ∀ x, (encV x).length = q)
    (el : ∀ n cs y, DataW.trod enc P W 0 (fun _ => true) true n e cs = some y → ∃ x : α, wf x ∧ cs = encV x)
    (hc : Cell.okWide P W r b t v) (h : DataW.trod enc P W 0 (fun _ => true) true fuel t [v] = some y) : ∃ a len cap zs, v = .slice a len cap ∧ IsRowX encV wf W a len cap zs := by
  obtain ⟨a, len, cap, rfl, hsp⟩ := cell_slice ht hc
  rcases DataW.trod_slice ht h with ⟨h0, _⟩ | ⟨ad, len', cap', elems, rest, n, _, h0, _, hb, hl, hm, hlen', hel, hspare, _⟩
  · simp only [List.cons.injEq, Value.slice.injEq, and_true] at h0
    obtain ⟨rfl, rfl, rfl⟩ := h0
    exact ⟨none, 0, 0, [], rfl, .inl ⟨rfl, rfl, rfl, rfl⟩⟩
  · simp only [List.cons.injEq, Value.slice.injEq, and_true] at h0
    obtain ⟨rfl, rfl, rfl⟩ := h0
    have hs := hsp ad rfl
    have each : ∀ i, i < cap → ∃ x : α, wf x ∧ ∀ j v, (encV x)[j]? = some v → W.cell? (ad.add (i * q + j)) = some v := by
      intro i hi
      obtain ⟨hrl, hr⟩ := hspare rfl
      have hb' : ∃ y, (W.cells? 0 (ad.add (i * P.cellsOf e)) (P.cellsOf e)).bind (DataW.trod enc P W 0 (fun _ => true) true n e) = some y := by
        by_cases hi2 : i < len
        · rw [hel i hi2, List.getElem?_eq_getElem (by omega)]; exact ⟨_, rfl⟩
        · have := hr (i - len) (by omega)
          rw [show len + (i - len) = i by omega] at this
          rw [this, List.getElem?_eq_getElem (by omega)]; exact ⟨_, rfl⟩
      obtain ⟨y, hy⟩ := hb'
      rw [hq, Option.bind_eq_some_iff] at hy
      obtain ⟨cs, hcs, hy⟩ := hy
      obtain ⟨x, hx, rfl⟩ := el n cs y hy
      refine ⟨x, hx, fun j v hj => ?_⟩
      have h3 := (World.cells?_some hcs).2.2 j (by have := (List.getElem?_eq_some_iff.1 hj).1; rw [hlen] at this; exact this)
      rw [add_add ad hs] at h3
      rw [h3, hj]
    have build : ∀ m, m ≤ cap → ∃ zs : List α, zs.length = m ∧ (∀ z ∈ zs, wf z) ∧ ∀ j v, (zs.flatMap encV)[j]? = some v → W.cell? (ad.add j) = some v := by
      intro m
      induction m with
      | zero => exact fun _ => ⟨[], rfl, fun z hz => (by cases hz), fun j v h => (by simp at h)⟩
      | succ m ih =>
        intro hm'
        obtain ⟨zs, h1, h2, h3⟩ := ih (by omega)
        obtain ⟨x, hx, hxc⟩ := each m (by omega)
        have hfl : ∀ zs : List α, (zs.flatMap encV).length = zs.length * q := by
          intro zs
          induction zs with
          | nil => simp
          | cons z r ih => rw [List.flatMap_cons, List.length_append, hlen, ih, List.length_cons, Nat.succ_mul]; omega
        refine ⟨zs ++ [x], by simp [h1], fun z hz => ?_, fun j v hj => ?_⟩
        · rcases List.mem_append.1 hz with h | h
          · exact h2 z h
          · simp at h; subst h; exact hx
        · rw [List.flatMap_append] at hj
          by_cases hlt : j < (zs.flatMap encV).length
          · rw [List.getElem?_append_left hlt] at hj
            exact h3 j v hj
          · rw [List.getElem?_append_right (by omega)] at hj
            rw [hfl, h1] at hj hlt
            have := hxc (j - m * q) v (by simpa using hj)
            rwa [show m * q + (j - m * q) = j by omega] at this
    obtain ⟨zs, h1, h2, h3⟩ := build cap (Nat.le_refl _)
    exact ⟨some ad, len, cap, zs, rfl, .inr ⟨ad, rfl, hl, hm, h1, hs, h3, h2⟩⟩
theorem el_int {H : Type} {enc : TypeId × Value → H} {P : Program} {W : World} {e : TypeId} {k : IntKind} (he : P.underlying e = some (.int k)) : ∀ n cs y, DataW.trod enc P W 0 (fun _ => true) true n e cs = some y → ∃ x : Int, (k.min ≤ x ∧ x ≤ k.max) ∧ cs = [.int k x] := by
  intro n cs y h
  obtain ⟨m, rfl, rfl, hw⟩ := DataW.trod_int he h
  simp only [Lit.wf, Bool.and_eq_true, decide_eq_true_eq] at hw
  exact ⟨m, hw, rfl⟩
theorem el_str {H : Type} {enc : TypeId × Value → H} {P : Program} {W : World} {e : TypeId} (he : P.underlying e = some .string) : ∀ n cs y, DataW.trod enc P W 0 (fun _ => true) true n e cs = some y → ∃ x : List UInt8, x.length ≤ maxLen ∧ cs = [.string (mkB x)] := by
  intro n cs y h
  obtain ⟨s, rfl, rfl, hw⟩ := DataW.trod_string he h
  exact ⟨s.data.toList, hw, rfl⟩
end Go.Az
