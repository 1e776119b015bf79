/-
  Slices of integers that are passed in: what the statement's own memory says of them, as an abstract memory that is only read. Conditions: stated at each theorem.
-/
import Derived.Test.YthhbhekccacmlaaAzZA
import Derived.WideShapes
set_option linter.unusedSimpArgs false
set_option linter.unusedVariables false
namespace Go.Az
open Go Go.Chz

/-- A slice value of the world W and the integers of its whole row. -/
def IsRow (k : IntKind) (W : World) (a : Option Addr) (len cap : Nat) (zs : List Int) : Prop :=
  (a = none ∧ len = 0 ∧ cap = 0 ∧ zs = []) ∨ ∃ ad, a = some ad ∧ len ≤ cap ∧ cap ≤ maxLen ∧ zs.length = cap ∧ (∀ i, i < zs.length → W.cell? (ad.add i) = some (.int k (zs.getD i 0))) ∧ (∀ n ∈ zs, (Lit.int k n).wf = true) ∧ ad.spot = none
theorem okWide_spot {P : Program} {w : World} {r : Reach} {base : Nat} {t e : TypeId} {a : Addr} {len cap : Nat} (ht : P.underlying t = some (.slice e)) (h : Value.okWide P w r base t (.slice (some a) len cap)) : a.spot = none := by
  simp only [Value.okWide, ht, Cell.okWide, Cell.ok] at h
  exact h.2.2.2.1
structure RowIn where
  a : Option Addr
  len : Nat
  cap : Nat
  zs : List Int
  k : IntKind
  t : TypeId
def RowIn.obj (r : RowIn) : AObj := .cells (r.zs.map fun x => .v (.int r.k x)) r.t false
def RowIn.av (r : RowIn) (i : Nat) : AV := match r.a with
  | none => .v (.slice none 0 0)
  | some _ => .sl i 0 r.len r.cap false
def RowIn.place (r : RowIn) : Place := match r.a with
  | none => ⟨0, 0, 0⟩
  | some ad => ⟨ad.block, ad.off, r.cap⟩
def rho (rs : List RowIn) (i : Nat) : Place := match rs[i]? with
  | some r => r.place
  | none => ⟨0, 0, 0⟩
def RowIn.ok (W : World) (r : RowIn) : Prop := IsRow r.k W r.a r.len r.cap r.zs
theorem rows_hrel {P : Program} {W : World} {rs : List RowIn} (h : ∀ r ∈ rs, r.ok W) : HRel P (rho rs) (rs.map RowIn.obj) W := by
  refine ⟨?_, ?_, ?_⟩
  · intro i o hi
    rw [List.getElem?_map] at hi
    obtain ⟨r, hr, rfl⟩ := Option.map_eq_some_iff.1 hi
    refine ⟨?_, fun hf => by cases hf⟩
    intro j a hj
    rw [List.getElem?_map] at hj
    obtain ⟨x, hx, rfl⟩ := Option.map_eq_some_iff.1 hj
    rcases h r (List.mem_of_getElem? hr) with ⟨_, _, _, hz⟩ | ⟨ad, ha, _, _, hz, hc, _, hsp⟩
    · rw [hz] at hx; cases hx
    · have hlt := (List.getElem?_eq_some_iff.1 hx).1
      have h1 := hc j hlt
      rw [List.getD_eq_getElem?_getD, hx, Option.getD_some] at h1
      have e1 : rho rs i = ⟨ad.block, ad.off, r.cap⟩ := by simp only [rho, hr, RowIn.place, ha]
      have e2 : (⟨ad.block, ad.off + j, none⟩ : Addr) = ad.add j := by
        cases ad with
        | mk b o s => simp only at hsp; subst hsp; rw [add0]
      rw [e1]
      simp only [e2, h1, AV.real]
  · intro i o hi
    rw [List.getElem?_map] at hi
    obtain ⟨r, hr, rfl⟩ := Option.map_eq_some_iff.1 hi
    show AV.scs _ _ = true
    exact (scs_iff _ _).2 fun a ha => by
      obtain ⟨x, _, rfl⟩ := List.mem_map.1 ha
      rfl
  · intro i j o o' hi hj ho
    rw [List.getElem?_map] at hi
    obtain ⟨r, hr, rfl⟩ := Option.map_eq_some_iff.1 hi
    cases ho
theorem rows_own {rs : List RowIn} : ∀ o ∈ rs.map RowIn.obj, o.own = false := by
  intro o ho
  obtain ⟨r, _, rfl⟩ := List.mem_map.1 ho
  rfl
theorem row_real {W : World} {rs : List RowIn} {i : Nat} {r : RowIn} (hr : rs[i]? = some r) (h : r.ok W) : (r.av i).real (rho rs) = .slice r.a r.len r.cap := by
  rcases h with ⟨ha, hl, hc, _⟩ | ⟨ad, ha, _, _, _, _, _, hsp⟩
  · simp only [RowIn.av, ha, AV.real, hl, hc]
  · simp only [RowIn.av, ha, AV.real, rho, hr, RowIn.place, Nat.add_zero, Bool.false_eq_true, if_false]
    cases ad with
    | mk b o s => simp only at hsp; subst hsp; rfl
theorem row_ints {W : World} {rs : List RowIn} {i : Nat} {r : RowIn} (hr : rs[i]? = some r) (h : r.ok W) : Ints r.k (rs.map RowIn.obj) (r.av i) (r.zs.take r.len) := by
  rcases h with ⟨ha, hl, hc, hz⟩ | ⟨ad, ha, hle, _, hz, _, _, hsp⟩
  · left; simp [RowIn.av, ha, hz]
  · right
    have e : (r.zs.take r.len).length = r.len := by rw [List.length_take, Nat.min_eq_left (by omega)]
    refine ⟨i, 0, r.cap, false, r.zs.map (fun x => .v (.int r.k x)), r.t, false, by simp only [RowIn.av, ha, e], by rw [List.getElem?_map, hr]; rfl, by rw [e, List.length_map]; omega, ?_⟩
    rw [e, List.drop_zero, List.map_take]
theorem row_sc {rs : List RowIn} {i : Nat} {r : RowIn} (hr : rs[i]? = some r) : (r.av i).sc (rs.map RowIn.obj).length = true := by
  unfold RowIn.av
  split
  · rfl
  · have := (List.getElem?_eq_some_iff.1 hr).1
    simp [AV.sc, this]
theorem row_wf {W : World} {r : RowIn} (h : r.ok W) : ∀ x ∈ r.zs.take r.len, r.k.min ≤ x ∧ x ≤ r.k.max := by
  intro x hx
  rcases h with ⟨ha, hl, hc, hz⟩ | ⟨ad, ha, hle, _, hz, _, hw, hsp⟩
  · rw [hz] at hx; simp at hx
  · have := hw x (List.mem_of_mem_take hx)
    simpa only [Lit.wf, Bool.and_eq_true, decide_eq_true_eq] using this
end Go.Az
