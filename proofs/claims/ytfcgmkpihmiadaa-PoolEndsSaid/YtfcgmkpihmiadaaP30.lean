/-
  A part of the proof of a statement of a chapter's seat; conditions: stated at each theorem.
-/
import Derived.Test.YtfcgmkpihmiadaaP2
set_option linter.unusedVariables false
set_option linter.unusedSectionVars false
set_option linter.unusedSimpArgs false
set_option linter.unusedVariables false
set_option maxRecDepth 100000
set_option maxHeartbeats 4000000
namespace Go.Proofs.Ytfcgmkpihmiadaa
open Go.Az Go
/-! ### A pick -/
theorem Mid.set {p : Pl} (h : Mid p) {n n0 : Nat} {w : Wk} {x : Tk} (hn : n < p.ws.length) (hn0 : n0 < p.ts.length) (hx : errT x = 0) (hu : x.u = (p.ts.getD n0 tk0).u) (ho : (p.ts.getD n0 tk0).o = true → x.o = true)
    (hoth : ∀ k, k < p.ws.length → k ≠ n → (p.ws.getD k wk0).j ≠ n0) (hw : checkE w.j w.d (p.ts.set n0 x) = 0) (hj : (p.ws.getD n wk0).j = -1 ∨ (p.ws.getD n wk0).j = n0) (hwj : w.j = -1 ∨ w.j = n0)
    (hc0 : wantT (p.ts.getD n0 tk0) - (if (p.ws.getD n wk0).j = n0 then 1 else 0) + (if w.j = n0 then 1 else 0) = wantT x) : Mid ⟨p.us, p.ws.set n w, p.ts.set n0 x, p.out⟩ := by
  have hs : (p.ws.set n w).getD n wk0 = w := getD_setS hn
  refine ⟨by simp only [List.length_set]; exact h.gn, h.gu, h.gb, fun i hi => ?_, fun k hk => ?_, h.o0, by simp only [List.length_set]; exact h.o1, fun i hi => ?_, ?_, fun i hi => ?_⟩
  · simp only [List.length_set] at hi ⊢
    by_cases he : i = n0
    · subst he; rw [getD_setS hn0]; exact hx
    · rw [getD_setN he]; exact h.jb i hi
  · simp only [List.length_set] at hk ⊢
    by_cases he : k = n
    · subst he; rw [hs]; exact hw
    · rw [getD_setN he]
      refine ck_set (h.ck k hk) hx fun h0 => ?_
      have := hoth k hk he
      omega
  · simp only [] at hi ⊢
    by_cases he : i = n0
    · subst he; rw [getD_setS hn0]; exact ho (h.ov i hi)
    · rw [getD_setN he]; exact h.ov i hi
  · have := h.ln
    simp only [admN, List.length_set] at this ⊢
    exact this
  · simp only [List.length_set] at hi
    have hcl := h.cl i hi
    unfold Cell at hcl ⊢
    simp only []
    rw [cnt_set hn, hcl.1]
    by_cases he : i = n0
    · subst he
      rw [getD_setS hn0]
      exact ⟨hc0, hu.trans hcl.2⟩
    · rw [getD_setN he]
      refine ⟨?_, hcl.2⟩
      rw [if_neg (by omega), if_neg (by omega)]; omega
theorem sumF_chg (f g : Nat → Int) (i0 : Nat) (h : ∀ i, i ≠ i0 → f i = g i) : ∀ n, sumF f (List.range n) = sumF g (List.range n) + (if i0 < n then f i0 - g i0 else 0)
  | 0 => by simp [sumF]
  | n + 1 => by
    rw [List.range_succ, sumF_app, sumF_app, sumF_chg f g i0 h n]
    simp only [sumF]
    by_cases he : n = i0
    · subst he; rw [if_neg (by omega), if_pos (by omega)]; omega
    · rw [h n he]
      by_cases h1 : i0 < n
      · rw [if_pos h1, if_pos (by omega)]; omega
      · rw [if_neg h1, if_neg (by omega)]; omega
theorem sumF_eq (f g : Nat → Int) : ∀ n, (∀ i, i < n → f i = g i) → sumF f (List.range n) = sumF g (List.range n)
  | 0, _ => rfl
  | n + 1, h => by
    rw [List.range_succ, sumF_app, sumF_app, sumF_eq f g n (fun i hi => h i (by omega))]
    simp only [sumF, h n (by omega)]
def uN (us : List Int) (ts : List Tk) (i : Nat) : Int := if i < ts.length ∧ (ts.getD i tk0).o = true then 0 else us.getD i 0 + 1
def dF (w : Wk) : Int := if 0 ≤ w.j then w.d + 1 else 0
def leftN (p : Pl) : Int := sumF (uN p.us p.ts) (List.range p.us.length) - sumF dF p.ws
def busyB (p : Pl) (w : Wk) : Bool := decide (0 ≤ w.j ∨ 0 ≤ fr p.ts 0)
structure PS (p : Pl) (n : Nat) (b : Bool) (k : Pk) : Prop where
  e0 : k.e = 0
  mid : Mid (pick1 p n k)
  len : k.l.length = p.ts.length
  same : k.w ≠ 3 → ∀ i, (k.l.getD i tk0).o = (p.ts.getD i tk0).o
  cs : (k.w = 0 ∧ busyB p (p.ws.getD n wk0) = false ∧ pick1 p n k = p) ∨ (k.w = 4 ∧ b = true ∧ busyB p (p.ws.getD n wk0) = true) ∨ (1 ≤ k.w ∧ k.w ≤ 3 ∧ b = false ∧ busyB p (p.ws.getD n wk0) = true)
  left : leftN (pick1 p n k) = leftN p - (if 1 ≤ k.w ∧ k.w ≤ 3 then 1 else 0) + (if k.w = 4 then dF (p.ws.getD n wk0) else 0)
  att : (∀ i, i < p.ts.length → (p.ts.getD i tk0).a < 1099511627776) → attS k.l = attS p.ts + (if k.w = 4 then 1 else 0)
  atb : ∀ i, i < p.ts.length → (k.l.getD i tk0).a ≤ (p.ts.getD i tk0).a + 1
theorem set_same {α : Type} {l : List α} {n : Nat} {d x : α} (h : n < l.length) (hx : x = l.getD n d) : l.set n x = l := by
  refine List.ext_getElem? fun i => ?_
  by_cases hi : n = i
  · subst hi; rw [List.getElem?_set_self h, hx, List.getD_eq_getElem?_getD, List.getElem?_eq_getElem h]; rfl
  · rw [List.getElem?_set_ne hi]
theorem pick_spec {p : Pl} (h : Inv p) {n : Nat} (hn : n < p.ws.length) {b : Bool} : PS p n b (pickK p n b) := by
  have hc := h.ck n hn
  have hK : pickK p n b = pickP (p.ws.getD n wk0).j (p.ws.getD n wk0).d p.ts b := rfl
  rw [hK]
  obtain ⟨wj, hwj⟩ : ∃ w, w = p.ws.getD n wk0 := ⟨_, rfl⟩
  rw [← hwj] at hc ⊢
  have hwd : p.ws.getD n wk0 = wj := hwj.symm
  obtain ⟨j, d⟩ := wj
  simp only [] at hc ⊢
  obtain ⟨a1, a2, a3, a4, a5, a6⟩ := ck_ok hc
  have hfr := fr_rng p.ts 0 (by omega)
  have hup : pickP j d p.ts b = if atF j p.ts < 0 then ⟨j, d, p.ts, 0, 0⟩ else
    if b = true then ⟨-1, 0, p.ts.set (atF j p.ts).toNat (failT (p.ts.getD (atF j p.ts).toNat tk0)), 4, 0⟩ else
    if j = -1 then ⟨atF j p.ts, 0, p.ts.set (atF j p.ts).toNat (beginT (p.ts.getD (atF j p.ts).toNat tk0)), 1, 0⟩ else
    if d + 1 = (p.ts.getD (atF j p.ts).toNat tk0).u then ⟨-1, 0, p.ts.set (atF j p.ts).toNat (overT (p.ts.getD (atF j p.ts).toNat tk0)), 3, 0⟩ else ⟨j, d + 1, p.ts, 2, 0⟩ := by rw [pickP, if_neg (by simpa using hc)]
  have hd1 : ∀ w : Wk, sumF dF (p.ws.set n w) = sumF dF p.ws - dF ⟨j, d⟩ + dF w := fun w => by rw [sumF_set dF wk0 p.ws n w hn, hwd]
  by_cases hat : atF j p.ts < 0
  · rw [hup, if_pos hat]
    have hj : j = -1 := by
      by_cases hj : j = -1
      · exact hj
      · rw [atF, if_neg hj] at hat; omega
    have hf : fr p.ts 0 < 0 := by rw [atF, if_pos hj] at hat; exact hat
    have hp : pick1 p n ⟨j, d, p.ts, 0, 0⟩ = p := by
      show (⟨p.us, p.ws.set n ⟨j, d⟩, p.ts, p.out⟩ : Pl) = p
      rw [set_same hn hwj]
    refine ⟨rfl, by rw [hp]; exact h.toMid, rfl, fun _ _ => rfl, .inl ⟨rfl, ?_, hp⟩, ?_, fun _ => ?_, fun i hi => by simp only []; omega⟩
    · rw [hwd]; exact decide_eq_false (by simp only []; omega)
    · rw [hp]; simp
    · simp
  obtain ⟨n0, hn0⟩ : ∃ n : Nat, n = (atF j p.ts).toNat := ⟨_, rfl⟩
  rw [← hn0] at hup
  have hnl : n0 < p.ts.length := by
    rw [hn0]
    by_cases hj : j = -1
    · rw [atF, if_pos hj] at hat ⊢; omega
    · rw [atF, if_neg hj] at hat ⊢; omega
  have hfree : j = -1 → (p.ts.getD n0 tk0).f = true := fun hj => by
    rw [hn0, atF, if_pos hj]
    rw [atF, if_pos hj] at hat
    have := fr_get p.ts 0 (by omega) (by omega)
    simpa using this
  have hjn : j ≠ -1 → j = n0 := fun hj => by rw [hn0, atF, if_neg hj]; omega
  have hjn2 : j ≠ -1 → (p.ts.getD n0 tk0).f = false ∧ (p.ts.getD n0 tk0).o = false ∧ 0 ≤ d ∧ d < (p.ts.getD n0 tk0).u := fun hj => by
    have e := hjn hj
    have := a6 (by omega)
    rw [show j.toNat = n0 by omega] at this
    exact ⟨this.2.2.1, this.2.2.2, this.1, this.2.1⟩
  have hT : errT (p.ts.getD n0 tk0) = 0 := h.jb n0 hnl
  have hT2 := errT_iff.1 hT
  have ho : (p.ts.getD n0 tk0).o = false := by
    by_cases hj : j = -1
    · cases hoo : (p.ts.getD n0 tk0).o
      · rfl
      · exact absurd ⟨hfree hj, hoo⟩ hT2.2.2.2.2
    · exact (hjn2 hj).2.1
  have hcl := h.cl n0 hnl
  have hw0 : j = -1 → wantT (p.ts.getD n0 tk0) = 0 := fun hj => by rw [wantT, if_neg (by rw [hfree hj]; simp)]
  have hw1 : j ≠ -1 → wantT (p.ts.getD n0 tk0) = 1 := fun hj => by rw [wantT, if_pos ⟨(hjn2 hj).1, (hjn2 hj).2.1⟩]
  have hoth : ∀ k, k < p.ws.length → k ≠ n → (p.ws.getD k wk0).j ≠ n0 := fun k hk hkn => by
    by_cases hj : j = -1
    · have := hcl.1
      rw [hw0 hj] at this
      exact cnt_zero.1 this k hk
    · have := hcl.1
      rw [hw1 hj] at this
      exact cnt_one hn hk hkn (by rw [hwd]; exact hjn hj) (by omega) this
  have hjo : (p.ws.getD n wk0).j = -1 ∨ (p.ws.getD n wk0).j = n0 := by
    rw [hwd]; simp only []
    by_cases hj : j = -1
    · exact .inl hj
    · exact .inr (hjn hj)
  have hbusy : busyB p (p.ws.getD n wk0) = true := by
    rw [hwd]
    refine decide_eq_true ?_
    by_cases hj : j = -1
    · rw [atF, if_pos hj] at hat; exact .inr (by omega)
    · exact .inl (by show 0 ≤ j; omega)
  have hcond : ∀ w : Wk, (if (p.ws.getD n wk0).j = n0 then (1 : Int) else 0) = wantT (p.ts.getD n0 tk0) := fun _ => by
    rw [hwd]
    by_cases hj : j = -1
    · rw [hw0 hj, if_neg (by simp only []; omega)]
    · rw [hw1 hj, if_pos (by simp only []; exact hjn hj)]
  have hsa : ∀ x : Tk, sumF Tk.a (p.ts.set n0 x) = sumF Tk.a p.ts - (p.ts.getD n0 tk0).a + x.a := fun x => sumF_set Tk.a tk0 p.ts n0 x hnl
  have hun : ∀ x : Tk, x.o = false → sumF (uN p.us (p.ts.set n0 x)) (List.range p.us.length) = sumF (uN p.us p.ts) (List.range p.us.length) := fun x hx => by
    refine sumF_eq _ _ _ fun i hi => ?_
    unfold uN
    rw [List.length_set]
    by_cases he : i = n0
    · subst he; rw [getD_setS hnl, hx, ho]
    · rw [getD_setN he]
  have hul : n0 < p.us.length := by have := h.ln; have := admN_le p; omega
  have hdo : ∀ x : Tk, x.o = true → sumF (uN p.us (p.ts.set n0 x)) (List.range p.us.length) = sumF (uN p.us p.ts) (List.range p.us.length) - (p.us.getD n0 0 + 1) := fun x hx => by
    rw [sumF_chg (uN p.us (p.ts.set n0 x)) (uN p.us p.ts) n0 (fun i hi => by unfold uN; rw [List.length_set, getD_setN hi]), if_pos hul]
    have e1 : uN p.us (p.ts.set n0 x) n0 = 0 := by rw [uN, getD_setS hnl, List.length_set, if_pos ⟨hnl, hx⟩]
    have e2 : uN p.us p.ts n0 = p.us.getD n0 0 + 1 := by rw [uN, ho, if_neg (by simp)]
    rw [e1, e2]; omega
  have hsm : ∀ (x : Tk), x.o = false → ∀ i, ((p.ts.set n0 x).getD i tk0).o = (p.ts.getD i tk0).o := fun x hx i => by
    by_cases he : i = n0
    · subst he; rw [getD_setS hnl, hx, ho]
    · rw [getD_setN he]
  have hatb : ∀ (x : Tk), x.a ≤ (p.ts.getD n0 tk0).a + 1 → ∀ i, i < p.ts.length → ((p.ts.set n0 x).getD i tk0).a ≤ (p.ts.getD i tk0).a + 1 := fun x hx i hi => by
    by_cases he : i = n0
    · subst he; rw [getD_setS hnl]; exact hx
    · rw [getD_setN he]; omega
  rw [hup, if_neg hat]
  by_cases hb : b = true
  · -- fail
    rw [if_pos hb]
    have hx : errT (failT (p.ts.getD n0 tk0)) = 0 := errT_iff.2 ⟨hT2.1, hT2.2.1, by show 0 ≤ min _ _; omega, by show min _ _ ≤ _; omega, fun hh => by have := hh.2; rw [show (failT (p.ts.getD n0 tk0)).o = (p.ts.getD n0 tk0).o from rfl, ho] at this; cases this⟩
    have hfo : (failT (p.ts.getD n0 tk0)).o = false := ho
    refine ⟨rfl, ?_, List.length_set, fun _ => hsm _ hfo, .inr (.inl ⟨rfl, hb, hbusy⟩), ?_, fun hab => ?_, hatb _ (by show min _ _ ≤ _; omega)⟩
    · exact Mid.set h.toMid (w := ⟨-1, 0⟩) hn hnl hx rfl (fun hh => by rw [ho] at hh; cases hh) hoth (ck_in (j := -1) (d := 0) (jobsE_set a1 hx) (by omega) (by rw [List.length_set]; omega) (fun _ => rfl) (fun hh => absurd hh (by omega))) hjo (.inl rfl) (by
        rw [Int.toNat_natCast, hcond ⟨-1, 0⟩, if_neg (by simp only []; omega), show wantT (failT (p.ts.getD n0 tk0)) = 0 by rw [wantT, if_neg (by simp [failT])]]; omega)
    · show sumF (uN p.us (p.ts.set n0 _)) (List.range p.us.length) - sumF dF (p.ws.set n _) = _
      rw [hun _ hfo, hd1, hwd, if_neg (by simp), if_pos rfl]
      simp only [leftN]
      have : dF ⟨-1, 0⟩ = 0 := rfl
      omega
    · show sumF Tk.a (p.ts.set n0 _) = _
      have hfa : (failT (p.ts.getD n0 tk0)).a = (p.ts.getD n0 tk0).a + 1 := by have := hab n0 hnl; show min _ _ = _; omega
      rw [hsa, hfa, if_pos rfl]; simp only [attS]; omega
  rw [if_neg hb]
  have hbf : b = false := Bool.eq_false_iff.2 hb
  by_cases hj : j = -1
  · -- take
    rw [if_pos hj]
    have hx : errT (beginT (p.ts.getD n0 tk0)) = 0 := errT_iff.2 ⟨hT2.1, hT2.2.1, hT2.2.2.1, hT2.2.2.2.1, fun hh => by cases hh.1⟩
    have hatn : atF j p.ts = n0 := by omega
    have hbo : (beginT (p.ts.getD n0 tk0)).o = false := ho
    refine ⟨rfl, ?_, List.length_set, fun _ => hsm _ hbo, .inr (.inr ⟨by show (1 : Int) ≤ 1; omega, by show (1 : Int) ≤ 3; omega, hbf, hbusy⟩), ?_, fun hab => ?_, hatb _ (by show (p.ts.getD n0 tk0).a ≤ _; omega)⟩
    · refine Mid.set h.toMid (w := ⟨atF j p.ts, 0⟩) hn hnl hx rfl (fun hh => by rw [ho] at hh; cases hh) hoth (ck_in (jobsE_set a1 hx) (by simp only []; omega) (by rw [List.length_set]; simp only []; omega) (fun hh => rfl) (fun hh => ?_)) hjo (.inr hatn) ?_
      · simp only [hatn, Int.toNat_natCast]
        rw [getD_setS hnl]
        exact ⟨by omega, by show (0 : Int) < (p.ts.getD n0 tk0).u; omega, rfl, ho⟩
      · rw [Int.toNat_natCast, hcond ⟨-1, 0⟩, if_pos hatn, show wantT (beginT (p.ts.getD n0 tk0)) = 1 by rw [wantT, if_pos ⟨rfl, ho⟩]]; omega
    · show sumF (uN p.us (p.ts.set n0 _)) (List.range p.us.length) - sumF dF (p.ws.set n _) = _
      rw [hun _ hbo, hd1, if_pos (by simp only []; omega), if_neg (by show ¬ (1 : Int) = 4; omega)]
      simp only [leftN]
      have e1 : dF ⟨j, d⟩ = 0 := by rw [dF, if_neg (by simp only []; omega)]
      have e2 : dF ⟨atF j p.ts, 0⟩ = 1 := by rw [dF, if_pos (by simp only []; omega)]; rfl
      omega
    · show sumF Tk.a (p.ts.set n0 _) = _
      rw [hsa, if_neg (by show ¬ (1 : Int) = 4; decide), show (beginT (p.ts.getD n0 tk0)).a = (p.ts.getD n0 tk0).a from rfl]; simp only [attS]; omega
  rw [if_neg hj]
  have hj2 := hjn2 hj
  have hjN := hjn hj
  have hus := hcl.2
  by_cases hdu : d + 1 = (p.ts.getD n0 tk0).u
  · -- done
    rw [if_pos hdu]
    have hx : errT (overT (p.ts.getD n0 tk0)) = 0 := errT_iff.2 ⟨hT2.1, hT2.2.1, hT2.2.2.1, hT2.2.2.2.1, fun hh => by have := hh.1; rw [show (overT (p.ts.getD n0 tk0)).f = (p.ts.getD n0 tk0).f from rfl, hj2.1] at this; cases this⟩
    refine ⟨rfl, ?_, List.length_set, fun hh => absurd rfl hh, .inr (.inr ⟨by show (1 : Int) ≤ 3; omega, by show (3 : Int) ≤ 3; omega, hbf, hbusy⟩), ?_, fun hab => ?_, hatb _ (by show (p.ts.getD n0 tk0).a ≤ _; omega)⟩
    · exact Mid.set h.toMid (w := ⟨-1, 0⟩) hn hnl hx rfl (fun hh => rfl) hoth (ck_in (j := -1) (d := 0) (jobsE_set a1 hx) (by omega) (by rw [List.length_set]; omega) (fun _ => rfl) (fun hh => absurd hh (by omega))) hjo (.inl rfl) (by
        rw [Int.toNat_natCast, hcond ⟨-1, 0⟩, if_neg (by simp only []; omega), show wantT (overT (p.ts.getD n0 tk0)) = 0 by rw [wantT, if_neg (by simp [overT])]]; omega)
    · show sumF (uN p.us (p.ts.set n0 _)) (List.range p.us.length) - sumF dF (p.ws.set n _) = _
      rw [hdo _ rfl, hd1, if_pos (by simp only []; omega), if_neg (by show ¬ (3 : Int) = 4; omega)]
      simp only [leftN]
      have e1 : dF ⟨j, d⟩ = d + 1 := by rw [dF, if_pos (by simp only []; omega)]
      have e2 : dF ⟨-1, 0⟩ = 0 := rfl
      omega
    · show sumF Tk.a (p.ts.set n0 _) = _
      rw [hsa, if_neg (by show ¬ (3 : Int) = 4; decide), show (overT (p.ts.getD n0 tk0)).a = (p.ts.getD n0 tk0).a from rfl]; simp only [attS]; omega
  · -- work
    rw [if_neg hdu]
    have hls : p.ts.set n0 (p.ts.getD n0 tk0) = p.ts := set_same hnl rfl
    refine ⟨rfl, ?_, rfl, fun _ _ => rfl, .inr (.inr ⟨by show (1 : Int) ≤ 2; omega, by show (2 : Int) ≤ 3; omega, hbf, hbusy⟩), ?_, fun _ => ?_, fun i hi => by simp only []; omega⟩
    · have := Mid.set h.toMid (w := ⟨j, d + 1⟩) (x := p.ts.getD n0 tk0) hn hnl hT rfl (fun hh => hh) hoth (by
        rw [hls]
        refine ck_in a1 a3 a4 (fun hh => absurd hh hj) fun hh => ?_
        simp only []
        rw [show j.toNat = n0 by omega]
        exact ⟨by omega, by omega, hj2.1, hj2.2.1⟩) hjo (.inr hjN) (by rw [hcond ⟨-1, 0⟩, if_pos hjN, hw1 hj]; omega)
      rw [hls] at this
      exact this
    · show sumF (uN p.us p.ts) (List.range p.us.length) - sumF dF (p.ws.set n _) = _
      rw [hd1, if_pos (by simp only []; omega), if_neg (by show ¬ (2 : Int) = 4; omega)]
      simp only [leftN]
      have e1 : dF ⟨j, d⟩ = d + 1 := by rw [dF, if_pos (by simp only []; omega)]
      have e2 : dF ⟨j, d + 1⟩ = d + 1 + 1 := by rw [dF, if_pos (by simp only []; omega)]
      omega
    · rw [if_neg (by show ¬ (2 : Int) = 4; decide)]; simp only [attS]; omega
end Go.Proofs.Ytfcgmkpihmiadaa
