/-
  A part of the proof of a statement of a chapter's seat; conditions: stated at each theorem.
-/
import Derived.Test.YtfhbbpdnmdbjbaaK15
set_option linter.unusedSimpArgs false
set_option linter.unusedVariables false
set_option linter.unusedSectionVars false
set_option maxRecDepth 100000
set_option maxHeartbeats 4000000
namespace Go.Proofs.Ytfhbbpdnmdbjbaa
open Go.Az Go
structure Wk where
  j : Int
  d : Int
def wk0 : Wk := ⟨-1, 0⟩
def encW (w : Wk) : List AV := [I w.j, I w.d]
theorem encW_ok : EncOk encW 2 := fun _ => ⟨rfl, rfl⟩
/-! ### Sums -/
def sumF {α : Type} (f : α → Int) : List α → Int
  | [] => 0
  | x :: r => f x + sumF f r
theorem sumF_app {α : Type} (f : α → Int) : ∀ (a b : List α), sumF f (a ++ b) = sumF f a + sumF f b
  | [], b => by simp [sumF]
  | x :: a, b => by simp only [List.cons_append, sumF, sumF_app f a b]; omega
theorem sumF_take {α : Type} (f : α → Int) (d : α) {l : List α} {i : Nat} (h : i < l.length) : sumF f (l.take (i + 1)) = sumF f (l.take i) + f (l.getD i d) := by
  rw [takeT (d := d) h, sumF_app]; simp [sumF]
theorem sumF_set {α : Type} (f : α → Int) (d : α) : ∀ (l : List α) (n : Nat) (x : α), n < l.length → sumF f (l.set n x) = sumF f l - f (l.getD n d) + f x
  | [], n, x, h => by simp at h
  | y :: l, 0, x, h => by simp only [List.set_cons_zero, sumF, List.getD_cons_zero]; omega
  | y :: l, n + 1, x, h => by
    simp only [List.set_cons_succ, sumF, List.getD_cons_succ]
    rw [sumF_set f d l n x (by simpa using h)]; omega
theorem sumF_bd {α : Type} (f : α → Int) (d : α) (b : Int) (h0 : 0 ≤ b) : ∀ (l : List α), (∀ n, n < l.length → 0 ≤ f (l.getD n d) ∧ f (l.getD n d) ≤ b) → ∀ i, 0 ≤ sumF f (l.take i) ∧ sumF f (l.take i) ≤ b * i
  | [], h, i => by
    simp only [List.take_nil, sumF]
    exact ⟨Int.le_refl _, Int.mul_nonneg h0 (by omega)⟩
  | x :: l, h, 0 => by simp [sumF]
  | x :: l, h, i + 1 => by
    have h1 := h 0 (by simp)
    have h2 := sumF_bd f d b h0 l (fun n hn => by have := h (n + 1) (by simp; omega); simpa using this) i
    simp only [List.take_succ_cons, sumF]
    simp only [List.getD_cons_zero] at h1
    have e : b * ((i + 1 : Nat) : Int) = b * i + b := by
      rw [show ((i + 1 : Nat) : Int) = (i : Int) + 1 by omega, Int.mul_add, Int.mul_one]
    omega
def uF (t : Tk) : Int := if t.o = true then 0 else t.u
def leftS (l : List Tk) (ws : List Wk) : Int := sumF uF l - sumF Wk.d ws
def attS (l : List Tk) : Int := sumF Tk.a l
/-! ### What is right -/
theorem errs_iff : ∀ l : List Tk, errs l = 0 ↔ ∀ t ∈ l, errT t = 0
  | [] => by simp [errs]
  | x :: l => by
    simp only [errs, List.mem_cons, forall_eq_or_imp]
    split
    · rename_i h; rw [errs_iff l]; exact ⟨fun a => ⟨h, a⟩, fun a => a.2⟩
    · rename_i h; exact ⟨fun a => absurd a h, fun a => absurd a.1 h⟩
theorem jobsE_iff (l : List Tk) : jobsE l = 0 ↔ l.length ≤ 4096 ∧ ∀ t ∈ l, errT t = 0 := by
  unfold jobsE
  split
  · exact ⟨fun h => (by cases h), fun h => (by omega)⟩
  · rw [errs_iff]; exact ⟨fun h => ⟨by omega, h⟩, fun h => h.2⟩
theorem jobsE_set {l : List Tk} {n : Nat} {x : Tk} (h : jobsE l = 0) (hx : errT x = 0) : jobsE (l.set n x) = 0 := by
  rw [jobsE_iff] at h ⊢
  refine ⟨by rw [List.length_set]; exact h.1, fun t ht => ?_⟩
  rcases List.mem_or_eq_of_mem_set ht with h1 | h1
  · exact h.2 t h1
  · rw [h1]; exact hx
theorem getD_mem {α : Type} {l : List α} {n : Nat} {d : α} (h : n < l.length) : l.getD n d ∈ l := by
  rw [List.getD_eq_getElem?_getD, List.getElem?_eq_getElem h]; exact List.getElem_mem h
theorem getD_setN {α : Type} {l : List α} {n k : Nat} {x d : α} (h : k ≠ n) : (l.set n x).getD k d = l.getD k d := by
  rw [List.getD_eq_getElem?_getD, List.getD_eq_getElem?_getD, List.getElem?_set_ne (by omega)]
theorem getD_setS {α : Type} {l : List α} {n : Nat} {x d : α} (h : n < l.length) : (l.set n x).getD n d = x := by
  rw [List.getD_eq_getElem?_getD, List.getElem?_set_self h]; rfl
theorem errT_iff {t : Tk} : errT t = 0 ↔ 1 ≤ t.u ∧ t.u ≤ 1099511627776 ∧ 0 ≤ t.a ∧ t.a ≤ 1099511627776 ∧ ¬ (t.f = true ∧ t.o = true) := by
  unfold errT
  split
  · exact ⟨fun h => (by cases h), fun h => (by omega)⟩
  · split
    · rename_i h1 h2; exact ⟨fun h => (by cases h), fun h => absurd h2 h.2.2.2.2⟩
    · rename_i h1 h2; exact ⟨fun _ => ⟨by omega, by omega, by omega, by omega, h2⟩, fun _ => rfl⟩
theorem ck_in {j d : Int} {l : List Tk} (h : jobsE l = 0) (h1 : -1 ≤ j) (h2 : j < l.length) (h3 : j = -1 → d = 0) (h4 : 0 ≤ j → 0 ≤ d ∧ d < (l.getD j.toNat tk0).u ∧ (l.getD j.toNat tk0).f = false ∧ (l.getD j.toNat tk0).o = false) : checkE j d l = 0 := by
  by_cases hj : j = -1
  · exact ck3 h (by omega) hj (h3 hj)
  · have := h4 (by omega)
    exact ck7 h (by omega) hj (by omega) this.2.2.1 this.2.2.2
theorem ck_set {j d : Int} {l : List Tk} {n : Nat} {x : Tk} (h : checkE j d l = 0) (hx : errT x = 0) (hn : 0 ≤ j → j.toNat ≠ n) : checkE j d (l.set n x) = 0 := by
  obtain ⟨a1, a2, a3, a4, a5, a6⟩ := ck_ok h
  refine ck_in (jobsE_set a1 hx) a3 (by rw [List.length_set]; exact a4) a5 fun hj => ?_
  rw [getD_setN (hn hj)]; exact a6 hj
/-! ### A pick -/
structure Inv (l : List Tk) (ws : List Wk) (r : Int) : Prop where
  jobs : jobsE l = 0
  len : ws.length = 4
  ck : ∀ k, k < 4 → checkE (ws.getD k wk0).j (ws.getD k wk0).d l = 0
  ne : ∀ k k', k < 4 → k' < 4 → k ≠ k' → 0 ≤ (ws.getD k wk0).j → (ws.getD k wk0).j ≠ (ws.getD k' wk0).j
  at' : ∀ n, n < l.length → (l.getD n tk0).a ≤ r
structure PS (l : List Tk) (ws : List Wk) (r : Int) (at' : Nat) (b : Bool) (p : Pk) : Prop where
  e0 : p.e = 0
  len : p.l.length = l.length
  ch : ∃ n0 : Nat, (∀ k, k ≠ n0 → p.l.getD k tk0 = l.getD k tk0) ∧ (p.l.getD n0 tk0 ≠ l.getD n0 tk0 → (l.getD n0 tk0).o = false ∧ ∀ n, n < 4 → n ≠ at' → (ws.getD n wk0).j ≠ n0)
  cs : (p.w = 0 ∧ busyR (ws.getD at' wk0).j (ws.getD at' wk0).d l = .tup [B false, I 0]) ∨ (p.w = 4 ∧ b = true ∧ busyR (ws.getD at' wk0).j (ws.getD at' wk0).d l = .tup [B true, I 0]) ∨ (1 ≤ p.w ∧ p.w ≤ 3 ∧ b = false ∧ busyR (ws.getD at' wk0).j (ws.getD at' wk0).d l = .tup [B true, I 0])
  left : leftS p.l (ws.set at' ⟨p.j, p.d⟩) = if p.w = 2 ∨ p.w = 3 then leftS l ws - 1 else if p.w = 4 then leftS l ws + (ws.getD at' wk0).d else leftS l ws
  att : attS p.l = attS l + (if p.w = 4 then 1 else 0)
  inv : Inv p.l (ws.set at' ⟨p.j, p.d⟩) (r + 1)
/-- Inv behind a change of one job and one worker. -/
theorem inv_set {l : List Tk} {ws : List Wk} {r : Int} {at' n : Nat} {x : Tk} {w : Wk} (h : Inv l ws r) (ha : at' < 4) (hn : n < l.length) (hx : errT x = 0) (hxa : x.a ≤ r + 1)
    (ho : ∀ k, k < 4 → k ≠ at' → (ws.getD k wk0).j ≠ n) (hw : checkE w.j w.d (l.set n x) = 0) (hwn : w.j = -1 ∨ w.j = n) : Inv (l.set n x) (ws.set at' w) (r + 1) := by
  have hs : (ws.set at' w).getD at' wk0 = w := getD_setS (by rw [h.len]; exact ha)
  have hne : ∀ k, k ≠ at' → (ws.set at' w).getD k wk0 = ws.getD k wk0 := fun k hk => getD_setN hk
  refine ⟨jobsE_set h.jobs hx, by rw [List.length_set]; exact h.len, fun k hk => ?_, fun k k' hk hk' hkk h0 => ?_, fun m hm => ?_⟩
  · by_cases he : k = at'
    · subst he; rw [hs]; exact hw
    · rw [hne k he]
      refine ck_set (h.ck k hk) hx fun hj => ?_
      have := ho k hk he
      omega
  · by_cases he : k = at'
    · subst he
      rw [hs] at h0 ⊢
      rw [hne k' (by omega)]
      have := ho k' hk' (by omega)
      omega
    · rw [hne k he] at h0 ⊢
      by_cases he' : k' = at'
      · subst he'
        rw [hs]
        have := ho k hk he
        omega
      · rw [hne k' he']
        exact h.ne k k' hk hk' hkk h0
  · rw [List.length_set] at hm
    by_cases he : m = n
    · subst he; rw [getD_setS hn]; exact hxa
    · rw [getD_setN he]
      have := h.at' m hm
      omega
theorem pick_spec {l : List Tk} {ws : List Wk} {r : Int} {at' : Nat} {b : Bool} (h : Inv l ws r) (hr : r < 1099511627776) (ha : at' < 4) : PS l ws r at' b (pickP (ws.getD at' wk0).j (ws.getD at' wk0).d l b) := by
  have hc := h.ck at' ha
  have hne := h.ne at'
  have hne2 := fun k hk hkk => h.ne k at' hk ha hkk
  have haw : at' < ws.length := by rw [h.len]; exact ha
  obtain ⟨wj, hwj⟩ : ∃ w, w = ws.getD at' wk0 := ⟨_, rfl⟩
  rw [← hwj] at hc hne hne2 ⊢
  have hwd : (ws.getD at' wk0).d = wj.d := by rw [hwj]
  obtain ⟨j, d⟩ := wj
  simp only [] at hc hne hne2 hwd ⊢
  obtain ⟨a1, a2, a3, a4, a5, a6⟩ := ck_ok hc
  have hfr := fr_rng l 0 (by omega)
  have hup : pickP j d l b = if atF j l < 0 then ⟨j, d, l, 0, 0⟩ else
    if b = true then ⟨-1, 0, l.set (atF j l).toNat (failT (l.getD (atF j l).toNat tk0)), 4, 0⟩ else
    if j = -1 then ⟨atF j l, 0, l.set (atF j l).toNat (beginT (l.getD (atF j l).toNat tk0)), 1, 0⟩ else
    if d + 1 = (l.getD (atF j l).toNat tk0).u then ⟨-1, 0, l.set (atF j l).toNat (overT (l.getD (atF j l).toNat tk0)), 3, 0⟩ else ⟨j, d + 1, l, 2, 0⟩ := by rw [pickP, if_neg (by simpa using hc)]
  have hsame : ws.set at' ⟨j, d⟩ = ws := by
    rw [hwj]
    refine List.ext_getElem? fun i => ?_
    by_cases hi : at' = i
    · subst hi; rw [List.getElem?_set_self haw, List.getD_eq_getElem?_getD, List.getElem?_eq_getElem haw]; rfl
    · rw [List.getElem?_set_ne hi]
  by_cases hat : atF j l < 0
  · -- nothing to do
    rw [hup, if_pos hat]
    have hj : j = -1 := by
      by_cases hj : j = -1
      · exact hj
      · rw [atF, if_neg hj] at hat; omega
    have hf : fr l 0 < 0 := by rw [atF, if_pos hj] at hat; exact hat
    refine ⟨rfl, rfl, ⟨0, fun _ _ => rfl, fun hh => absurd rfl hh⟩, .inl ⟨rfl, by rw [← hwj]; exact busy3 (j := j) (d := d) hc (by omega)⟩, ?_, ?_, ?_⟩
    · simp only [hsame]; rfl
    · simp
    · simp only [hsame]
      exact ⟨h.jobs, h.len, h.ck, h.ne, fun n hn => by have := h.at' n hn; omega⟩
  -- the job
  obtain ⟨n0, hn0⟩ : ∃ n : Nat, n = (atF j l).toNat := ⟨_, rfl⟩
  rw [← hn0] at hup
  have hnl : n0 < l.length := by
    rw [hn0]
    by_cases hj : j = -1
    · rw [atF, if_pos hj] at hat ⊢; omega
    · rw [atF, if_neg hj] at hat ⊢; omega
  have hfree : j = -1 → (l.getD n0 tk0).f = true := fun hj => by
    rw [hn0, atF, if_pos hj]
    rw [atF, if_pos hj] at hat
    have := fr_get l 0 (by omega) (by omega)
    simpa using this
  have hjn : j ≠ -1 → j = n0 := fun hj => by rw [hn0, atF, if_neg hj]; omega
  have hjn2 : j ≠ -1 → (l.getD n0 tk0).f = false ∧ (l.getD n0 tk0).o = false ∧ 0 ≤ d ∧ d < (l.getD n0 tk0).u := fun hj => by
    have e := hjn hj
    have := a6 (by omega)
    rw [show j.toNat = n0 by omega] at this
    exact ⟨this.2.2.1, this.2.2.2, this.1, this.2.1⟩
  have hT : errT (l.getD n0 tk0) = 0 := ((jobsE_iff l).1 a1).2 _ (getD_mem hnl)
  have hT2 := errT_iff.1 hT
  have ho : (l.getD n0 tk0).o = false := by
    by_cases hj : j = -1
    · cases hoo : (l.getD n0 tk0).o
      · rfl
      · exact absurd ⟨hfree hj, hoo⟩ hT2.2.2.2.2
    · exact (hjn2 hj).2.1
  have hoth : ∀ n, n < 4 → n ≠ at' → (ws.getD n wk0).j ≠ n0 := fun n hn hna hh => by
    by_cases hj : j = -1
    · have hcn := ck_ok (h.ck n hn)
      have := hcn.2.2.2.2.2 (by omega)
      rw [show (ws.getD n wk0).j.toNat = n0 by omega] at this
      rw [hfree hj] at this
      exact absurd this.2.2.1 (by decide)
    · have := hne n ha hn (fun e => hna e.symm) (by omega)
      have := hjn hj
      omega
  have hab := h.at' n0 hnl
  have hch : ∀ x : Tk, ∃ n0' : Nat, (∀ k, k ≠ n0' → (l.set n0 x).getD k tk0 = l.getD k tk0) ∧ ((l.set n0 x).getD n0' tk0 ≠ l.getD n0' tk0 → (l.getD n0' tk0).o = false ∧ ∀ n, n < 4 → n ≠ at' → (ws.getD n wk0).j ≠ n0') :=
    fun x => ⟨n0, fun k hk => getD_setN hk, fun _ => ⟨ho, hoth⟩⟩
  have hbusy : busyR (ws.getD at' wk0).j (ws.getD at' wk0).d l = .tup [B true, I 0] := by
    rw [← hwj]
    refine busy2 (j := j) (d := d) hc ?_
    by_cases hj : j = -1
    · rw [atF, if_pos hj] at hat; exact .inr (by omega)
    · exact .inl (by show 0 ≤ j; omega)
  have hsl : ∀ x : Tk, sumF uF (l.set n0 x) = sumF uF l - uF (l.getD n0 tk0) + uF x := fun x => sumF_set uF tk0 l n0 x hnl
  have hsa : ∀ x : Tk, sumF Tk.a (l.set n0 x) = sumF Tk.a l - (l.getD n0 tk0).a + x.a := fun x => sumF_set Tk.a tk0 l n0 x hnl
  have hsd : ∀ w : Wk, sumF Wk.d (ws.set at' w) = sumF Wk.d ws - d + w.d := fun w => by
    rw [sumF_set Wk.d wk0 ws at' w haw, ← hwj]
  have hu0 : uF (l.getD n0 tk0) = (l.getD n0 tk0).u := by rw [uF, if_neg (by rw [ho]; decide)]
  have hd0 : j = -1 → d = 0 := a5
  rw [hup, if_neg hat]
  by_cases hb : b = true
  · -- fail
    rw [if_pos hb]
    have hx : errT (failT (l.getD n0 tk0)) = 0 := errT_iff.2 ⟨hT2.1, hT2.2.1, by show 0 ≤ min _ _; omega, by show min _ _ ≤ _; omega, fun hh => by have := hh.2; rw [show (failT (l.getD n0 tk0)).o = (l.getD n0 tk0).o from rfl, ho] at this; cases this⟩
    have hfa : (failT (l.getD n0 tk0)).a = (l.getD n0 tk0).a + 1 := by show min _ _ = _; omega
    have hfu : uF (failT (l.getD n0 tk0)) = (l.getD n0 tk0).u := by
      rw [uF, if_neg (by show ¬ (l.getD n0 tk0).o = true; rw [ho]; decide)]; rfl
    refine ⟨rfl, List.length_set, hch _, .inr (.inl ⟨rfl, hb, hbusy⟩), ?_, ?_, ?_⟩
    · show sumF uF (l.set n0 _) - sumF Wk.d (ws.set at' _) = _
      rw [hsl, hsd, hu0, hfu]; simp only [leftS, hwd]; rw [if_neg (by decide), if_pos trivial]; omega
    · show sumF Tk.a (l.set n0 _) = _
      rw [hsa, hfa, if_pos rfl]; simp only [attS]; omega
    · exact inv_set h ha hnl hx (by rw [hfa]; omega) hoth (ck_in (j := -1) (d := 0) (jobsE_set a1 hx) (by omega) (by rw [List.length_set]; omega) (fun _ => rfl) (fun hh => absurd hh (by omega))) (.inl rfl)
  rw [if_neg hb]
  have hbf : b = false := Bool.eq_false_iff.2 hb
  by_cases hj : j = -1
  · -- take
    rw [if_pos hj]
    have hx : errT (beginT (l.getD n0 tk0)) = 0 := errT_iff.2 ⟨hT2.1, hT2.2.1, hT2.2.2.1, hT2.2.2.2.1, fun hh => by cases hh.1⟩
    have hfu : uF (beginT (l.getD n0 tk0)) = (l.getD n0 tk0).u := by
      rw [uF, if_neg (by show ¬ (l.getD n0 tk0).o = true; rw [ho]; decide)]; rfl
    have hatn : atF j l = n0 := by omega
    refine ⟨rfl, List.length_set, hch _, .inr (.inr ⟨by show (1 : Int) ≤ 1; omega, by show (1 : Int) ≤ 3; omega, hbf, hbusy⟩), ?_, ?_, ?_⟩
    · show sumF uF (l.set n0 _) - sumF Wk.d (ws.set at' _) = _
      rw [hsl, hsd, hu0, hfu]; simp only [leftS, hwd]; rw [if_neg (by decide), if_neg (by decide)]; have := hd0 hj; omega
    · show sumF Tk.a (l.set n0 _) = _
      rw [hsa, if_neg (by show ¬ (1 : Int) = 4; decide), show (beginT (l.getD n0 tk0)).a = (l.getD n0 tk0).a from rfl]; simp only [attS]; omega
    · refine inv_set h ha hnl hx (by show (l.getD n0 tk0).a ≤ r + 1; omega) hoth (ck_in (jobsE_set a1 hx) (by simp only []; omega) (by rw [List.length_set]; simp only []; omega) (fun hh => rfl) (fun hh => ?_)) (.inr hatn)
      simp only [hatn, Int.toNat_natCast]
      rw [getD_setS hnl]
      exact ⟨by omega, by show (0 : Int) < (l.getD n0 tk0).u; omega, rfl, ho⟩
  rw [if_neg hj]
  have hj2 := hjn2 hj
  have hjN := hjn hj
  by_cases hdu : d + 1 = (l.getD n0 tk0).u
  · -- done
    rw [if_pos hdu]
    have hx : errT (overT (l.getD n0 tk0)) = 0 := errT_iff.2 ⟨hT2.1, hT2.2.1, hT2.2.2.1, hT2.2.2.2.1, fun hh => by have := hh.1; rw [show (overT (l.getD n0 tk0)).f = (l.getD n0 tk0).f from rfl, hj2.1] at this; cases this⟩
    have hfu : uF (overT (l.getD n0 tk0)) = 0 := by rw [uF, if_pos (show (overT (l.getD n0 tk0)).o = true from rfl)]
    refine ⟨rfl, List.length_set, hch _, .inr (.inr ⟨by show (1 : Int) ≤ 3; omega, by show (3 : Int) ≤ 3; omega, hbf, hbusy⟩), ?_, ?_, ?_⟩
    · show sumF uF (l.set n0 _) - sumF Wk.d (ws.set at' _) = _
      rw [hsl, hsd, hu0, hfu]; simp only [leftS, hwd]; rw [if_pos (by decide)]; omega
    · show sumF Tk.a (l.set n0 _) = _
      rw [hsa, if_neg (by show ¬ (3 : Int) = 4; decide), show (overT (l.getD n0 tk0)).a = (l.getD n0 tk0).a from rfl]; simp only [attS]; omega
    · exact inv_set h ha hnl hx (by show (l.getD n0 tk0).a ≤ r + 1; omega) hoth (ck_in (j := -1) (d := 0) (jobsE_set a1 hx) (by omega) (by rw [List.length_set]; omega) (fun _ => rfl) (fun hh => absurd hh (by omega))) (.inl rfl)
  · -- work
    rw [if_neg hdu]
    have hls : l.set n0 (l.getD n0 tk0) = l := by
      refine List.ext_getElem? fun i => ?_
      by_cases hi : n0 = i
      · subst hi; rw [List.getElem?_set_self hnl, List.getD_eq_getElem?_getD, List.getElem?_eq_getElem hnl]; rfl
      · rw [List.getElem?_set_ne hi]
    refine ⟨rfl, rfl, ⟨0, fun _ _ => rfl, fun hh => absurd rfl hh⟩, .inr (.inr ⟨by show (1 : Int) ≤ 2; omega, by show (2 : Int) ≤ 3; omega, hbf, hbusy⟩), ?_, ?_, ?_⟩
    · show sumF uF l - sumF Wk.d (ws.set at' _) = _
      rw [hsd]; simp only [leftS, hwd]; rw [if_pos (by decide)]; omega
    · rw [if_neg (by show ¬ (2 : Int) = 4; decide)]; simp only [attS]; omega
    · have := inv_set (w := ⟨j, d + 1⟩) (x := l.getD n0 tk0) h ha hnl hT (by omega) hoth (by
        rw [hls]
        refine ck_in a1 a3 a4 (fun hh => absurd hh hj) fun hh => ?_
        simp only []
        rw [show j.toNat = n0 by omega]
        exact ⟨by omega, by omega, hj2.1, hj2.2.1⟩) (.inr hjN)
      rw [hls] at this
      exact this
end Go.Proofs.Ytfhbbpdnmdbjbaa
