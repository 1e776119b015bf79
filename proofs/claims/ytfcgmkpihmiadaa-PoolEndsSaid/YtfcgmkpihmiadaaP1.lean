/-
  A part of the proof of a statement of a chapter's seat; conditions: stated at each theorem.
-/
import Derived.Test.YtfcgmkpihmiadaaAzR
set_option linter.unusedVariables false
set_option linter.unusedSectionVars false
set_option linter.unusedSimpArgs false
set_option linter.unusedVariables false
set_option maxRecDepth 100000
set_option maxHeartbeats 4000000
namespace Go.Proofs.Ytfcgmkpihmiadaa
open Go.Az Go
abbrev U : AV := .v undef
abbrev I (n : Int) : AV := .v (.int .i64 n)
abbrev B (b : Bool) : AV := .v (.bool b)
structure Tk where
  u : Int
  f : Bool
  o : Bool
  a : Int
def encT (t : Tk) : List AV := [I t.u, B t.f, B t.o, I t.a]
theorem encT_ok : EncOk encT 4 := fun _ => ⟨rfl, rfl⟩
def tk0 : Tk := ⟨0, false, false, 0⟩
abbrev TA (t : Tk) : AV := .agg (encT t)
abbrev WA (j d : Int) : AV := .agg [I j, I d]
abbrev TS := Elts encT 4
theorem encT_p : EncP encT := fun _ => rfl
theorem tk_ext {x y : Tk} (h1 : x.u = y.u) (h2 : x.f = y.f) (h3 : x.o = y.o) (h4 : x.a = y.a) : x = y := by
  cases x; cases y; simp_all
instance : DecidableEq Tk := fun x y => if h : x.u = y.u ∧ x.f = y.f ∧ x.o = y.o ∧ x.a = y.a then isTrue (tk_ext h.1 h.2.1 h.2.2.1 h.2.2.2) else isFalse (fun e => h (by subst e; exact ⟨rfl, rfl, rfl, rfl⟩))
theorem takeT {α : Type} {l : List α} {d : α} {i : Nat} (h : i < l.length) : l.take (i + 1) = l.take i ++ [l.getD i d] := by
  rw [List.take_add_one, List.getD_eq_getElem?_getD, List.getElem?_eq_getElem h]; rfl
theorem dropT {α : Type} {l : List α} {d : α} {i : Nat} (h : i < l.length) : l.drop i = l.getD i d :: l.drop (i + 1) := by
  rw [List.drop_eq_getElem_cons h, List.getD_eq_getElem?_getD, List.getElem?_eq_getElem h]; rfl
abbrev nilS : AV := .v (.slice none 0 0)
/-! ### What the jobs' errors are -/
def errT (t : Tk) : Int := if t.u < 1 ∨ 1099511627776 < t.u ∨ t.a < 0 ∨ 1099511627776 < t.a then 2 else if t.f = true ∧ t.o = true then 10 else 0
def errs : List Tk → Int
  | [] => 0
  | t :: r => if errT t = 0 then errs r else errT t
def jobsE (l : List Tk) : Int := if 4096 < l.length then 6 else errs l
theorem errs_snoc {l : List Tk} {i : Nat} (h : i < l.length) (h0 : errs (l.drop i) = errs l) (h1 : errT (l.getD i tk0) = 0) : errs (l.drop (i + 1)) = errs l := by
  rw [dropT (d := tk0) h, errs, if_pos h1] at h0; exact h0
theorem errs_at {l : List Tk} {i : Nat} {e : Int} (h : i < l.length) (h0 : errs (l.drop i) = errs l) (h1 : errT (l.getD i tk0) = e) (h2 : e ≠ 0) : errs l = e := by
  rw [dropT (d := tk0) h, errs, if_neg (by omega)] at h0; omega
theorem errT_2 {t : Tk} (h : t.u < 1 ∨ 1099511627776 < t.u ∨ t.a < 0 ∨ 1099511627776 < t.a) : errT t = 2 := if_pos h
theorem errT_10 {t : Tk} (h : ¬ (t.u < 1 ∨ 1099511627776 < t.u ∨ t.a < 0 ∨ 1099511627776 < t.a)) (h1 : t.f = true) (h2 : t.o = true) : errT t = 10 := by rw [errT, if_neg h, if_pos ⟨h1, h2⟩]
theorem errT_0 {t : Tk} (h : ¬ (t.u < 1 ∨ 1099511627776 < t.u ∨ t.a < 0 ∨ 1099511627776 < t.a)) (h1 : ¬ (t.f = true ∧ t.o = true)) : errT t = 0 := by rw [errT, if_neg h, if_neg h1]
/-! ### The first free job -/
def fr : List Tk → Int → Int
  | [], _ => -1
  | t :: r, i => if t.f = true then i else fr r (i + 1)
theorem fr_rng : ∀ (l : List Tk) (i : Int), 0 ≤ i → fr l i = -1 ∨ (i ≤ fr l i ∧ fr l i < i + l.length)
  | [], i, _ => .inl rfl
  | t :: r, i, h => by
    unfold fr
    split
    · simp; omega
    · have := fr_rng r (i + 1) (by omega)
      simp only [List.length_cons]; omega
def checkE (j d : Int) (l : List Tk) : Int :=
  if jobsE l ≠ 0 then jobsE l else if j < -1 ∨ (l.length : Int) ≤ j then 2 else if j = -1 then (if d = 0 then 0 else 10)
  else if d < 0 ∨ (l.getD j.toNat tk0).u ≤ d then 2 else if (l.getD j.toNat tk0).f = true ∨ (l.getD j.toNat tk0).o = true then 10 else 0
section
variable {j d : Int} {l : List Tk}
theorem ck1 (h : jobsE l ≠ 0) : checkE j d l = jobsE l := by rw [checkE, if_pos h]
theorem ck2 (h : jobsE l = 0) (h1 : j < -1 ∨ (l.length : Int) ≤ j) : checkE j d l = 2 := by rw [checkE, if_neg (by simpa using h), if_pos h1]
theorem ck3 (h : jobsE l = 0) (h1 : ¬ (j < -1 ∨ (l.length : Int) ≤ j)) (h2 : j = -1) (h3 : d = 0) : checkE j d l = 0 := by rw [checkE, if_neg (by simpa using h), if_neg h1, if_pos h2, if_pos h3]
theorem ck4 (h : jobsE l = 0) (h1 : ¬ (j < -1 ∨ (l.length : Int) ≤ j)) (h2 : j = -1) (h3 : d ≠ 0) : checkE j d l = 10 := by rw [checkE, if_neg (by simpa using h), if_neg h1, if_pos h2, if_neg h3]
theorem ck5 (h : jobsE l = 0) (h1 : ¬ (j < -1 ∨ (l.length : Int) ≤ j)) (h2 : j ≠ -1) (h3 : d < 0 ∨ (l.getD j.toNat tk0).u ≤ d) : checkE j d l = 2 := by rw [checkE, if_neg (by simpa using h), if_neg h1, if_neg h2, if_pos h3]
theorem ck6 (h : jobsE l = 0) (h1 : ¬ (j < -1 ∨ (l.length : Int) ≤ j)) (h2 : j ≠ -1) (h3 : ¬ (d < 0 ∨ (l.getD j.toNat tk0).u ≤ d)) (h4 : (l.getD j.toNat tk0).f = true ∨ (l.getD j.toNat tk0).o = true) : checkE j d l = 10 := by rw [checkE, if_neg (by simpa using h), if_neg h1, if_neg h2, if_neg h3, if_pos h4]
theorem ck7 (h : jobsE l = 0) (h1 : ¬ (j < -1 ∨ (l.length : Int) ≤ j)) (h2 : j ≠ -1) (h3 : ¬ (d < 0 ∨ (l.getD j.toNat tk0).u ≤ d)) (h4 : (l.getD j.toNat tk0).f = false) (h5 : (l.getD j.toNat tk0).o = false) : checkE j d l = 0 := by
  rw [checkE, if_neg (by simpa using h), if_neg h1, if_neg h2, if_neg h3, if_neg (by rw [h4, h5]; simp)]
/-- What is known of a worker that is right. -/
theorem ck_ok (h : checkE j d l = 0) : jobsE l = 0 ∧ l.length ≤ 4096 ∧ -1 ≤ j ∧ j < l.length ∧ (j = -1 → d = 0) ∧ (0 ≤ j → 0 ≤ d ∧ d < (l.getD j.toNat tk0).u ∧ (l.getD j.toNat tk0).f = false ∧ (l.getD j.toNat tk0).o = false) := by
  unfold checkE at h
  by_cases h0 : jobsE l = 0
  · rw [if_neg (by simpa using h0)] at h
    have hl : l.length ≤ 4096 := by
      unfold jobsE at h0
      split at h0
      · cases h0
      · omega
    split at h
    · cases h
    · rename_i h1
      split at h
      · rename_i h2
        split at h
        · rename_i h3
          exact ⟨h0, hl, by omega, by omega, fun _ => h3, fun h => by omega⟩
        · cases h
      · rename_i h2
        split at h
        · cases h
        · rename_i h3
          split at h
          · cases h
          · rename_i h4
            refine ⟨h0, hl, by omega, by omega, fun h => absurd h h2, fun _ => ⟨by omega, by omega, ?_, ?_⟩⟩
            · cases hf : (l.getD j.toNat tk0).f
              · rfl
              · exact absurd (.inl hf) h4
            · cases hf : (l.getD j.toNat tk0).o
              · rfl
              · exact absurd (.inr hf) h4
  · rw [if_pos (by simpa using h0)] at h; exact absurd h h0
end
def busyR (j d : Int) (l : List Tk) : AV := if checkE j d l ≠ 0 then .tup [B false, I (checkE j d l)] else .tup [B (decide (0 ≤ j ∨ 0 ≤ fr l 0)), I 0]
theorem busy1 {j d : Int} {l : List Tk} (h : checkE j d l ≠ 0) : busyR j d l = .tup [B false, I (checkE j d l)] := if_pos h
theorem busy2 {j d : Int} {l : List Tk} (h : checkE j d l = 0) (h1 : 0 ≤ j ∨ 0 ≤ fr l 0) : busyR j d l = .tup [B true, I 0] := by rw [busyR, if_neg (by simpa using h), decide_eq_true h1]
theorem busy3 {j d : Int} {l : List Tk} (h : checkE j d l = 0) (h1 : ¬ (0 ≤ j ∨ 0 ≤ fr l 0)) : busyR j d l = .tup [B false, I 0] := by rw [busyR, if_neg (by simpa using h), decide_eq_false h1]
def leftR (j d : Int) (l : List Tk) : AV := if checkE j d l ≠ 0 then .tup [I 0, I (checkE j d l)] else if j = -1 then .tup [I 0, I 0] else .tup [I ((l.getD j.toNat tk0).u - d), I 0]
def nextR (l : List Tk) : AV := if jobsE l ≠ 0 then .tup [I 0, B false, I (jobsE l)] else if fr l 0 < 0 then .tup [I 0, B false, I 0] else .tup [I (fr l 0), B true, I 0]
theorem errs_rng : ∀ (l : List Tk), errs l = 0 → ∀ n, n < l.length → 1 ≤ (l.getD n tk0).u ∧ (l.getD n tk0).u ≤ 1099511627776 ∧ 0 ≤ (l.getD n tk0).a ∧ (l.getD n tk0).a ≤ 1099511627776
  | [], _, n, hn => by simp at hn
  | t :: r, h, n, hn => by
    unfold errs at h
    split at h
    · rename_i h0
      cases n with
      | succ n => exact errs_rng r h n (by simpa using hn)
      | zero =>
        unfold errT at h0
        split at h0
        · cases h0
        · simp only [List.getD_cons_zero]; omega
    · contradiction
theorem jobs_rng {l : List Tk} (h : jobsE l = 0) (n : Nat) (hn : n < l.length) : 1 ≤ (l.getD n tk0).u ∧ (l.getD n tk0).u ≤ 1099511627776 := by
  unfold jobsE at h
  split at h
  · cases h
  · have := errs_rng l h n hn; exact ⟨this.1, this.2.1⟩
theorem jobs_rngA {l : List Tk} (h : jobsE l = 0) (n : Nat) (hn : n < l.length) : 0 ≤ (l.getD n tk0).a ∧ (l.getD n tk0).a ≤ 1099511627776 := by
  unfold jobsE at h
  split at h
  · cases h
  · have := errs_rng l h n hn; exact this.2.2
abbrev fl (l : List Tk) : List AV := l.flatMap encT
theorem fT {l : List Tk} {n off : Nat} {r : AV} (hn : n < l.length) (hr : (encT (l.getD n tk0))[off]? = some r) : (fl l)[n * 4 + off]? = some r := flat_get1 encT_ok tk0 hn hr
theorem gT {l : List Tk} {n off : Nat} (hn : n < l.length) (ho : off < 4) : n * 4 + off < (fl l).length := by have := flat_lt encT_ok hn ho; rwa [Nat.zero_add] at this
def failT (t : Tk) : Tk := { t with f := true, a := min 1099511627776 (t.a + 1) }
def beginT (t : Tk) : Tk := { t with f := false }
def overT (t : Tk) : Tk := { t with o := true }
theorem set_f {l : List Tk} {n : Nat} {b : Bool} (hn : n < l.length) : (fl l).set (n * 4 + 1) (B b) = fl (l.set n { l.getD n tk0 with f := b }) := by
  exact flat_set1 encT_ok tk0 hn (by omega) rfl
theorem set_o {l : List Tk} {n : Nat} {b : Bool} (hn : n < l.length) : (fl l).set (n * 4 + 2) (B b) = fl (l.set n { l.getD n tk0 with o := b }) := by
  exact flat_set1 encT_ok tk0 hn (by omega) rfl
theorem set_a {l : List Tk} {n : Nat} {x : Int} (hn : n < l.length) : (fl l).set (n * 4 + 3) (I x) = fl (l.set n { l.getD n tk0 with a := x }) := by
  exact flat_set1 encT_ok tk0 hn (by omega) rfl
theorem getD_set {l : List Tk} {n : Nat} {y : Tk} (hn : n < l.length) : (l.set n y).getD n tk0 = y := by
  rw [List.getD_eq_getElem?_getD, List.getElem?_set_self hn]; rfl
structure Pk where
  j : Int
  d : Int
  l : List Tk
  w : Int
  e : Int
def atF (j : Int) (l : List Tk) : Int := if j = -1 then fr l 0 else j
def pickP (j d : Int) (l : List Tk) (fail : Bool) : Pk :=
  if checkE j d l ≠ 0 then ⟨0, 0, [], 0, checkE j d l⟩ else
  if atF j l < 0 then ⟨j, d, l, 0, 0⟩ else
  if fail = true then ⟨-1, 0, l.set (atF j l).toNat (failT (l.getD (atF j l).toNat tk0)), 4, 0⟩ else
  if j = -1 then ⟨atF j l, 0, l.set (atF j l).toNat (beginT (l.getD (atF j l).toNat tk0)), 1, 0⟩ else
  if d + 1 = (l.getD (atF j l).toNat tk0).u then ⟨-1, 0, l.set (atF j l).toNat (overT (l.getD (atF j l).toNat tk0)), 3, 0⟩ else ⟨j, d + 1, l, 2, 0⟩
def pkT (p : Pk) (s : AV) : AV := .tup [WA p.j p.d, s, I p.w, I p.e]
theorem pkT_ren (p : Pk) (σ : Nat → Nat) (s : AV) : AV.ren σ (pkT p s) = pkT p (s.ren σ) := rfl
theorem pkT_sc (p : Pk) (n : Nat) (s : AV) (h : s.sc n = true) : (pkT p s).sc n = true := by simp [pkT, AV.sc, AV.scs, h]
theorem fr_get : ∀ (l : List Tk) (i : Int), 0 ≤ i → i ≤ fr l i → (l.getD (fr l i - i).toNat tk0).f = true
  | [], i, h0, h => by simp [fr] at h; omega
  | t :: r, i, h0, h => by
    unfold fr at h ⊢
    split
    · rename_i hf
      simp [hf]
    · rename_i hf
      rw [if_neg hf] at h
      have h2 := fr_rng r (i + 1) (by omega)
      have := fr_get r (i + 1) (by omega) (by omega)
      rw [show (fr r (i + 1) - i).toNat = (fr r (i + 1) - (i + 1)).toNat + 1 by omega, List.getD_cons_succ]
      exact this
structure Wk where
  j : Int
  d : Int
def wk0 : Wk := ⟨-1, 0⟩
def encW (w : Wk) : List AV := [I w.j, I w.d]
theorem encW_ok : EncOk encW 2 := fun _ => ⟨rfl, rfl⟩
/-! ### Sums -/
def sumF {α : Type} (f : α → Int) : List α → Int
  | [] => 0
  | x :: r => f x + sumF f r
theorem sumF_app {α : Type} (f : α → Int) : ∀ (a b : List α), sumF f (a ++ b) = sumF f a + sumF f b
  | [], b => by simp [sumF]
  | x :: a, b => by simp only [List.cons_append, sumF, sumF_app f a b]; omega
theorem sumF_take {α : Type} (f : α → Int) (d : α) {l : List α} {i : Nat} (h : i < l.length) : sumF f (l.take (i + 1)) = sumF f (l.take i) + f (l.getD i d) := by
  rw [takeT (d := d) h, sumF_app]; simp [sumF]
theorem sumF_set {α : Type} (f : α → Int) (d : α) : ∀ (l : List α) (n : Nat) (x : α), n < l.length → sumF f (l.set n x) = sumF f l - f (l.getD n d) + f x
  | [], n, x, h => by simp at h
  | y :: l, 0, x, h => by simp only [List.set_cons_zero, sumF, List.getD_cons_zero]; omega
  | y :: l, n + 1, x, h => by
    simp only [List.set_cons_succ, sumF, List.getD_cons_succ]
    rw [sumF_set f d l n x (by simpa using h)]; omega
def uF (t : Tk) : Int := if t.o = true then 0 else t.u
def leftS (l : List Tk) (ws : List Wk) : Int := sumF uF l - sumF Wk.d ws
def attS (l : List Tk) : Int := sumF Tk.a l
/-! ### What is right -/
theorem errs_iff : ∀ l : List Tk, errs l = 0 ↔ ∀ t ∈ l, errT t = 0
  | [] => by simp [errs]
  | x :: l => by
    simp only [errs, List.mem_cons, forall_eq_or_imp]
    split
    · rename_i h; rw [errs_iff l]; exact ⟨fun a => ⟨h, a⟩, fun a => a.2⟩
    · rename_i h; exact ⟨fun a => absurd a h, fun a => absurd a.1 h⟩
theorem jobsE_iff (l : List Tk) : jobsE l = 0 ↔ l.length ≤ 4096 ∧ ∀ t ∈ l, errT t = 0 := by
  unfold jobsE
  split
  · exact ⟨fun h => (by cases h), fun h => (by omega)⟩
  · rw [errs_iff]; exact ⟨fun h => ⟨by omega, h⟩, fun h => h.2⟩
theorem jobsE_set {l : List Tk} {n : Nat} {x : Tk} (h : jobsE l = 0) (hx : errT x = 0) : jobsE (l.set n x) = 0 := by
  rw [jobsE_iff] at h ⊢
  refine ⟨by rw [List.length_set]; exact h.1, fun t ht => ?_⟩
  rcases List.mem_or_eq_of_mem_set ht with h1 | h1
  · exact h.2 t h1
  · rw [h1]; exact hx
theorem getD_mem {α : Type} {l : List α} {n : Nat} {d : α} (h : n < l.length) : l.getD n d ∈ l := by
  rw [List.getD_eq_getElem?_getD, List.getElem?_eq_getElem h]; exact List.getElem_mem h
theorem getD_setN {α : Type} {l : List α} {n k : Nat} {x d : α} (h : k ≠ n) : (l.set n x).getD k d = l.getD k d := by
  rw [List.getD_eq_getElem?_getD, List.getD_eq_getElem?_getD, List.getElem?_set_ne (by omega)]
theorem getD_setS {α : Type} {l : List α} {n : Nat} {x d : α} (h : n < l.length) : (l.set n x).getD n d = x := by
  rw [List.getD_eq_getElem?_getD, List.getElem?_set_self h]; rfl
theorem errT_iff {t : Tk} : errT t = 0 ↔ 1 ≤ t.u ∧ t.u ≤ 1099511627776 ∧ 0 ≤ t.a ∧ t.a ≤ 1099511627776 ∧ ¬ (t.f = true ∧ t.o = true) := by
  unfold errT
  split
  · exact ⟨fun h => (by cases h), fun h => (by omega)⟩
  · split
    · rename_i h1 h2; exact ⟨fun h => (by cases h), fun h => absurd h2 h.2.2.2.2⟩
    · rename_i h1 h2; exact ⟨fun _ => ⟨by omega, by omega, by omega, by omega, h2⟩, fun _ => rfl⟩
theorem ck_in {j d : Int} {l : List Tk} (h : jobsE l = 0) (h1 : -1 ≤ j) (h2 : j < l.length) (h3 : j = -1 → d = 0) (h4 : 0 ≤ j → 0 ≤ d ∧ d < (l.getD j.toNat tk0).u ∧ (l.getD j.toNat tk0).f = false ∧ (l.getD j.toNat tk0).o = false) : checkE j d l = 0 := by
  by_cases hj : j = -1
  · exact ck3 h (by omega) hj (h3 hj)
  · have := h4 (by omega)
    exact ck7 h (by omega) hj (by omega) this.2.2.1 this.2.2.2
theorem ck_set {j d : Int} {l : List Tk} {n : Nat} {x : Tk} (h : checkE j d l = 0) (hx : errT x = 0) (hn : 0 ≤ j → j.toNat ≠ n) : checkE j d (l.set n x) = 0 := by
  obtain ⟨a1, a2, a3, a4, a5, a6⟩ := ck_ok h
  refine ck_in (jobsE_set a1 hx) a3 (by rw [List.length_set]; exact a4) a5 fun hj => ?_
  rw [getD_setN (hn hj)]; exact a6 hj
end Go.Proofs.Ytfcgmkpihmiadaa
