/-
  A part of the proof of a statement of a chapter's seat; conditions: stated at each theorem.
-/
import Derived.Test.YtckljanplahbkaaM18
import Derived.Test.YtckljanplahbkaaAzR
set_option linter.unusedVariables false
set_option linter.unusedSectionVars false
set_option linter.unusedSimpArgs false
set_option linter.unusedVariables false
set_option maxRecDepth 100000
set_option maxHeartbeats 4000000
namespace Go.Proofs.Ytckljanplahbkaa
open Go.Az Go
/-! ### Trees of counts: what their depths are -/
def fb : Nat → Int
  | 0 => 1
  | 1 => 2
  | n + 2 => fb (n + 1) + fb n
theorem fb_pos : ∀ n, 1 ≤ fb n
  | 0 => by decide
  | 1 => by decide
  | n + 2 => by have := fb_pos (n + 1); have := fb_pos n; rw [fb]; omega
theorem fb_step (n : Nat) : fb n ≤ fb (n + 1) := by
  cases n with
  | zero => decide
  | succ n => have := fb_pos n; rw [fb]; omega
theorem fb_mono : ∀ {a b : Nat}, a ≤ b → fb a ≤ fb b := by
  intro a b h
  induction h with
  | refl => exact Int.le_refl _
  | step _ ih => exact Int.le_trans ih (fb_step _)
structure Nd where
  c : Int
  lf : Bool
  n : Int
  z : AV
  pz : SlC z
  l : List Int
  h : Nat
  d : Int
def nd0 : Nd := ⟨0, false, 0, .v (.slice none 0 0), inferInstance, [], 0, 0⟩
def encN (x : Nd) : List AV := [I x.c, B x.lf, I x.n, x.z]
theorem encN_ok : EncOk encN 4 := fun x => ⟨rfl, by
  have := x.pz.p
  unfold encN
  rcases this with h | ⟨i, o, n, c, u, h⟩ <;> rw [h] <;> rfl⟩
instance : EncC encN 4 nd0 := ⟨encN_ok⟩
/-! Sums of powers -/
def krF (o : List Int) : List Int → Int
  | [] => 0
  | i :: r => 2 ^ (64 - (o.getD i.toNat 0).toNat) + krF o r
theorem krF_app (o : List Int) : ∀ a b : List Int, krF o (a ++ b) = krF o a + krF o b
  | [], b => by simp [krF]
  | x :: a, b => by rw [List.cons_append, krF, krF, krF_app o a b]; omega
theorem two_pos (n : Nat) : (1 : Int) ≤ 2 ^ n := by
  have := Nat.pow_pos (n := n) (show 0 < 2 by omega)
  have e : ((2 ^ n : Nat) : Int) = 2 ^ n := by simp
  omega
theorem krF_nn (o : List Int) : ∀ a : List Int, (a.length : Int) ≤ krF o a
  | [] => by simp [krF]
  | x :: a => by
    have := krF_nn o a
    have := two_pos (64 - (o.getD x.toNat 0).toNat)
    rw [krF, List.length_cons]; push_cast; omega
theorem krF_perm (o : List Int) {a b : List Int} (h : a.Perm b) : krF o a = krF o b := by
  induction h with
  | nil => rfl
  | cons x _ ih => rw [krF, krF, ih]
  | swap x y l => rw [krF, krF, krF, krF]; omega
  | trans _ _ h1 h2 => rw [h1, h2]
theorem krF_same {o o' : List Int} : ∀ (l : List Int), (∀ i ∈ l, o'.getD i.toNat 0 = o.getD i.toNat 0) → krF o' l = krF o l
  | [], _ => rfl
  | x :: l, h => by
    rw [krF, krF, h x (by simp), krF_same l fun i hi => h i (by simp [hi])]
theorem krF_up {o o' : List Int} : ∀ (l : List Int), (∀ i ∈ l, o'.getD i.toNat 0 = o.getD i.toNat 0 + 1 ∧ 0 ≤ o.getD i.toNat 0 ∧ o.getD i.toNat 0 ≤ 63) → 2 * krF o' l = krF o l
  | [], _ => rfl
  | x :: l, h => by
    obtain ⟨h1, h2, h3⟩ := h x (by simp)
    have ih := krF_up l fun i hi => h i (by simp [hi])
    rw [krF, krF, h1, ← ih]
    have e : 64 - (o.getD x.toNat 0).toNat = (64 - (o.getD x.toNat 0 + 1).toNat) + 1 := by omega
    rw [e, Int.pow_succ]; omega
/-! The symbols that occur -/
def posA : List Int → Int → List Int
  | [], _ => []
  | x :: r, a => if 0 < x then a :: posA r (a + 1) else posA r (a + 1)
def posS : List Int → Int
  | [] => 0
  | x :: r => (if 0 < x then x else 0) + posS r
theorem posA_app : ∀ (l r : List Int) (a : Int), posA (l ++ r) a = posA l a ++ posA r (a + l.length)
  | [], r, a => by simp [posA]
  | x :: l, r, a => by
    rw [List.cons_append, posA, posA, posA_app l r (a + 1), List.length_cons, show a + 1 + (l.length : Int) = a + ((l.length + 1 : Nat) : Int) by push_cast; omega]
    split <;> simp
theorem posS_app : ∀ (l r : List Int), posS (l ++ r) = posS l + posS r
  | [], r => by simp [posS]
  | x :: l, r => by rw [List.cons_append, posS, posS, posS_app l r]; omega
theorem takeI {l : List Int} {i : Nat} (h : i < l.length) : l.take (i + 1) = l.take i ++ [l.getD i 0] := takeT h
theorem posA_take {l : List Int} {i : Nat} (h : i < l.length) : posA (l.take (i + 1)) 0 = posA (l.take i) 0 ++ (if 0 < l.getD i 0 then [(i : Int)] else []) := by
  rw [takeI h, posA_app, List.length_take, Nat.min_eq_left (by omega)]
  simp only [posA, Int.zero_add]
theorem posS_take {l : List Int} {i : Nat} (h : i < l.length) : posS (l.take (i + 1)) = posS (l.take i) + (if 0 < l.getD i 0 then l.getD i 0 else 0) := by
  rw [takeI h, posS_app]
  simp only [posS]; omega
theorem posA_mem : ∀ (l : List Int) (a s : Int), s ∈ posA l a ↔ ∃ k : Nat, k < l.length ∧ s = a + k ∧ 0 < l.getD k 0
  | [], a, s => by simp [posA]
  | x :: l, a, s => by
    have ih := posA_mem l (a + 1) s
    have key : s ∈ posA l (a + 1) ↔ ∃ k : Nat, k + 1 < (x :: l).length ∧ s = a + (k + 1 : Nat) ∧ 0 < (x :: l).getD (k + 1) 0 := by
      rw [ih]
      constructor
      · rintro ⟨k, h1, h2, h3⟩; exact ⟨k, by simpa using h1, by omega, by simpa using h3⟩
      · rintro ⟨k, h1, h2, h3⟩; exact ⟨k, by simpa using h1, by omega, by simpa using h3⟩
    rw [posA]
    constructor
    · intro h
      by_cases hx : 0 < x
      · rw [if_pos hx] at h
        rcases List.mem_cons.1 h with h | h
        · exact ⟨0, by simp, by omega, by simpa using hx⟩
        · obtain ⟨k, h1, h2, h3⟩ := key.1 h; exact ⟨k + 1, h1, h2, h3⟩
      · rw [if_neg hx] at h
        obtain ⟨k, h1, h2, h3⟩ := key.1 h; exact ⟨k + 1, h1, h2, h3⟩
    · rintro ⟨k, h1, h2, h3⟩
      cases k with
      | zero =>
        rw [List.getD_cons_zero] at h3
        rw [if_pos h3]; simp; left; omega
      | succ k =>
        have := key.2 ⟨k, h1, h2, h3⟩
        split
        · exact List.mem_cons_of_mem _ this
        · exact this
theorem posA_nodup : ∀ (l : List Int) (a : Int), (posA l a).Nodup
  | [], a => by simp [posA]
  | x :: l, a => by
    have ih := posA_nodup l (a + 1)
    rw [posA]
    split
    · rw [List.nodup_cons]
      refine ⟨fun h => ?_, ih⟩
      obtain ⟨k, h1, h2, h3⟩ := (posA_mem _ _ _).1 h
      omega
    · exact ih
theorem posA_len : ∀ (l : List Int) (a : Int), (posA l a).length ≤ l.length
  | [], a => by simp [posA]
  | x :: l, a => by
    have ih := posA_len l (a + 1)
    rw [posA]
    split
    · simp; omega
    · simp; omega
/-! One more for each of some symbols -/
def inc1 (o : List Int) (i : Int) : List Int := o.set i.toNat (o.getD i.toNat 0 + 1)
def incO (o l : List Int) : List Int := l.foldl inc1 o
theorem incO_len (l : List Int) : ∀ o, (incO o l).length = o.length := by
  induction l with
  | nil => intro o; rfl
  | cons x l ih => intro o; show (incO (inc1 o x) l).length = _; rw [ih, inc1, List.length_set]
theorem incO_take {o l : List Int} {j : Nat} (h : j < l.length) : incO o (l.take (j + 1)) = inc1 (incO o (l.take j)) (l.getD j 0) := by
  rw [takeI h, incO, List.foldl_append]; rfl
theorem setG (l : List Int) (i k : Nat) (v : Int) : (l.set i v).getD k 0 = if i = k ∧ k < l.length then v else l.getD k 0 := by
  rw [List.getD_eq_getElem?_getD, List.getElem?_set, List.getD_eq_getElem?_getD]
  by_cases h : i = k
  · subst h
    by_cases h2 : i < l.length
    · simp [h2]
    · simp [h2]
  · simp [h]
theorem incO_out : ∀ (l o : List Int) (k : Nat), (∀ i ∈ l, i.toNat ≠ k) → (incO o l).getD k 0 = o.getD k 0
  | [], o, k, _ => rfl
  | x :: l, o, k, h => by
    show (incO (inc1 o x) l).getD k 0 = _
    rw [incO_out l _ k fun i hi => h i (by simp [hi]), inc1, setG, if_neg (fun hh => h x (by simp) hh.1)]
theorem incO_in : ∀ (l o : List Int) (k : Nat), l.Nodup → (∀ i ∈ l, 0 ≤ i) → k < o.length → (k : Int) ∈ l → (incO o l).getD k 0 = o.getD k 0 + 1
  | [], o, k, _, _, _, h => by simp at h
  | x :: l, o, k, hn, h0, hk, h => by
    rw [List.nodup_cons] at hn
    show (incO (inc1 o x) l).getD k 0 = _
    by_cases e : x = k
    · rw [incO_out l _ k (fun i hi he => hn.1 (by have := h0 i (by simp [hi]); rw [e, show (k : Int) = i by omega]; exact hi)), inc1, setG, if_pos ⟨by omega, hk⟩, e, Int.toNat_natCast]
    · have hm : (k : Int) ∈ l := by
        rcases List.mem_cons.1 h with h | h
        · exact absurd h.symm e
        · exact h
      have h0x := h0 x (by simp)
      rw [incO_in l _ k hn.2 (fun i hi => h0 i (by simp [hi])) (by rw [inc1, List.length_set]; exact hk) hm, inc1, setG, if_neg (by omega)]
/-! Forests -/
structure NdOk (o : List Int) (x : Nd) : Prop where
  c1 : fb x.h ≤ x.c
  d1 : x.h = 0 ∨ fb (x.h - 1) ≤ x.d
  d0 : 0 ≤ x.d
  ln : x.h + 1 ≤ x.l.length
  mem : ∀ i ∈ x.l, 0 ≤ i ∧ i < o.length ∧ 0 ≤ o.getD i.toNat 0 ∧ o.getD i.toNat 0 ≤ x.h
  kr : krF o x.l = 2 ^ 64
def symsN (ns : List Nd) : List Int := ns.flatMap fun x => x.l
def sumN : List Nd → Int
  | [] => 0
  | x :: r => x.c + sumN r
structure Forest (cs o : List Int) (ns : List Nd) : Prop where
  ol : o.length = cs.length
  pm : (symsN ns).Perm (posA cs 0)
  nd : ∀ x ∈ ns, NdOk o x
  dd : ∀ x ∈ ns, ∀ y ∈ ns, x.d ≤ y.c
  zr : ∀ k : Nat, ¬ 0 < cs.getD k 0 → o.getD k 0 = 0
  sm : sumN ns = posS cs
theorem symsN_perm {a b : List Nd} (h : a.Perm b) : (symsN a).Perm (symsN b) := h.flatMap_right _
theorem sumN_perm {a b : List Nd} (h : a.Perm b) : sumN a = sumN b := by
  induction h with
  | nil => rfl
  | cons x _ ih => rw [sumN, sumN, ih]
  | swap x y l => rw [sumN, sumN, sumN, sumN]; omega
  | trans _ _ h1 h2 => rw [h1, h2]
theorem Forest.perm {cs o : List Int} {a b : List Nd} (f : Forest cs o a) (h : a.Perm b) : Forest cs o b :=
  ⟨f.ol, (symsN_perm h).symm.trans f.pm, fun x hx => f.nd x (h.mem_iff.2 hx), fun x hx y hy => f.dd x (h.mem_iff.2 hx) y (h.mem_iff.2 hy), f.zr, by rw [← sumN_perm h]; exact f.sm⟩
/-- The two nodes that come first become one. -/
theorem Forest.join {cs o : List Int} {x y : Nd} {r : List Nd} (f : Forest cs o (x :: y :: r)) (hl : cs.length ≤ 60) (hx : ∀ u ∈ y :: r, x.c ≤ u.c) (hy : ∀ u ∈ r, y.c ≤ u.c) (z : Nd) (hzc : z.c = x.c + y.c) (hzl : z.l = x.l ++ y.l) (hzh : z.h = max x.h y.h + 1) (hzd : z.d = y.c) : Forest cs (incO o z.l) (r ++ [z]) := by
  have okx := f.nd x (by simp)
  have oky := f.nd y (by simp)
  have hxy := hx y (by simp)
  have hnd : (symsN (x :: y :: r)).Nodup := f.pm.symm.nodup (posA_nodup cs 0)
  have e1 : symsN (x :: y :: r) = x.l ++ (y.l ++ symsN r) := by simp [symsN]
  rw [e1] at hnd
  have hndz : z.l.Nodup := by
    rw [hzl]; rw [← List.append_assoc] at hnd
    exact (List.nodup_append.1 hnd).1
  have hdis : ∀ i ∈ z.l, ∀ u ∈ r, i ∉ u.l := fun i hi u hu hiu => by
    rw [← List.append_assoc, ← hzl] at hnd
    exact (List.nodup_append.1 hnd).2.2 i hi i (List.mem_flatMap.2 ⟨u, hu, hiu⟩) rfl
  have hmz : ∀ i ∈ z.l, 0 ≤ i ∧ i < o.length ∧ 0 ≤ o.getD i.toNat 0 ∧ o.getD i.toNat 0 ≤ max x.h y.h := fun i hi => by
    rw [hzl] at hi
    rcases List.mem_append.1 hi with h | h
    · have := okx.mem i h; omega
    · have := oky.mem i h; omega
  have hlen : z.l.length ≤ 60 := by
    have h1 := f.pm.length_eq
    rw [e1] at h1
    have h2 := posA_len cs 0
    rw [hzl]
    simp only [List.length_append] at h1 ⊢
    omega
  have hub : max x.h y.h + 2 ≤ z.l.length := by
    have := okx.ln; have := oky.ln
    rw [hzl, List.length_append]; omega
  have hin : ∀ i ∈ z.l, (incO o z.l).getD i.toNat 0 = o.getD i.toNat 0 + 1 := fun i hi => by
    have := hmz i hi
    exact incO_in _ _ _ hndz (fun j hj => (hmz j hj).1) (by omega) (by rw [Int.toNat_of_nonneg (by omega)]; exact hi)
  have hout : ∀ k : Nat, (k : Int) ∉ z.l → (incO o z.l).getD k 0 = o.getD k 0 := fun k hk =>
    incO_out _ _ _ fun i hi e => hk (by have := hmz i hi; rw [show (k : Int) = i by omega]; exact hi)
  have hbx := fb_pos x.h
  have hby := fb_pos y.h
  have hc1x := okx.c1
  have hc1y := oky.c1
  have hdxy := f.dd x (by simp) y (by simp)
  have hdyx := f.dd y (by simp) x (by simp)
  have hz : NdOk (incO o z.l) z := by
    refine ⟨?_, ?_, by rw [hzd]; omega, by rw [hzh]; omega, fun i hi => ?_, ?_⟩
    · rw [hzh, hzc]
      by_cases hh : y.h ≤ x.h
      · rw [show max x.h y.h = x.h by omega]
        rcases okx.d1 with h0 | h0
        · rw [h0]; show (2 : Int) ≤ _; omega
        · by_cases hx0 : x.h = 0
          · rw [hx0]; show (2 : Int) ≤ _; omega
          · rw [show x.h + 1 = (x.h - 1) + 2 by omega, fb, show x.h - 1 + 1 = x.h by omega]; omega
      · rw [show max x.h y.h = y.h by omega]
        rcases oky.d1 with h0 | h0
        · rw [h0]; show (2 : Int) ≤ _; omega
        · by_cases hy0 : y.h = 0
          · rw [hy0]; show (2 : Int) ≤ _; omega
          · rw [show y.h + 1 = (y.h - 1) + 2 by omega, fb, show y.h - 1 + 1 = y.h by omega]; omega
    · right
      rw [hzh, hzd, show max x.h y.h + 1 - 1 = max x.h y.h by omega]
      by_cases hh : y.h ≤ x.h
      · rw [show max x.h y.h = x.h by omega]; omega
      · rw [show max x.h y.h = y.h by omega]; omega
    · have := hmz i hi
      rw [hin i hi, incO_len, hzh]
      omega
    · have h2 := krF_up (o := o) (o' := incO o z.l) z.l fun i hi => ⟨hin i hi, (hmz i hi).2.2.1, by have := (hmz i hi).2.2.2; omega⟩
      have e4 : krF o z.l = 2 ^ 64 + 2 ^ 64 := by rw [hzl, krF_app, okx.kr, oky.kr]
      omega
  refine ⟨by rw [incO_len]; exact f.ol, ?_, ?_, ?_, ?_, ?_⟩
  · refine List.Perm.trans ?_ f.pm
    have e2 : symsN (r ++ [z]) = symsN r ++ (x.l ++ y.l) := by simp [symsN, hzl]
    rw [e1, e2, ← List.append_assoc x.l]
    exact List.perm_append_comm
  · intro u hu
    rcases List.mem_append.1 hu with hu | hu
    · have ok := f.nd u (by simp [hu])
      have hs : ∀ i ∈ u.l, (incO o z.l).getD i.toNat 0 = o.getD i.toNat 0 := fun i hi => by
        have := ok.mem i hi
        exact hout _ (by rw [Int.toNat_of_nonneg (by omega)]; exact fun hh => hdis i hh u hu hi)
      refine ⟨ok.c1, ok.d1, ok.d0, ok.ln, fun i hi => ?_, ?_⟩
      · rw [hs i hi, incO_len]; exact ok.mem i hi
      · rw [krF_same u.l hs]; exact ok.kr
    · rw [List.mem_singleton.1 hu]; exact hz
  · intro u hu v hv
    rcases List.mem_append.1 hu with hu | hu
    · rcases List.mem_append.1 hv with hv | hv
      · exact f.dd u (by simp [hu]) v (by simp [hv])
      · rw [List.mem_singleton.1 hv, hzc]
        have := f.dd u (by simp [hu]) x (by simp)
        omega
    · rw [List.mem_singleton.1 hu, hzd]
      rcases List.mem_append.1 hv with hv | hv
      · exact hy v hv
      · rw [List.mem_singleton.1 hv, hzc]; omega
  · intro k hk
    rw [hout k, f.zr k hk]
    intro hh
    have : (k : Int) ∈ posA cs 0 := f.pm.mem_iff.1 (by rw [e1, ← List.append_assoc, ← hzl]; exact List.mem_append_left _ hh)
    obtain ⟨j, h1, h2, h3⟩ := (posA_mem _ _ _).1 this
    obtain rfl : k = j := by omega
    exact hk h3
  · have h1 := f.sm
    rw [sumN, sumN] at h1
    have e3 : sumN (r ++ [z]) = sumN r + z.c := by
      have := sumN_perm (List.perm_append_comm (l₁ := r) (l₂ := [z]))
      rw [this]; show z.c + sumN r = _; omega
    rw [e3, hzc]; omega
/-- The leaves. -/
structure LfOk (n : Nat) (x : Nd) : Prop where
  h : x.h = 0
  d : x.d = 0
  c : 1 ≤ x.c
  l : ∃ i : Int, x.l = [i] ∧ 0 ≤ i ∧ i < n
theorem Forest.init {cs : List Int} {ns : List Nd} (hp : symsN ns = posA cs 0) (hl : ∀ x ∈ ns, LfOk cs.length x) (hs : sumN ns = posS cs) : Forest cs (List.replicate cs.length 0) ns := by
  have h0 : ∀ k : Nat, (List.replicate cs.length (0 : Int)).getD k 0 = 0 := fun k => by
    rw [List.getD_eq_getElem?_getD, List.getElem?_replicate]; split <;> rfl
  refine ⟨List.length_replicate .., by rw [hp], fun x hx => ?_, fun x hx y hy => ?_, fun k _ => h0 k, hs⟩
  · obtain ⟨a, b, c, i, e, i0, i1⟩ := hl x hx
    refine ⟨by rw [a]; show (1 : Int) ≤ _; exact c, .inl a, by rw [b]; exact Int.le_refl _, by rw [a, e]; exact Nat.le_refl _, fun j hj => ?_, ?_⟩
    · rw [e, List.mem_singleton] at hj
      rw [h0, hj, List.length_replicate, a]
      exact ⟨i0, i1, Int.le_refl _, Int.le_refl _⟩
    · rw [e]
      show 2 ^ (64 - ((List.replicate cs.length (0 : Int)).getD i.toNat 0).toNat) + (0 : Int) = _
      rw [h0]; rfl
  · have := (hl x hx).d; have := (hl y hy).c; omega
/-- What the depths of counts are. -/
structure DepOk (cs o : List Int) : Prop where
  ol : o.length = cs.length
  zr : ∀ k : Nat, ¬ 0 < cs.getD k 0 → o.getD k 0 = 0
  kr : krF o (posA cs 0) = 2 ^ 64
  bd : ∃ h : Nat, fb h ≤ posS cs ∧ ∀ k : Nat, 0 ≤ o.getD k 0 ∧ o.getD k 0 ≤ h
theorem Forest.one {cs o : List Int} {x : Nd} (f : Forest cs o [x]) : DepOk cs o := by
  have ok := f.nd x (by simp)
  have e : symsN [x] = x.l := by simp [symsN]
  have hpm := f.pm
  rw [e] at hpm
  have hs := f.sm
  simp only [sumN, Int.add_zero] at hs
  refine ⟨f.ol, f.zr, by rw [← krF_perm o hpm]; exact ok.kr, x.h, by rw [← hs]; exact ok.c1, fun k => ?_⟩
  by_cases hk : 0 < cs.getD k 0
  · have hkl : k < cs.length := by
      apply Classical.byContradiction
      intro hh
      rw [List.getD_eq_getElem?_getD, List.getElem?_eq_none (by omega)] at hk
      simp at hk
    have hm : (k : Int) ∈ x.l := hpm.mem_iff.2 ((posA_mem _ _ _).2 ⟨k, hkl, by omega, hk⟩)
    have := ok.mem _ hm
    rw [Int.toNat_natCast] at this
    omega
  · rw [f.zr k hk]; omega
end Go.Proofs.Ytckljanplahbkaa
