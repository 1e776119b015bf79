/-
  A part of the proof of a statement of a chapter's seat; conditions: stated at each theorem.
-/
import Derived.Test.YtgjbmhclgmpjdaaGreatQ25
set_option linter.unusedVariables false
set_option linter.unusedSectionVars false
set_option linter.unusedSimpArgs false
set_option linter.unusedVariables false
set_option maxRecDepth 100000
namespace Go.Proofs.YtgjbmhclgmpjdaaGreat
open Go.Az Go
/-! ### What was written is read -/
theorem getD_drop (l : List UInt8) (n k : Nat) : l.getD (n + k) 0 = (l.drop n).getD k 0 := by
  rw [List.getD_eq_getElem?_getD, List.getD_eq_getElem?_getD, List.getElem?_drop]
theorem at0_drop {l r : List UInt8} {x : Int} (hd : l.drop x.toNat = r) (k : Nat) : at0 l x k = (r.getD k 0).toNat := by
  rw [at0, getD_drop, hd]
theorem sub_drop {l r : List UInt8} {x n : Int} (h0 : 0 ≤ x) (h1 : 0 ≤ n) (hd : l.drop x.toNat = r) : sub l x n = r.take n.toNat := by
  rw [sub, ← hd, show (x + n).toNat = x.toNat + n.toNat by omega, List.drop_take]
  congr 1
  omega
theorem drop_more {l a r : List UInt8} {x : Int} (h0 : 0 ≤ x) (hd : l.drop x.toNat = a ++ r) : l.drop (x + a.length).toNat = r := by
  rw [show (x + (a.length : Int)).toNat = x.toNat + a.length by omega, ← List.drop_drop, hd, List.drop_left]
theorem len_drop {l r : List UInt8} {x : Int} (h0 : 0 ≤ x) (h1 : x ≤ l.length) (hd : l.drop x.toNat = r) : (l.length : Int) = x + r.length := by
  rw [← hd, List.length_drop]; omega
theorem enc3_sum {N : Int} (h0 : 0 ≤ N) (h1 : N < 16777216) (r : List UInt8) : (((enc3 N ++ r).getD 0 0).toNat : Int) + ((enc3 N ++ r).getD 1 0).toNat * 256 + ((enc3 N ++ r).getD 2 0).toNat * 65536 = N := by
  have a0 := b8_toNat N
  have a1 := b8_toNat (N / 2 ^ 8)
  have a2 := b8_toNat (N / 2 ^ 16)
  show ((b8 N).toNat : Int) + (b8 (N / 2 ^ 8)).toNat * 256 + (b8 (N / 2 ^ 16)).toNat * 65536 = N
  omega
theorem bkat_of {l r : List UInt8} {x e : Int} {b : Bk} (h0 : 0 ≤ x) (h1 : x ≤ l.length) (hb : okB b) (he : e = 0 ∨ e = 1) (hd : l.drop x.toNat = encb b e ++ r) : BkAt l x b e (x + (encb b e).length) := by
  obtain ⟨s, k, q⟩ := b
  obtain ⟨g0, g1, g2⟩ := hb
  simp only [] at g0 g1 g2
  have hlen := len_drop h0 h1 hd
  rw [List.length_append] at hlen
  have hd' := hd
  unfold encb at hd
  simp only [] at hd
  rw [List.append_assoc] at hd
  have hsum := enc3_sum (N := 8 * s + 2 * k + e) (by omega) (by omega) ((if k = 1 then q.take 1 else q) ++ r)
  have hd3 := drop_more h0 hd
  rw [enc3_len] at hd3
  refine ⟨by simp only []; omega, by simp only []; omega, g0, ?_, by omega, ?_⟩
  · rw [at0_drop hd, at0_drop hd, at0_drop hd]
    exact hsum
  · rcases g2 with rfl | ⟨rfl, g3, c, g4⟩
    · rw [if_neg (by decide)] at hd3
      refine .inl ⟨rfl, ?_, ?_⟩
      · rw [encb, List.length_append, enc3_len]; simp only []; rw [if_neg (by decide)]; omega
      · have h5 := sub_drop (x := x + 3) (n := s) (by omega) (by omega) hd3
        show q = sub l (x + 3) s
        rw [h5, show s.toNat = q.length by omega, List.take_left]
    · rw [if_pos rfl] at hd3
      have e1 : q.take 1 = [c] := by
        obtain ⟨n, hn⟩ : ∃ n, q.length = n + 1 := ⟨q.length - 1, by omega⟩
        rw [g4, hn, List.replicate_succ, List.take_succ_cons, List.take_zero]
      refine .inr ⟨rfl, ?_, ?_⟩
      · rw [encb, List.length_append, enc3_len]; simp only [if_true, e1, List.length_singleton]; omega
      · show q = List.replicate s.toNat (l.getD (x + 3).toNat 0)
        have h6 := getD_drop l (x + 3).toNat 0
        have h7 : l.drop (x + 3).toNat = c :: r := by
          have : (((3 : Nat) : Int)) = 3 := rfl
          rw [this] at hd3
          rw [hd3, e1]; rfl
        rw [Nat.add_zero, h7] at h6
        rw [h6, show s.toNat = q.length by omega]
        exact g4
theorem bks_of {l : List UInt8} {w t : List UInt8} (hw : w.length ≤ 200) : ∀ (bs : List Bk) (x : Int), 0 ≤ x → x ≤ l.length → (∀ b ∈ bs, okB b) → l.drop x.toNat = encs bs ++ encb (lastB w) 1 ++ t →
    Bks l x (bs ++ [lastB w]) (x + (encs bs ++ encb (lastB w) 1).length)
  | [], x, h0, h1, hb, hd => by
    have hd' : l.drop x.toNat = encb (lastB w) 1 ++ t := hd
    exact bkat_of h0 h1 ⟨rfl, hw, .inl rfl⟩ (.inr rfl) hd'
  | b :: r, x, h0, h1, hb, hd => by
    have hd' : l.drop x.toNat = encb b 0 ++ (encs r ++ encb (lastB w) 1 ++ t) := by
      rw [hd]; simp [encs]
    have hlen := len_drop h0 h1 hd'
    rw [List.length_append] at hlen
    have hx := bkat_of h0 h1 (hb b List.mem_cons_self) (.inl rfl) hd'
    have ih := bks_of hw r (x + (encb b 0).length) (by omega) (by omega) (fun c hc => hb c (List.mem_cons_of_mem _ hc)) (drop_more h0 hd')
    have e : x + (encs (b :: r) ++ encb (lastB w) 1).length = x + (encb b 0).length + (encs r ++ encb (lastB w) 1).length := by
      have : (encs (b :: r)).length = (encb b 0).length + (encs r).length := by
        show (encb b 0 ++ encs r).length = _
        rw [List.length_append]
      simp only [List.length_append, this, Int.natCast_add]
      omega
    rw [e]
    cases r with
    | nil => exact ⟨_, hx, ih⟩
    | cons c r => exact ⟨_, hx, ih⟩
theorem fr_of {l w t : List UInt8} {bs : List Bk} {x : Int} (h0 : 0 ≤ x) (h1 : x ≤ l.length) (hw : w.length ≤ 200) (hb : ∀ b ∈ bs, okB b) (hd : l.drop x.toNat = fra bs w ++ t) : FrAt l x (bs ++ [lastB w]) (x + (fra bs w).length) := by
  have hd' : l.drop x.toNat = hd6 ++ (encs bs ++ encb (lastB w) 1 ++ t) := by rw [hd, fra]; simp only [List.append_assoc]
  have hlen := len_drop h0 h1 hd'
  rw [List.length_append] at hlen
  have h6 : hd6.length = 6 := rfl
  have d6 := drop_more h0 hd'
  rw [h6] at d6
  have d4 : l.drop (x + 4).toNat = [0, 0] ++ (encs bs ++ encb (lastB w) 1 ++ t) := by
    have : hd6 ++ (encs bs ++ encb (lastB w) 1 ++ t) = mgc ++ ([0, 0] ++ (encs bs ++ encb (lastB w) 1 ++ t)) := rfl
    rw [this] at hd'
    exact drop_more h0 hd'
  have d5 : l.drop (x + 4 + 1).toNat = [0] ++ (encs bs ++ encb (lastB w) 1 ++ t) := by
    have : ([0, 0] : List UInt8) ++ (encs bs ++ encb (lastB w) 1 ++ t) = [0] ++ ([0] ++ (encs bs ++ encb (lastB w) 1 ++ t)) := rfl
    rw [this] at d4
    exact drop_more (by omega) d4
  refine ⟨h0, by omega, ?_, ?_, ?_, ?_⟩
  · rw [sub_drop h0 (by decide) hd']; rfl
  · rw [at0_drop d4]; rfl
  · rw [at0_drop d5]; rfl
  · have := bks_of hw bs (x + 6) (by omega) (by omega) hb d6
    rw [fra, show x + ((hd6 ++ encs bs ++ encb (lastB w) 1).length : Int) = x + 6 + (encs bs ++ encb (lastB w) 1).length by
      rw [List.append_assoc, List.length_append, h6]; omega]
    exact this
theorem fra_beg (bs : List Bk) (w t : List UInt8) : beg (fra bs w ++ t) ≠ 1 := by
  have e : fra bs w ++ t = mgc ++ ([0, 0] ++ (encs bs ++ encb (lastB w) 1 ++ t)) := by rw [fra]; simp only [List.append_assoc]; rfl
  have em : mgc = le4 4247762216 := by decide
  rw [e, bg_2 (by rw [List.length_append]; show 4 ≤ 4 + _; omega) (by rw [em]; exact num4_le4 _ (by decide) (by decide) _)]
  decide
theorem flat_last (bs : List Bk) (w : List UInt8) : flat (bs ++ [lastB w]) = flat bs ++ w := by
  rw [flat_app]; simp [flat, lastB]
/-! ### Frames and skippable frames, one behind the other -/
inductive Ck where
  | s (k : Int) (t : List UInt8)
  | f (bs : List Bk) (w : List UInt8)
def Ck.bytes : Ck → List UInt8
  | .s k t => wrt k t
  | .f bs w => fra bs w
def Ck.means : Ck → List UInt8
  | .s _ _ => []
  | .f bs w => flat bs ++ w
def Ck.ok : Ck → Prop
  | .s k t => 0 ≤ k ∧ k < 16 ∧ t.length ≤ 1048576
  | .f bs w => w.length ≤ 200 ∧ ∀ b ∈ bs, okB b
theorem runs_of {l : List UInt8} (hl : (l.length : Int) ≤ 1048576) : ∀ (cs : List Ck) (x m : Int), 0 ≤ x → x ≤ l.length → 0 ≤ m → m ≤ 1048576 → (∀ c ∈ cs, c.ok) → l.drop x.toNat = cs.flatMap Ck.bytes → ((cs.flatMap Ck.means).length : Int) ≤ m → Runs l x m (cs.flatMap Ck.means) 0 0
  | [], x, m, h0, h1, m0, m1, hc, hd, hm => by
    refine .done ?_
    have := len_drop h0 h1 hd
    simp at this
    omega
  | .s k t :: r, x, m, h0, h1, m0, m1, hc, hd, hm => by
    obtain ⟨k0, k1, ht⟩ := hc _ List.mem_cons_self
    have hd' : l.drop x.toNat = wrt k t ++ r.flatMap Ck.bytes := hd
    have hlen := len_drop h0 h1 hd'
    rw [List.length_append, wrt_len] at hlen
    have hsp : l = l.take x.toNat ++ wrt k t ++ r.flatMap Ck.bytes := by rw [List.append_assoc, ← hd', List.take_append_drop]
    have hx : x = ((l.take x.toNat).length : Int) := by rw [List.length_take]; omega
    have hn : nxt l x = ⟨k, t, 0, 0, x + (wrt k t).length⟩ := by
      have := nxt_wrt k0 k1 (t := t) (b := l.take x.toNat) (m := r.flatMap Ck.bytes) ht
      rw [← hsp, ← hx] at this
      exact this
    have hb : beg (l.drop x.toNat) = 1 := by
      rw [hd']
      exact bg_1 (by rw [List.length_append, wrt_len]; omega) (by rw [num_wrt k k0 k1]; omega)
    have hr := rd_skip (m := m) hl m0 m1 h0 h1 hb (by rw [hn])
    rw [hn] at hr
    have ih := runs_of hl r (x + (wrt k t).length) m (by omega) (by rw [wrt_len]; omega) m0 m1 (fun c h => hc c (List.mem_cons_of_mem _ h)) (drop_more h0 hd') hm
    have := Runs.step (l := l) (x := x) (m := m) (q := []) (by omega) hr (by simp only []; rw [wrt_len]; omega) (by simp only []; rw [wrt_len]; omega) (by simpa using m0) (by simpa using ih)
    exact this
  | .f bs w :: r, x, m, h0, h1, m0, m1, hc, hd, hm => by
    obtain ⟨hw, hb⟩ := hc _ List.mem_cons_self
    have hd' : l.drop x.toNat = fra bs w ++ r.flatMap Ck.bytes := hd
    have hlen := len_drop h0 h1 hd'
    rw [List.length_append] at hlen
    have h6 : 6 ≤ (fra bs w).length := by rw [fra]; simp only [List.length_append, List.length_cons]; omega
    have hf := fr_of h0 h1 hw hb hd'
    have hm' : (flat bs ++ w).length + ((r.flatMap Ck.means).length : Int) ≤ m := by
      have : ((Ck.f bs w :: r).flatMap Ck.means) = (flat bs ++ w) ++ r.flatMap Ck.means := rfl
      rw [this, List.length_append] at hm
      omega
    have hr := rd_ok hl m0 m1 hf (by rw [hd']; exact fra_beg bs w _) (by rw [flat_last]; omega)
    rw [flat_last] at hr
    have ih := runs_of hl r (x + (fra bs w).length) (m - (flat bs ++ w).length) (by omega) (by omega) (by omega) (by omega) (fun c h => hc c (List.mem_cons_of_mem _ h)) (drop_more h0 hd') (by omega)
    exact Runs.step (q := flat bs ++ w) (r := r.flatMap Ck.means) (by omega) hr (by omega) (by omega) (by omega) ih
end Go.Proofs.YtgjbmhclgmpjdaaGreat
