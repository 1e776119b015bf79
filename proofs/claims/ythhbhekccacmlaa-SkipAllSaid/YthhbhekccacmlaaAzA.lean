/-
  An abstract memory: values whose pointers, slices, maps and functions name blocks by small numbers of the call's own; what such a value is in the model's memory under a placing of these numbers; when an abstract memory describes the model's. Conditions: stated at each theorem.
-/
import Derived.Test.YthhbhekccacmlaaMem
namespace Go.Az
open Go Go.Chz

/-- Where a numbered block lies: its number in the model's memory, the first cell known of it, and how many elements a slice that fills it may have. -/
structure Place where
  b : Nat
  o : Nat
  cap : Nat

inductive AV where
  | v (x : Value)
  | ptr (i o : Nat)
  | sl (i o n c : Nat) (u : Bool)
  | mp (i : Nat)
  | yld (i : Nat)
  | fn (f : Fn) (cs : List AV)
  | ifc (t : TypeId) (x : AV)
  | agg (cs : List AV)
  | tup (cs : List AV)

mutual
def AV.real (ρ : Nat → Place) : AV → Value
  | .v x => x
  | .ptr i o => .pointer (some ⟨(ρ i).b, (ρ i).o + o, none⟩)
  | .sl i o n c u => .slice (some ⟨(ρ i).b, (ρ i).o + o, none⟩) n (if u then (ρ i).cap - c else c)
  | .mp i => .map (some (ρ i).b)
  | .yld i => .func (.yield (ρ i).b) #[] #[]
  | .fn f cs => .func f #[] (AV.reals ρ cs).toArray
  | .ifc t x => .iface t (x.real ρ)
  | .agg cs => .agg (AV.reals ρ cs).toArray
  | .tup cs => .tuple (AV.reals ρ cs).toArray
def AV.reals (ρ : Nat → Place) : List AV → List Value
  | [] => []
  | a :: r => a.real ρ :: AV.reals ρ r
end
mutual
/-- It names numbers below n alone. -/
def AV.sc (n : Nat) : AV → Bool
  | .v _ => true
  | .ptr i _ => Nat.blt i n
  | .sl i _ _ _ _ => Nat.blt i n
  | .mp i => Nat.blt i n
  | .yld i => Nat.blt i n
  | .fn _ cs => AV.scs n cs
  | .ifc _ x => x.sc n
  | .agg cs => AV.scs n cs
  | .tup cs => AV.scs n cs
def AV.scs (n : Nat) : List AV → Bool
  | [] => true
  | a :: r => a.sc n && AV.scs n r
end
mutual
/-- The numbers turned. -/
def AV.ren (σ : Nat → Nat) : AV → AV
  | .v x => .v x
  | .ptr i o => .ptr (σ i) o
  | .sl i o n c u => .sl (σ i) o n c u
  | .mp i => .mp (σ i)
  | .yld i => .yld (σ i)
  | .fn f cs => .fn f (AV.rens σ cs)
  | .ifc t x => .ifc t (x.ren σ)
  | .agg cs => .agg (AV.rens σ cs)
  | .tup cs => .tup (AV.rens σ cs)
def AV.rens (σ : Nat → Nat) : List AV → List AV
  | [] => []
  | a :: r => a.ren σ :: AV.rens σ r
end
/-- It lies in one cell. -/
def AV.one : AV → Bool
  | .v x => x.oneCell'
  | .agg _ => false
  | .tup _ => false
  | _ => true

theorem reals_eq (ρ : Nat → Place) : ∀ l : List AV, AV.reals ρ l = l.map (AV.real ρ)
  | [] => rfl
  | a :: r => by rw [AV.reals, reals_eq ρ r]; rfl
theorem rens_eq (σ : Nat → Nat) : ∀ l : List AV, AV.rens σ l = l.map (AV.ren σ)
  | [] => rfl
  | a :: r => by rw [AV.rens, rens_eq σ r]; rfl
theorem scs_iff (n : Nat) : ∀ l : List AV, AV.scs n l = true ↔ ∀ a ∈ l, a.sc n = true
  | [] => by simp [AV.scs]
  | a :: r => by simp [AV.scs, scs_iff n r]

mutual
theorem real_ren (ρ : Nat → Place) (σ : Nat → Nat) : ∀ a : AV, (a.ren σ).real ρ = a.real (fun i => ρ (σ i))
  | .v _ | .ptr _ _ | .sl _ _ _ _ _ | .mp _ | .yld _ => rfl
  | .fn f cs => by simp only [AV.ren, AV.real, reals_rens ρ σ cs]
  | .ifc t x => by simp only [AV.ren, AV.real, real_ren ρ σ x]
  | .agg cs => by simp only [AV.ren, AV.real, reals_rens ρ σ cs]
  | .tup cs => by simp only [AV.ren, AV.real, reals_rens ρ σ cs]
theorem reals_rens (ρ : Nat → Place) (σ : Nat → Nat) : ∀ l : List AV, AV.reals ρ (AV.rens σ l) = AV.reals (fun i => ρ (σ i)) l
  | [] => rfl
  | a :: r => by simp only [AV.rens, AV.reals, real_ren ρ σ a, reals_rens ρ σ r]
end
mutual
theorem real_agree {ρ ρ' : Nat → Place} {n : Nat} (h : ∀ i, i < n → ρ' i = ρ i) : ∀ a : AV, a.sc n = true → a.real ρ' = a.real ρ
  | .v _, _ => rfl
  | .ptr i _, hs => by simp only [AV.sc, Nat.blt_eq] at hs; simp only [AV.real, h i hs]
  | .sl i _ _ _ _, hs => by simp only [AV.sc, Nat.blt_eq] at hs; simp only [AV.real, h i hs]
  | .mp i, hs => by simp only [AV.sc, Nat.blt_eq] at hs; simp only [AV.real, h i hs]
  | .yld i, hs => by simp only [AV.sc, Nat.blt_eq] at hs; simp only [AV.real, h i hs]
  | .fn f cs, hs => by simp only [AV.real, reals_agree h cs hs]
  | .ifc t x, hs => by simp only [AV.real, real_agree h x hs]
  | .agg cs, hs => by simp only [AV.real, reals_agree h cs hs]
  | .tup cs, hs => by simp only [AV.real, reals_agree h cs hs]
theorem reals_agree {ρ ρ' : Nat → Place} {n : Nat} (h : ∀ i, i < n → ρ' i = ρ i) : ∀ l : List AV, AV.scs n l = true → AV.reals ρ' l = AV.reals ρ l
  | [], _ => rfl
  | a :: r, hs => by
    simp only [AV.scs, Bool.and_eq_true] at hs
    simp only [AV.reals, real_agree h a hs.1, reals_agree h r hs.2]
end
mutual
theorem sc_mono {n m : Nat} (h : n ≤ m) : ∀ a : AV, a.sc n = true → a.sc m = true
  | .v _, _ => rfl
  | .ptr i _, hs => by simp only [AV.sc, Nat.blt_eq] at hs ⊢; omega
  | .sl i _ _ _ _, hs => by simp only [AV.sc, Nat.blt_eq] at hs ⊢; omega
  | .mp i, hs => by simp only [AV.sc, Nat.blt_eq] at hs ⊢; omega
  | .yld i, hs => by simp only [AV.sc, Nat.blt_eq] at hs ⊢; omega
  | .fn f cs, hs => scs_mono h cs hs
  | .ifc t x, hs => sc_mono h x hs
  | .agg cs, hs => scs_mono h cs hs
  | .tup cs, hs => scs_mono h cs hs
theorem scs_mono {n m : Nat} (h : n ≤ m) : ∀ l : List AV, AV.scs n l = true → AV.scs m l = true
  | [], _ => rfl
  | a :: r, hs => by
    simp only [AV.scs, Bool.and_eq_true] at hs ⊢
    exact ⟨sc_mono h a hs.1, scs_mono h r hs.2⟩
end
mutual
theorem sc_ren {n m : Nat} {σ : Nat → Nat} (h : ∀ i, i < n → σ i < m) : ∀ a : AV, a.sc n = true → (a.ren σ).sc m = true
  | .v _, _ => rfl
  | .ptr i _, hs => by simp only [AV.ren, AV.sc, Nat.blt_eq] at hs ⊢; exact h i hs
  | .sl i _ _ _ _, hs => by simp only [AV.ren, AV.sc, Nat.blt_eq] at hs ⊢; exact h i hs
  | .mp i, hs => by simp only [AV.ren, AV.sc, Nat.blt_eq] at hs ⊢; exact h i hs
  | .yld i, hs => by simp only [AV.ren, AV.sc, Nat.blt_eq] at hs ⊢; exact h i hs
  | .fn f cs, hs => scs_ren h cs hs
  | .ifc t x, hs => sc_ren h x hs
  | .agg cs, hs => scs_ren h cs hs
  | .tup cs, hs => scs_ren h cs hs
theorem scs_ren {n m : Nat} {σ : Nat → Nat} (h : ∀ i, i < n → σ i < m) : ∀ l : List AV, AV.scs n l = true → AV.scs m (AV.rens σ l) = true
  | [], _ => rfl
  | a :: r, hs => by
    simp only [AV.rens, AV.scs, Bool.and_eq_true] at hs ⊢
    exact ⟨sc_ren h a hs.1, scs_ren h r hs.2⟩
end
theorem one_real (ρ : Nat → Place) : ∀ a : AV, a.one = true → (a.real ρ).oneCell' = true
  | .v _, h => h
  | .ptr _ _, _ | .sl _ _ _ _ _, _ | .mp _, _ | .yld _, _ | .fn _ _, _ | .ifc _ _, _ => rfl

/-! ### Abstract memory -/
inductive AObj where
  | gone
  /-- cells from the block's known place on; 'own': the block is the call's own, its first cells -/
  | cells (cs : List AV) (t : TypeId) (own : Bool)
  | map (es : List (Value × AV × Nat)) (clock : Nat)
  | loop (st : LoopState) (pe : Option Code) (tm : List AV) (ps : Array Tmp) (asg bd : Code) (d : Nat)
  | dfr

abbrev Hp := List AObj
structure Fr where
  t : List AV
  ds : List Nat := []

def mapReal (ρ : Nat → Place) (es : List (Value × AV × Nat)) : List MapEntry := es.map fun e => { key := e.1, val := e.2.1.real ρ, born := e.2.2 }
/-- The call's own. -/
def AObj.own : AObj → Bool
  | .gone => false
  | .cells _ _ o => o
  | _ => true
def AObj.live : AObj → Bool
  | .gone => false
  | .cells cs _ o => o || !cs.isEmpty
  | _ => true
theorem own_live {o : AObj} (h : o.own = true) : o.live = true := by
  cases o <;> first | rfl | (cases h; done) | (simp only [AObj.own] at h; simp [AObj.live, h])
/-- It names numbers below n alone. -/
def AObj.sc (n : Nat) : AObj → Bool
  | .gone => true
  | .cells cs _ _ => AV.scs n cs
  | .map es _ => es.all fun e => e.2.1.sc n
  | .loop _ _ tm _ _ _ d => AV.scs n tm && Nat.blt d n
  | .dfr => true
def AObj.ren (σ : Nat → Nat) : AObj → AObj
  | .gone => .gone
  | .cells cs t o => .cells (AV.rens σ cs) t o
  | .map es c => .map (es.map fun e => (e.1, e.2.1.ren σ, e.2.2)) c
  | .loop st pe tm ps asg bd d => .loop st pe (AV.rens σ tm) ps asg bd (σ d)
  | .dfr => .dfr

/-- What an object is in the model's memory. -/
def ORel (P : Program) (ρ : Nat → Place) (w : World) (p : Place) : AObj → Prop
  | .gone => True
  | .cells cs t own => (∀ (j : Nat) (a : AV), cs[j]? = some a → w.cell? ⟨p.b, p.o + j, none⟩ = some (a.real ρ)) ∧
      (own = true → p.o = 0 ∧ ∃ cur fz, w.heap[p.b]? = some (.cells cur t fz) ∧ freeRow fz cur.size ∧ p.cap ≤ maxLen ∧ ∀ inf, P.info? t = some inf → p.cap * inf.size ≤ cur.size ∧ cs.length ≤ p.cap * inf.size)
  | .map es c => w.heap[p.b]? = some (.map (mapReal ρ es).toArray c)
  | .loop st pe tm ps asg bd d => ∃ fn, w.heap[p.b]? = some (.loop { state := st, pending := pe, fn, tmps := (AV.reals ρ tm).toArray, params := ps, assign := asg, body := bd, defers := (ρ d).b })
  | .dfr => w.heap[p.b]? = some (.deferred (some []))

structure HRel (P : Program) (ρ : Nat → Place) (h : Hp) (w : World) : Prop where
  obj : ∀ (i : Nat) (o : AObj), h[i]? = some o → ORel P ρ w (ρ i) o
  sc : ∀ (i : Nat) (o : AObj), h[i]? = some o → o.sc h.length = true
  apart : ∀ (i j : Nat) (o o' : AObj), h[i]? = some o → h[j]? = some o' → o.own = true → o'.live = true → i ≠ j → (ρ i).b ≠ (ρ j).b

/-- The step from one memory to a later one: what was there and is not among what the first owns lies as it lay; what the second owns the first owned, or it is new; the numbers below m mean what they meant. -/
structure Stp (m : Nat) (ρ : Nat → Place) (h : Hp) (w : World) (ρ' : Nat → Place) (h' : Hp) (w' : World) : Prop where
  os : w'.os = w.os
  tape : w'.tape = w.tape
  output : w'.output = w.output
  size : w.heap.size ≤ w'.heap.size
  block : ∀ b, b < w.heap.size → (∀ (i : Nat) (o : AObj), h[i]? = some o → o.own = true → (ρ i).b ≠ b) → w'.heap[b]? = w.heap[b]?
  owned : ∀ (i : Nat) (o : AObj), h'[i]? = some o → o.own = true → (∃ (j : Nat) (o' : AObj), h[j]? = some o' ∧ o'.own = true ∧ (ρ j).b = (ρ' i).b) ∨ w.heap.size ≤ (ρ' i).b
  same : ∀ i, i < m → ρ' i = ρ i

def markOf (b : Nat) : Deferred := { target := .collected b, args := #[] }
structure Rel (P : Program) (ρ : Nat → Place) (f : Fr) (h : Hp) (A : Act) (w : World) : Prop where
  tmps : A.tmps = (AV.reals ρ f.t).toArray
  tsc : AV.scs h.length f.t = true
  defers : A.defers = f.ds.map fun d => markOf (ρ d).b
  dsc : ∀ d ∈ f.ds, d < h.length
  heap : HRel P ρ h w

section
variable {P : Program} {ρ ρ' ρ'' : Nat → Place} {h h' h'' : Hp} {w w' w'' : World} {m : Nat}

theorem Stp.refl (m : Nat) (ρ : Nat → Place) (h : Hp) (w : World) : Stp m ρ h w ρ h w :=
  ⟨rfl, rfl, rfl, Nat.le_refl _, fun _ _ _ => rfl, fun i o hi ho => .inl ⟨i, o, hi, ho, rfl⟩, fun _ _ => rfl⟩
theorem Stp.trans {m' : Nat} (a : Stp m ρ h w ρ' h' w') (b : Stp m' ρ' h' w' ρ'' h'' w'') (hm : m ≤ m') : Stp m ρ h w ρ'' h'' w'' := by
  refine ⟨b.os.trans a.os, b.tape.trans a.tape, b.output.trans a.output, Nat.le_trans a.size b.size, fun k hk hno => ?_, fun i o hi ho => ?_, fun i hi => (b.same i (Nat.lt_of_lt_of_le hi hm)).trans (a.same i hi)⟩
  · rw [b.block k (Nat.lt_of_lt_of_le hk a.size) (fun i o hi ho e => ?_), a.block k hk hno]
    rcases a.owned i o hi ho with ⟨j, o', hj, ho', e'⟩ | h'
    · exact hno j o' hj ho' (e'.trans e)
    · omega
  · rcases b.owned i o hi ho with ⟨j, o', hj, ho', e⟩ | hge
    · rcases a.owned j o' hj ho' with ⟨k, o2, hk, ho2, e2⟩ | hge
      · exact .inl ⟨k, o2, hk, ho2, e2.trans e⟩
      · exact .inr (e ▸ hge)
    · exact .inr (Nat.le_trans a.size hge)
theorem Stp.less {m' : Nat} (a : Stp m ρ h w ρ' h' w') (hm : m' ≤ m) : Stp m' ρ h w ρ' h' w' :=
  ⟨a.os, a.tape, a.output, a.size, a.block, a.owned, fun i hi => a.same i (Nat.lt_of_lt_of_le hi hm)⟩
theorem Stp.drew (a : Stp m ρ h w ρ' h' w') : Stp m ρ h w ρ' h' w'.drew := ⟨a.os, a.tape, a.output, a.size, a.block, a.owned, a.same⟩

/-- The object's block is there. -/
theorem ORel.lt {p : Place} {o : AObj} (ho : o.own = true) (hr : ORel P ρ w p o) : p.b < w.heap.size := by
  cases o with
  | gone => cases ho
  | cells cs t own =>
    obtain ⟨_, cur, fz, hg, _⟩ := hr.2 ho
    exact (Array.getElem?_eq_some_iff.1 hg).1
  | map es c => exact (Array.getElem?_eq_some_iff.1 hr).1
  | loop st pe tm ps asg bd d => obtain ⟨fn, hr⟩ := hr; exact (Array.getElem?_eq_some_iff.1 hr).1
  | dfr => exact (Array.getElem?_eq_some_iff.1 hr).1

/-- An object as the blocks' contents and the placing below n give it. -/
theorem ORel.keep {n : Nat} {o : AObj} {p p' : Place} (hr : ORel P ρ w p o) (hs : o.sc n = true) (hρ : ∀ i, i < n → ρ' i = ρ i) (hp : p' = p)
    (hb : o.live = true → w'.heap[p.b]? = w.heap[p.b]?) : ORel P ρ' w' p' o := by
  subst hp
  cases o with
  | gone => trivial
  | cells cs t own =>
    refine ⟨fun j a hj => ?_, fun ho => ?_⟩
    · have hb := hb (by cases cs with | nil => simp at hj | cons x y => simp [AObj.live])
      have ha : a.sc n = true := (scs_iff n cs).1 hs a (List.mem_of_getElem? hj)
      rw [real_agree hρ a ha, ← hr.1 j a hj]
      simp only [World.cell?, hb]
    · obtain ⟨h0, cur, fz, hg, r⟩ := hr.2 ho
      exact ⟨h0, cur, fz, (hb (own_live (o := .cells cs t own) ho)).trans hg, r⟩
  | map es c =>
    have hb := hb rfl
    have e : mapReal ρ' es = mapReal ρ es := by
      unfold mapReal
      refine List.map_congr_left fun e he => ?_
      have : e.2.1.sc n = true := (List.all_eq_true.1 hs) e he
      rw [real_agree hρ _ this]
    simp only [ORel] at hr ⊢
    rw [e]
    exact hb.trans hr
  | loop st pe tm ps asg bd d =>
    have hb := hb rfl
    simp only [AObj.sc, Bool.and_eq_true, Nat.blt_eq] at hs
    simp only [ORel] at hr ⊢
    rw [reals_agree hρ tm hs.1, hρ d hs.2]
    obtain ⟨fn, hr⟩ := hr
    exact ⟨fn, hb.trans hr⟩
  | dfr => exact (hb rfl).trans hr
end
end Go.Az
