/-
  An abstract memory: values whose pointers, slices, maps and functions name blocks by small numbers of the call's own; what such a value is in the model's memory under a placing of these numbers; when an abstract memory describes the model's. Conditions: stated at each theorem.
-/
import Derived.Test.YtgjbmhclgmpjdaaGreatMem
import Derived.Deep.MidRow
import Derived.WalkSpells
import Derived.IntWalk
import Derived.OrdersIn
set_option linter.unusedVariables false
set_option linter.unusedSectionVars false
namespace Go.Az
open Go Go.Chz

/-- Where a numbered block lies: its number in the model's memory, the first cell known of it, and how many elements a slice that fills it may have. -/
structure Place where
  b : Nat
  o : Nat
  cap : Nat

inductive AV where
  | v (x : Value)
  | ptr (i o : Nat)
  | sl (i o n c : Nat) (u : Bool)
  | mp (i : Nat)
  | yld (i : Nat)
  | fn (f : Fn) (cs : List AV)
  | ifc (t : TypeId) (x : AV)
  | agg (cs : List AV)
  | tup (cs : List AV)

mutual
def AV.real (ρ : Nat → Place) : AV → Value
  | .v x => x
  | .ptr i o => .pointer (some ⟨(ρ i).b, (ρ i).o + o, none⟩)
  | .sl i o n c u => .slice (some ⟨(ρ i).b, (ρ i).o + o, none⟩) n (if u then (ρ i).cap - c else c)
  | .mp i => .map (some (ρ i).b)
  | .yld i => .func (.yield (ρ i).b) #[] #[]
  | .fn f cs => .func f #[] (AV.reals ρ cs).toArray
  | .ifc t x => .iface t (x.real ρ)
  | .agg cs => .agg (AV.reals ρ cs).toArray
  | .tup cs => .tuple (AV.reals ρ cs).toArray
def AV.reals (ρ : Nat → Place) : List AV → List Value
  | [] => []
  | a :: r => a.real ρ :: AV.reals ρ r
end
mutual
/-- It names numbers below n alone. -/
def AV.sc (n : Nat) : AV → Bool
  | .v _ => true
  | .ptr i _ => Nat.blt i n
  | .sl i _ _ _ _ => Nat.blt i n
  | .mp i => Nat.blt i n
  | .yld i => Nat.blt i n
  | .fn _ cs => AV.scs n cs
  | .ifc _ x => x.sc n
  | .agg cs => AV.scs n cs
  | .tup cs => AV.scs n cs
def AV.scs (n : Nat) : List AV → Bool
  | [] => true
  | a :: r => a.sc n && AV.scs n r
end
mutual
/-- The numbers turned. -/
def AV.ren (σ : Nat → Nat) : AV → AV
  | .v x => .v x
  | .ptr i o => .ptr (σ i) o
  | .sl i o n c u => .sl (σ i) o n c u
  | .mp i => .mp (σ i)
  | .yld i => .yld (σ i)
  | .fn f cs => .fn f (AV.rens σ cs)
  | .ifc t x => .ifc t (x.ren σ)
  | .agg cs => .agg (AV.rens σ cs)
  | .tup cs => .tup (AV.rens σ cs)
def AV.rens (σ : Nat → Nat) : List AV → List AV
  | [] => []
  | a :: r => a.ren σ :: AV.rens σ r
end
/-- It lies in one cell. -/
def AV.one : AV → Bool
  | .v x => x.oneCell'
  | .agg _ => false
  | .tup _ => false
  | _ => true

theorem reals_eq (ρ : Nat → Place) : ∀ l : List AV, AV.reals ρ l = l.map (AV.real ρ)
  | [] => rfl
  | a :: r => by rw [AV.reals, reals_eq ρ r]; rfl
theorem rens_eq (σ : Nat → Nat) : ∀ l : List AV, AV.rens σ l = l.map (AV.ren σ)
  | [] => rfl
  | a :: r => by rw [AV.rens, rens_eq σ r]; rfl
theorem scs_iff (n : Nat) : ∀ l : List AV, AV.scs n l = true ↔ ∀ a ∈ l, a.sc n = true
  | [] => by simp [AV.scs]
  | a :: r => by simp [AV.scs, scs_iff n r]

mutual
theorem real_ren (ρ : Nat → Place) (σ : Nat → Nat) : ∀ a : AV, (a.ren σ).real ρ = a.real (fun i => ρ (σ i))
  | .v _ | .ptr _ _ | .sl _ _ _ _ _ | .mp _ | .yld _ => rfl
  | .fn f cs => by simp only [AV.ren, AV.real, reals_rens ρ σ cs]
  | .ifc t x => by simp only [AV.ren, AV.real, real_ren ρ σ x]
  | .agg cs => by simp only [AV.ren, AV.real, reals_rens ρ σ cs]
  | .tup cs => by simp only [AV.ren, AV.real, reals_rens ρ σ cs]
theorem reals_rens (ρ : Nat → Place) (σ : Nat → Nat) : ∀ l : List AV, AV.reals ρ (AV.rens σ l) = AV.reals (fun i => ρ (σ i)) l
  | [] => rfl
  | a :: r => by simp only [AV.rens, AV.reals, real_ren ρ σ a, reals_rens ρ σ r]
end
mutual
theorem real_agree {ρ ρ' : Nat → Place} {n : Nat} (h : ∀ i, i < n → ρ' i = ρ i) : ∀ a : AV, a.sc n = true → a.real ρ' = a.real ρ
  | .v _, _ => rfl
  | .ptr i _, hs => by simp only [AV.sc, Nat.blt_eq] at hs; simp only [AV.real, h i hs]
  | .sl i _ _ _ _, hs => by simp only [AV.sc, Nat.blt_eq] at hs; simp only [AV.real, h i hs]
  | .mp i, hs => by simp only [AV.sc, Nat.blt_eq] at hs; simp only [AV.real, h i hs]
  | .yld i, hs => by simp only [AV.sc, Nat.blt_eq] at hs; simp only [AV.real, h i hs]
  | .fn f cs, hs => by simp only [AV.real, reals_agree h cs hs]
  | .ifc t x, hs => by simp only [AV.real, real_agree h x hs]
  | .agg cs, hs => by simp only [AV.real, reals_agree h cs hs]
  | .tup cs, hs => by simp only [AV.real, reals_agree h cs hs]
theorem reals_agree {ρ ρ' : Nat → Place} {n : Nat} (h : ∀ i, i < n → ρ' i = ρ i) : ∀ l : List AV, AV.scs n l = true → AV.reals ρ' l = AV.reals ρ l
  | [], _ => rfl
  | a :: r, hs => by
    simp only [AV.scs, Bool.and_eq_true] at hs
    simp only [AV.reals, real_agree h a hs.1, reals_agree h r hs.2]
end
mutual
theorem sc_mono {n m : Nat} (h : n ≤ m) : ∀ a : AV, a.sc n = true → a.sc m = true
  | .v _, _ => rfl
  | .ptr i _, hs => by simp only [AV.sc, Nat.blt_eq] at hs ⊢; omega
  | .sl i _ _ _ _, hs => by simp only [AV.sc, Nat.blt_eq] at hs ⊢; omega
  | .mp i, hs => by simp only [AV.sc, Nat.blt_eq] at hs ⊢; omega
  | .yld i, hs => by simp only [AV.sc, Nat.blt_eq] at hs ⊢; omega
  | .fn f cs, hs => scs_mono h cs hs
  | .ifc t x, hs => sc_mono h x hs
  | .agg cs, hs => scs_mono h cs hs
  | .tup cs, hs => scs_mono h cs hs
theorem scs_mono {n m : Nat} (h : n ≤ m) : ∀ l : List AV, AV.scs n l = true → AV.scs m l = true
  | [], _ => rfl
  | a :: r, hs => by
    simp only [AV.scs, Bool.and_eq_true] at hs ⊢
    exact ⟨sc_mono h a hs.1, scs_mono h r hs.2⟩
end
mutual
theorem sc_ren {n m : Nat} {σ : Nat → Nat} (h : ∀ i, i < n → σ i < m) : ∀ a : AV, a.sc n = true → (a.ren σ).sc m = true
  | .v _, _ => rfl
  | .ptr i _, hs => by simp only [AV.ren, AV.sc, Nat.blt_eq] at hs ⊢; exact h i hs
  | .sl i _ _ _ _, hs => by simp only [AV.ren, AV.sc, Nat.blt_eq] at hs ⊢; exact h i hs
  | .mp i, hs => by simp only [AV.ren, AV.sc, Nat.blt_eq] at hs ⊢; exact h i hs
  | .yld i, hs => by simp only [AV.ren, AV.sc, Nat.blt_eq] at hs ⊢; exact h i hs
  | .fn f cs, hs => scs_ren h cs hs
  | .ifc t x, hs => sc_ren h x hs
  | .agg cs, hs => scs_ren h cs hs
  | .tup cs, hs => scs_ren h cs hs
theorem scs_ren {n m : Nat} {σ : Nat → Nat} (h : ∀ i, i < n → σ i < m) : ∀ l : List AV, AV.scs n l = true → AV.scs m (AV.rens σ l) = true
  | [], _ => rfl
  | a :: r, hs => by
    simp only [AV.rens, AV.scs, Bool.and_eq_true] at hs ⊢
    exact ⟨sc_ren h a hs.1, scs_ren h r hs.2⟩
end
theorem one_real (ρ : Nat → Place) : ∀ a : AV, a.one = true → (a.real ρ).oneCell' = true
  | .v _, h => h
  | .ptr _ _, _ | .sl _ _ _ _ _, _ | .mp _, _ | .yld _, _ | .fn _ _, _ | .ifc _ _, _ => rfl

/-! ### Abstract memory -/
inductive AObj where
  | gone
  /-- cells from the block's known place on; 'own': the block is the call's own, its first cells -/
  | cells (cs : List AV) (t : TypeId) (own : Bool)
  | map (es : List (Value × AV × Nat)) (clock : Nat)
  | loop (st : LoopState) (pe : Option Code) (tm : List AV) (ps : Array Tmp) (asg bd : Code) (d : Nat)
  | dfr

abbrev Hp := List AObj
/-- What is deferred: the mark of a loop, or a call of a closure. -/
inductive Dq where
  | m (d : Nat)
  | f (g : FuncId) (cs : List AV)
def Dq.sc (n : Nat) : Dq → Bool
  | .m d => Nat.blt d n
  | .f _ cs => AV.scs n cs
structure Fr where
  t : List AV
  ds : List Dq := []

def mapReal (ρ : Nat → Place) (es : List (Value × AV × Nat)) : List MapEntry := es.map fun e => { key := e.1, val := e.2.1.real ρ, born := e.2.2 }
/-- The call's own. -/
def AObj.own : AObj → Bool
  | .gone => false
  | .cells _ _ o => o
  | _ => true
def AObj.live : AObj → Bool
  | .gone => false
  | .cells cs _ o => o || !cs.isEmpty
  | _ => true
theorem own_live {o : AObj} (h : o.own = true) : o.live = true := by
  cases o <;> first | rfl | (cases h; done) | (simp only [AObj.own] at h; simp [AObj.live, h])
/-- It names numbers below n alone. -/
def AObj.sc (n : Nat) : AObj → Bool
  | .gone => true
  | .cells cs _ _ => AV.scs n cs
  | .map es _ => es.all fun e => e.2.1.sc n
  | .loop _ _ tm _ _ _ d => AV.scs n tm && Nat.blt d n
  | .dfr => true
def AObj.ren (σ : Nat → Nat) : AObj → AObj
  | .gone => .gone
  | .cells cs t o => .cells (AV.rens σ cs) t o
  | .map es c => .map (es.map fun e => (e.1, e.2.1.ren σ, e.2.2)) c
  | .loop st pe tm ps asg bd d => .loop st pe (AV.rens σ tm) ps asg bd (σ d)
  | .dfr => .dfr

/-- What an object is in the model's memory. -/
def ORel (P : Program) (ρ : Nat → Place) (w : World) (p : Place) : AObj → Prop
  | .gone => True
  | .cells cs t own => (∀ (j : Nat) (a : AV), cs[j]? = some a → w.cell? ⟨p.b, p.o + j, none⟩ = some (a.real ρ)) ∧
      (own = true → p.o = 0 ∧ ∃ cur fz, w.heap[p.b]? = some (.cells cur t fz) ∧ freeRow fz cur.size ∧ p.cap ≤ maxLen ∧ ∀ inf, P.info? t = some inf → p.cap * inf.size ≤ cur.size ∧ cs.length ≤ p.cap * inf.size)
  | .map es c => w.heap[p.b]? = some (.map (mapReal ρ es).toArray c)
  | .loop st pe tm ps asg bd d => ∃ fn, w.heap[p.b]? = some (.loop { state := st, pending := pe, fn, tmps := (AV.reals ρ tm).toArray, params := ps, assign := asg, body := bd, defers := (ρ d).b })
  | .dfr => w.heap[p.b]? = some (.deferred (some []))

structure HRel (P : Program) (ρ : Nat → Place) (h : Hp) (w : World) : Prop where
  obj : ∀ (i : Nat) (o : AObj), h[i]? = some o → ORel P ρ w (ρ i) o
  sc : ∀ (i : Nat) (o : AObj), h[i]? = some o → o.sc h.length = true
  apart : ∀ (i j : Nat) (o o' : AObj), h[i]? = some o → h[j]? = some o' → o.own = true → o'.live = true → i ≠ j → (ρ i).b ≠ (ρ j).b

/-- The step from one memory to a later one: what was there and is not among what the first owns lies as it lay; what the second owns the first owned, or it is new; the numbers below m mean what they meant. -/
structure Stp (m : Nat) (ρ : Nat → Place) (h : Hp) (w : World) (ρ' : Nat → Place) (h' : Hp) (w' : World) : Prop where
  os : w'.os = w.os
  tape : w'.tape = w.tape
  output : w'.output = w.output
  size : w.heap.size ≤ w'.heap.size
  block : ∀ b, b < w.heap.size → (∀ (i : Nat) (o : AObj), h[i]? = some o → o.own = true → (ρ i).b ≠ b) → w'.heap[b]? = w.heap[b]?
  owned : ∀ (i : Nat) (o : AObj), h'[i]? = some o → o.own = true → (∃ (j : Nat) (o' : AObj), h[j]? = some o' ∧ o'.own = true ∧ (ρ j).b = (ρ' i).b) ∨ w.heap.size ≤ (ρ' i).b
  same : ∀ i, i < m → ρ' i = ρ i

def markOf (b : Nat) : Deferred := { target := .collected b, args := #[] }
def Dq.real (ρ : Nat → Place) : Dq → Deferred
  | .m d => markOf (ρ d).b
  | .f g cs => { target := .fn (.func g) (AV.reals ρ cs).toArray, args := #[] }
theorem Dq.agree {ρ ρ' : Nat → Place} {n : Nat} (h : ∀ i, i < n → ρ' i = ρ i) : ∀ d : Dq, d.sc n = true → d.real ρ' = d.real ρ
  | .m d, hs => by
    simp only [Dq.sc, Nat.blt_eq] at hs
    simp only [Dq.real, h d hs]
  | .f g cs, hs => by simp only [Dq.real, reals_agree h cs hs]
theorem Dq.mono {n m : Nat} (h : n ≤ m) : ∀ d : Dq, d.sc n = true → d.sc m = true
  | .m d, hs => by simp only [Dq.sc, Nat.blt_eq] at hs ⊢; omega
  | .f g cs, hs => scs_mono h cs hs
structure Rel (P : Program) (ρ : Nat → Place) (f : Fr) (h : Hp) (A : Act) (w : World) : Prop where
  tmps : A.tmps = (AV.reals ρ f.t).toArray
  tsc : AV.scs h.length f.t = true
  defers : A.defers = f.ds.map (Dq.real ρ)
  dsc : ∀ d ∈ f.ds, d.sc h.length = true
  heap : HRel P ρ h w

section
variable {P : Program} {ρ ρ' ρ'' : Nat → Place} {h h' h'' : Hp} {w w' w'' : World} {m : Nat}

theorem Stp.refl (m : Nat) (ρ : Nat → Place) (h : Hp) (w : World) : Stp m ρ h w ρ h w :=
  ⟨rfl, rfl, rfl, Nat.le_refl _, fun _ _ _ => rfl, fun i o hi ho => .inl ⟨i, o, hi, ho, rfl⟩, fun _ _ => rfl⟩
theorem Stp.trans {m' : Nat} (a : Stp m ρ h w ρ' h' w') (b : Stp m' ρ' h' w' ρ'' h'' w'') (hm : m ≤ m') : Stp m ρ h w ρ'' h'' w'' := by
  refine ⟨b.os.trans a.os, b.tape.trans a.tape, b.output.trans a.output, Nat.le_trans a.size b.size, fun k hk hno => ?_, fun i o hi ho => ?_, fun i hi => (b.same i (Nat.lt_of_lt_of_le hi hm)).trans (a.same i hi)⟩
  · rw [b.block k (Nat.lt_of_lt_of_le hk a.size) (fun i o hi ho e => ?_), a.block k hk hno]
    rcases a.owned i o hi ho with ⟨j, o', hj, ho', e'⟩ | h'
    · exact hno j o' hj ho' (e'.trans e)
    · omega
  · rcases b.owned i o hi ho with ⟨j, o', hj, ho', e⟩ | hge
    · rcases a.owned j o' hj ho' with ⟨k, o2, hk, ho2, e2⟩ | hge
      · exact .inl ⟨k, o2, hk, ho2, e2.trans e⟩
      · exact .inr (e ▸ hge)
    · exact .inr (Nat.le_trans a.size hge)
theorem Stp.less {m' : Nat} (a : Stp m ρ h w ρ' h' w') (hm : m' ≤ m) : Stp m' ρ h w ρ' h' w' :=
  ⟨a.os, a.tape, a.output, a.size, a.block, a.owned, fun i hi => a.same i (Nat.lt_of_lt_of_le hi hm)⟩
theorem Stp.drew (a : Stp m ρ h w ρ' h' w') : Stp m ρ h w ρ' h' w'.drew := ⟨a.os, a.tape, a.output, a.size, a.block, a.owned, a.same⟩

/-- The object's block is there. -/
theorem ORel.lt {p : Place} {o : AObj} (ho : o.own = true) (hr : ORel P ρ w p o) : p.b < w.heap.size := by
  cases o with
  | gone => cases ho
  | cells cs t own =>
    obtain ⟨_, cur, fz, hg, _⟩ := hr.2 ho
    exact (Array.getElem?_eq_some_iff.1 hg).1
  | map es c => exact (Array.getElem?_eq_some_iff.1 hr).1
  | loop st pe tm ps asg bd d => obtain ⟨fn, hr⟩ := hr; exact (Array.getElem?_eq_some_iff.1 hr).1
  | dfr => exact (Array.getElem?_eq_some_iff.1 hr).1

/-- An object as the blocks' contents and the placing below n give it. -/
theorem ORel.keep {n : Nat} {o : AObj} {p p' : Place} (hr : ORel P ρ w p o) (hs : o.sc n = true) (hρ : ∀ i, i < n → ρ' i = ρ i) (hp : p' = p)
    (hb : o.live = true → w'.heap[p.b]? = w.heap[p.b]?) : ORel P ρ' w' p' o := by
  subst hp
  cases o with
  | gone => trivial
  | cells cs t own =>
    refine ⟨fun j a hj => ?_, fun ho => ?_⟩
    · have hb := hb (by cases cs with | nil => simp at hj | cons x y => simp [AObj.live])
      have ha : a.sc n = true := (scs_iff n cs).1 hs a (List.mem_of_getElem? hj)
      rw [real_agree hρ a ha, ← hr.1 j a hj]
      simp only [World.cell?, hb]
    · obtain ⟨h0, cur, fz, hg, r⟩ := hr.2 ho
      exact ⟨h0, cur, fz, (hb (own_live (o := .cells cs t own) ho)).trans hg, r⟩
  | map es c =>
    have hb := hb rfl
    have e : mapReal ρ' es = mapReal ρ es := by
      unfold mapReal
      refine List.map_congr_left fun e he => ?_
      have : e.2.1.sc n = true := (List.all_eq_true.1 hs) e he
      rw [real_agree hρ _ this]
    simp only [ORel] at hr ⊢
    rw [e]
    exact hb.trans hr
  | loop st pe tm ps asg bd d =>
    have hb := hb rfl
    simp only [AObj.sc, Bool.and_eq_true, Nat.blt_eq] at hs
    simp only [ORel] at hr ⊢
    rw [reals_agree hρ tm hs.1, hρ d hs.2]
    obtain ⟨fn, hr⟩ := hr
    exact ⟨fn, hb.trans hr⟩
  | dfr => exact (hb rfl).trans hr
end
end Go.Az
/-
  Steps of an abstract memory beside the model's: a world that changed elsewhere, a new block, a block of the call's own that was written, a block forgotten, slots and numbers turned. Conditions: stated at each theorem.
-/
namespace Go.Az
open Go Go.Chz

def upd (ρ : Nat → Place) (n : Nat) (p : Place) : Nat → Place := fun i => if i = n then p else ρ i
theorem upd_same (ρ : Nat → Place) (n : Nat) (p : Place) : upd ρ n p n = p := if_pos rfl
theorem upd_ne (ρ : Nat → Place) {n i : Nat} (p : Place) (h : i ≠ n) : upd ρ n p i = ρ i := if_neg h
theorem upd_lt (ρ : Nat → Place) {n : Nat} (p : Place) : ∀ i, i < n → upd ρ n p i = ρ i := fun _ h => upd_ne ρ p (Nat.ne_of_lt h)

section
variable {P : Program} {ρ ρ' : Nat → Place} {h h' : Hp} {w w' : World}

theorem HRel.lt (H : HRel P ρ h w) {i : Nat} {o : AObj} (hi : h[i]? = some o) (ho : o.own = true) : (ρ i).b < w.heap.size := ORel.lt ho (H.obj i o hi)

theorem AObj.sc_mono {n m : Nat} (hnm : n ≤ m) {o : AObj} (h : o.sc n = true) : o.sc m = true := by
  cases o with
  | gone => rfl
  | dfr => rfl
  | cells cs t own => exact scs_mono hnm cs h
  | map es c =>
    simp only [AObj.sc, List.all_eq_true] at h ⊢
    exact fun e he => Go.Az.sc_mono hnm _ (h e he)
  | loop st pe tm ps asg bd d =>
    simp only [AObj.sc, Bool.and_eq_true, Nat.blt_eq] at h ⊢
    exact ⟨scs_mono hnm tm h.1, by omega⟩

/-- A cell that is read keeps where its block does. -/
theorem ORel.keepG {n : Nat} {o : AObj} {p p' : Place} (hr : ORel P ρ w p o) (hs : o.sc n = true) (hρ : ∀ i, i < n → ρ' i = ρ i) (hp : p' = p)
    (hb : o.live = true → p.b < w.heap.size → w'.heap[p.b]? = w.heap[p.b]?) : ORel P ρ' w' p' o := by
  by_cases hlt : p.b < w.heap.size
  · exact hr.keep hs hρ hp fun hl => hb hl hlt
  · cases o with
    | gone => trivial
    | cells cs t own =>
      refine ⟨fun j a hj => ?_, fun ho => absurd (ORel.lt (o := .cells cs t own) ho hr) hlt⟩
      exact absurd (World.block_lt_of_cell? w ⟨p.b, p.o + j, none⟩ (hr.1 j a hj)) hlt
    | map es c => exact absurd (ORel.lt rfl hr) hlt
    | loop st pe tm ps asg bd d => exact absurd (ORel.lt rfl hr) hlt
    | dfr => exact absurd (ORel.lt rfl hr) hlt

/-- A world that lies as it lay at what is named. -/
theorem HRel.other (H : HRel P ρ h w) (hb : ∀ (i : Nat) (o : AObj), h[i]? = some o → o.live = true → (ρ i).b < w.heap.size → w'.heap[(ρ i).b]? = w.heap[(ρ i).b]?) : HRel P ρ h w' :=
  ⟨fun i o hi => (H.obj i o hi).keepG (H.sc i o hi) (fun _ _ => rfl) rfl (hb i o hi), H.sc, H.apart⟩
theorem HRel.drew (H : HRel P ρ h w) : HRel P ρ h w.drew := H.other fun _ _ _ _ _ => rfl
theorem HRel.agree (H : HRel P ρ h w) (hρ : ∀ i, i < h.length → ρ' i = ρ i) : HRel P ρ' h w := by
  have hl : ∀ (i : Nat) (o : AObj), h[i]? = some o → i < h.length := fun i o hi => (List.getElem?_eq_some_iff.1 hi).1
  refine ⟨fun i o hi => (H.obj i o hi).keep (H.sc i o hi) hρ (hρ i (hl i o hi)) fun _ => rfl, H.sc, fun i j o o' hi hj ho ho' hne => ?_⟩
  rw [hρ i (hl i o hi), hρ j (hl j o' hj)]
  exact H.apart i j o o' hi hj ho ho' hne

/-- A step's world: what is named and not owned lies as it lay. -/
theorem HRel.stp_other {m : Nat} (H : HRel P ρ h w) {ρ0 : Nat → Place} {h0 : Hp} {ρ1 : Nat → Place} {h1 : Hp} (S : Stp m ρ0 h0 w ρ1 h1 w')
    (hn : ∀ (i : Nat) (o : AObj), h[i]? = some o → o.live = true → ∀ (j : Nat) (o' : AObj), h0[j]? = some o' → o'.own = true → (ρ0 j).b ≠ (ρ i).b) : HRel P ρ h w' :=
  H.other fun i o hi hl hlt => S.block _ hlt (hn i o hi hl)

/-- A new object behind the others. -/
theorem HRel.push (H : HRel P ρ h w) {o : AObj} {p : Place} (ho : ORel P (upd ρ h.length p) w p o) (hs : o.sc (h.length + 1) = true)
    (hd : o.live = true → ∀ (j : Nat) (o' : AObj), h[j]? = some o' → o'.live = true → (o.own = true ∨ o'.own = true) → (ρ j).b ≠ p.b) : HRel P (upd ρ h.length p) (h ++ [o]) w := by
  have hl : ∀ (i : Nat) (o : AObj), h[i]? = some o → i < h.length := fun i o hi => (List.getElem?_eq_some_iff.1 hi).1
  have hsplit : ∀ (i : Nat) (x : AObj), (h ++ [o])[i]? = some x → (h[i]? = some x ∧ i < h.length) ∨ (i = h.length ∧ x = o) := by
    intro i x hi
    by_cases h1 : i < h.length
    · rw [List.getElem?_append_left h1] at hi; exact .inl ⟨hi, h1⟩
    · rw [List.getElem?_append_right (by omega)] at hi
      have : i - h.length = 0 := by
        rcases Nat.eq_zero_or_pos (i - h.length) with h0 | h0
        · exact h0
        · rw [List.getElem?_eq_none (by simp; omega)] at hi; cases hi
      rw [this] at hi
      simp at hi
      exact .inr ⟨by omega, hi.symm⟩
  refine ⟨fun i x hi => ?_, fun i x hi => ?_, fun i j x y hi hj hx hy hne => ?_⟩
  · rcases hsplit i x hi with ⟨h1, h2⟩ | ⟨rfl, rfl⟩
    · exact (H.obj i x h1).keep (H.sc i x h1) (upd_lt ρ p) (upd_lt ρ p i h2) fun _ => rfl
    · rw [upd_same]; exact ho
  · rw [List.length_append]
    rcases hsplit i x hi with ⟨h1, h2⟩ | ⟨rfl, rfl⟩
    · exact AObj.sc_mono (by simp) (H.sc i x h1)
    · exact hs
  · rcases hsplit i x hi with ⟨h1, h2⟩ | ⟨rfl, rfl⟩ <;> rcases hsplit j y hj with ⟨h3, h4⟩ | ⟨rfl, rfl⟩
    · rw [upd_lt ρ p i h2, upd_lt ρ p j h4]; exact H.apart i j x y h1 h3 hx hy hne
    · rw [upd_lt ρ p i h2, upd_same]
      exact hd hy i x h1 (own_live hx) (.inr hx)
    · rw [upd_lt ρ p j h4, upd_same]
      exact (hd (own_live hx) j y h3 hy (.inl hx)).symm
    · exact absurd rfl hne

/-- One object turned, where its block alone was written. -/
theorem HRel.set (H : HRel P ρ h w) {i : Nat} {x o : AObj} (hi : h[i]? = some x) (hx : x.own = true) (ho : ORel P ρ w' (ρ i) o) (hs : o.sc h.length = true)
    (hb : ∀ b, b ≠ (ρ i).b → b < w.heap.size → w'.heap[b]? = w.heap[b]?) : HRel P ρ (h.set i o) w' := by
  have hl : i < h.length := (List.getElem?_eq_some_iff.1 hi).1
  have hsplit : ∀ (j : Nat) (y : AObj), (h.set i o)[j]? = some y → (j = i ∧ y = o) ∨ (j ≠ i ∧ h[j]? = some y) := by
    intro j y hj
    by_cases e : j = i
    · subst e; rw [List.getElem?_set_self hl] at hj; exact .inl ⟨rfl, by simpa using hj.symm⟩
    · rw [List.getElem?_set_ne (Ne.symm e)] at hj; exact .inr ⟨e, hj⟩
  refine ⟨fun j y hj => ?_, fun j y hj => ?_, fun j k y z hj hk hy hz hne => ?_⟩
  · rcases hsplit j y hj with ⟨rfl, rfl⟩ | ⟨e, hj'⟩
    · exact ho
    · refine (H.obj j y hj').keepG (H.sc j y hj') (fun _ _ => rfl) rfl fun hlv hlt => hb _ ?_ hlt
      exact (H.apart i j x y hi hj' hx hlv (Ne.symm e)).symm
  · rw [List.length_set]
    rcases hsplit j y hj with ⟨rfl, rfl⟩ | ⟨e, hj'⟩
    · exact hs
    · exact H.sc j y hj'
  · rcases hsplit j y hj with ⟨rfl, rfl⟩ | ⟨e, hj'⟩ <;> rcases hsplit k z hk with ⟨rfl, rfl⟩ | ⟨e2, hk'⟩
    · exact absurd rfl hne
    · exact H.apart _ k x z hi hk' hx hz hne
    · refine fun he => H.apart k j x y hi hj' hx (own_live hy) (Ne.symm hne) he.symm
    · exact H.apart j k y z hj' hk' hy hz hne

/-- An object forgotten. -/
theorem HRel.drop (H : HRel P ρ h w) (i : Nat) : HRel P ρ (h.set i .gone) w := by
  have hsplit : ∀ (j : Nat) (y : AObj), (h.set i .gone)[j]? = some y → y = .gone ∨ (h[j]? = some y) := by
    intro j y hj
    by_cases e : j = i
    · subst e
      by_cases hl : j < h.length
      · rw [List.getElem?_set_self hl] at hj; exact .inl (by simpa using hj.symm)
      · rw [List.getElem?_eq_none (by simp; omega)] at hj; cases hj
    · rw [List.getElem?_set_ne (Ne.symm e)] at hj; exact .inr hj
  refine ⟨fun j y hj => ?_, fun j y hj => ?_, fun j k y z hj hk hy hz hne => ?_⟩
  · rcases hsplit j y hj with rfl | hj'
    · trivial
    · exact H.obj j y hj'
  · rw [List.length_set]
    rcases hsplit j y hj with rfl | hj'
    · rfl
    · exact H.sc j y hj'
  · rcases hsplit j y hj with rfl | hj'
    · cases hy
    · rcases hsplit k z hk with rfl | hk'
      · cases hz
      · exact H.apart j k y z hj' hk' hy hz hne

/-- The first numbers alone. -/
theorem HRel.take (H : HRel P ρ h w) (n : Nat) (hs : ∀ o ∈ h.take n, o.sc n = true) : HRel P ρ (h.take n) w := by
  have hsplit : ∀ (j : Nat) (y : AObj), (h.take n)[j]? = some y → h[j]? = some y ∧ j < n := by
    intro j y hj
    rw [List.getElem?_take] at hj
    split at hj
    · exact ⟨hj, by assumption⟩
    · cases hj
  refine ⟨fun j y hj => H.obj j y (hsplit j y hj).1, fun j y hj => ?_, fun j k y z hj hk hy hz hne => H.apart j k y z (hsplit j y hj).1 (hsplit k z hk).1 hy hz hne⟩
  by_cases hl : n ≤ h.length
  · rw [List.length_take, Nat.min_eq_left hl]; exact hs y (List.mem_of_getElem? hj)
  · rw [List.take_of_length_le (by omega)] at hj ⊢; exact H.sc j y hj

/-! ### Steps -/
theorem Stp.of_other (m : Nat) (hos : w'.os = w.os) (htp : w'.tape = w.tape) (hou : w'.output = w.output) (hsz : w.heap.size ≤ w'.heap.size) (hb : ∀ b, b < w.heap.size → w'.heap[b]? = w.heap[b]?) : Stp m ρ h w ρ h w' :=
  ⟨hos, htp, hou, hsz, fun b hlt _ => hb b hlt, fun i o hi ho => .inl ⟨i, o, hi, ho, rfl⟩, fun _ _ => rfl⟩
/-- A new object in a new block, or in none of the call's own. -/
theorem Stp.push {o : AObj} {p : Place} (hos : w'.os = w.os) (htp : w'.tape = w.tape) (hou : w'.output = w.output) (hsz : w.heap.size ≤ w'.heap.size) (hb : ∀ b, b < w.heap.size → w'.heap[b]? = w.heap[b]?) (hp : o.own = true → w.heap.size ≤ p.b) :
    Stp h.length ρ h w (upd ρ h.length p) (h ++ [o]) w' := by
  refine ⟨hos, htp, hou, hsz, fun b hlt _ => hb b hlt, fun i x hi hx => ?_, upd_lt ρ p⟩
  by_cases h1 : i < h.length
  · rw [List.getElem?_append_left h1] at hi; exact .inl ⟨i, x, hi, hx, by rw [upd_lt ρ p i h1]⟩
  · rw [List.getElem?_append_right (by omega)] at hi
    have : i - h.length = 0 := by
      rcases Nat.eq_zero_or_pos (i - h.length) with h0 | h0
      · exact h0
      · rw [List.getElem?_eq_none (by simp; omega)] at hi; cases hi
    rw [this] at hi
    simp at hi
    obtain rfl : i = h.length := by omega
    rw [upd_same]
    exact .inr (hp (hi ▸ hx))
theorem Stp.set (m : Nat) {i : Nat} {x o : AObj} (hi : h[i]? = some x) (hx : x.own = true) (hos : w'.os = w.os) (htp : w'.tape = w.tape) (hou : w'.output = w.output) (hsz : w.heap.size ≤ w'.heap.size)
    (hb : ∀ b, b ≠ (ρ i).b → b < w.heap.size → w'.heap[b]? = w.heap[b]?) : Stp m ρ h w ρ (h.set i o) w' := by
  refine ⟨hos, htp, hou, hsz, fun b hlt hno => hb b (fun e => hno i x hi hx e.symm) hlt, fun j y hj hy => ?_, fun _ _ => rfl⟩
  by_cases e : j = i
  · subst e; exact .inl ⟨j, x, hi, hx, rfl⟩
  · rw [List.getElem?_set_ne (Ne.symm e)] at hj; exact .inl ⟨j, y, hj, hy, rfl⟩
theorem Stp.drop (m : Nat) (i : Nat) : Stp m ρ h w ρ (h.set i .gone) w := by
  refine ⟨rfl, rfl, rfl, Nat.le_refl _, fun _ _ _ => rfl, fun j y hj hy => ?_, fun _ _ => rfl⟩
  by_cases e : j = i
  · subst e
    by_cases hl : j < h.length
    · rw [List.getElem?_set_self hl] at hj; injection hj with hj; subst hj; cases hy
    · rw [List.getElem?_eq_none (by simp; omega)] at hj; cases hj
  · rw [List.getElem?_set_ne (Ne.symm e)] at hj; exact .inl ⟨j, y, hj, hy, rfl⟩
theorem Stp.take (m n : Nat) : Stp m ρ h w ρ (h.take n) w := by
  refine ⟨rfl, rfl, rfl, Nat.le_refl _, fun _ _ _ => rfl, fun j y hj hy => ?_, fun _ _ => rfl⟩
  rw [List.getElem?_take] at hj
  split at hj
  · exact .inl ⟨j, y, hj, hy, rfl⟩
  · cases hj
theorem Stp.drewR (m : Nat) : Stp m ρ h w ρ h w.drew := (Stp.refl m ρ h w).drew
end
end Go.Az
/-
  Operations that only reckon or read, on abstract values, and that the model does the same. Conditions: stated at each theorem.
-/
set_option linter.unusedSimpArgs false
set_option linter.unusedVariables false
namespace Go.Az
open Go Go.Chz

/-! ### The types' table -/
structure TI where
  d : TypeDesc
  size : Nat
  bytes : Nat
  zc : List Value
def aggD : TypeDesc → Bool
  | .struct _ => true
  | .array _ _ => true
  | _ => false
def allOneV : List Value → Bool
  | [] => true
  | v :: r => match v with
    | .agg _ => false
    | .tuple _ => false
    | _ => allOneV r
theorem allOneV_spec : ∀ {l : List Value}, allOneV l = true → ∀ v ∈ l, v.oneCell' = true
  | [], _, v, hv => by cases hv
  | x :: r, h, v, hv => by
    have hx : x.oneCell' = true ∧ allOneV r = true := by cases x <;> first | exact ⟨rfl, h⟩ | cases h
    rcases List.mem_cons.1 hv with rfl | hv
    · exact hx.1
    · exact allOneV_spec hx.2 v hv
def tab (P : Program) (t : TypeId) : Option TI :=
  match P.info? t, P.underlying t with
  | some inf, some d =>
    match inf.zero with
    | some (.agg cs) => match aggD d && Nat.beq cs.toList.length inf.size && allOneV cs.toList with
      | true => some ⟨d, inf.size, inf.bytes, cs.toList⟩
      | false => none
    | some z => match !aggD d && Nat.beq inf.size 1 && allOneV [z] with
      | true => some ⟨d, 1, inf.bytes, [z]⟩
      | false => none
    | none => none
  | _, _ => none
theorem tab_spec {P : Program} {t : TypeId} {x : TI} (h : tab P t = some x) :
    P.underlying t = some x.d ∧ ∃ inf z, P.info? t = some inf ∧ inf.size = x.size ∧ inf.bytes = x.bytes ∧ inf.zero = some z ∧ z.cells = x.zc.toArray ∧ x.zc.length = x.size ∧ (∀ v ∈ x.zc, v.oneCell' = true) ∧
      (aggD x.d = true → z = .agg x.zc.toArray) ∧ (aggD x.d = false → x.size = 1 ∧ x.zc = [z]) := by
  unfold tab at h
  split at h
  · rename_i inf d hi hu
    split at h
    · rename_i cs hz
      split at h
      · rename_i hc
        simp only [Bool.and_eq_true, Nat.beq_eq] at hc
        obtain ⟨⟨hc1, hc2⟩, hc3⟩ := hc
        injection h with h
        subst h
        refine ⟨hu, inf, .agg cs, hi, rfl, rfl, hz, by simp [Value.cells], hc2, allOneV_spec hc3, fun _ => by simp, fun hf => by simp only at hf; rw [hc1] at hf; cases hf⟩
      · cases h
    · rename_i z hz hne
      split at h
      · rename_i hc
        simp only [Bool.and_eq_true, Nat.beq_eq, Bool.not_eq_true'] at hc
        obtain ⟨⟨hc1, hc2⟩, hc3⟩ := hc
        injection h with h
        subst h
        have h1 := allOneV_spec hc3 z (by simp)
        have hcz : z.cells = #[z] := by cases z <;> first | rfl | (simp [Value.oneCell'] at h1)
        refine ⟨hu, inf, z, hi, hc2, rfl, hne, by simpa using hcz, rfl, ?_, ?_, fun _ => ⟨rfl, rfl⟩⟩
        · intro v hv; simp at hv; subst hv; exact h1
        · intro hf; simp only at hf; rw [hc1] at hf; cases hf
      · cases h
    · cases h
  · cases h

/-! ### Operands -/
def ev (f : Fr) : Operand → AV
  | .tmp t => f.t.getD t (.v undef)
  | .const x => .v x
  | .global g => .v (.pointer (some ⟨g, 0, none⟩))
  | .func g => .fn (.func g) []
theorem getD_real (ρ : Nat → Place) (l : List AV) (t : Nat) : (AV.reals ρ l).toArray.getD t undef = (l.getD t (.v undef)).real ρ := by
  rw [reals_eq]
  by_cases h : t < l.length
  · simp [Array.getD, h]
  · simp [Array.getD, h, AV.real]
theorem ev_real {ρ : Nat → Place} {f : Fr} {A : Act} (h : A.tmps = (AV.reals ρ f.t).toArray) (x : Operand) : A.eval x = (ev f x).real ρ := by
  cases x with
  | tmp t => simp only [Act.eval, h, ev]; exact getD_real ρ f.t t
  | const x => rfl
  | global g => rfl
  | func g => rfl
theorem ev_sc {n : Nat} {f : Fr} (h : AV.scs n f.t = true) (x : Operand) : (ev f x).sc n = true := by
  cases x with
  | tmp t =>
    simp only [ev]
    by_cases ht : t < f.t.length
    · simp only [List.getD_eq_getElem?_getD, List.getElem?_eq_getElem ht, Option.getD_some]
      exact (scs_iff n f.t).1 h _ (List.getElem_mem ht)
    · simp only [List.getD_eq_getElem?_getD, List.getElem?_eq_none (Nat.le_of_not_lt ht), Option.getD_none]; rfl
  | const x => rfl
  | global g => rfl
  | func g => rfl

/-! ### Strings -/
def mkB (l : List UInt8) : ByteArray := ⟨⟨l⟩⟩
def leq : List UInt8 → List UInt8 → Bool
  | [], [] => true
  | a :: x, b :: y => Nat.beq a.toNat b.toNat && leq x y
  | _, _ => false
theorem leq_iff : ∀ a b : List UInt8, leq a b = decide (a = b)
  | [], [] => rfl
  | [], _ :: _ => rfl
  | _ :: _, [] => rfl
  | a :: x, b :: y => by
    rw [leq, leq_iff x y, Bool.eq_iff_iff]
    simp [Nat.beq_eq, UInt8.toNat_inj]
def slt : List UInt8 → List UInt8 → Bool
  | _, [] => false
  | [], _ :: _ => true
  | a :: x, b :: y => Nat.blt a.toNat b.toNat || (Nat.beq a.toNat b.toNat && slt x y)
theorem ba_toList (s : ByteArray) : s.toList = s.data.toList := ByteArray.toList_eq s

/-! ### Integers -/
def ibin (op : BinOp) (k : IntKind) (a : Int) (k' : IntKind) (b : Int) : Option AV :=
  match op with
  | .shl => if b < 0 then none else some (.v (.int k (k.wrap (a * 2 ^ (min b.toNat k.bits)))))
  | .shr => if b < 0 then none else some (.v (.int k (a.fdiv (2 ^ (min b.toNat k.bits)))))
  | .add => if k = k' then some (.v (.int k (k.wrap (a + b)))) else none
  | .sub => if k = k' then some (.v (.int k (k.wrap (a - b)))) else none
  | .mul => if k = k' then some (.v (.int k (k.wrap (a * b)))) else none
  | .quo => if k = k' then if b = 0 then none else some (.v (.int k (k.wrap (a.tdiv b)))) else none
  | .rem => if k = k' then if b = 0 then none else some (.v (.int k (a.tmod b))) else none
  | .and => if k = k' then some (.v (.int k (k.wrap (BitVec.ofInt k.bits a &&& BitVec.ofInt k.bits b).toNat))) else none
  | .or => if k = k' then some (.v (.int k (k.wrap (BitVec.ofInt k.bits a ||| BitVec.ofInt k.bits b).toNat))) else none
  | .xor => if k = k' then some (.v (.int k (k.wrap (BitVec.ofInt k.bits a ^^^ BitVec.ofInt k.bits b).toNat))) else none
  | .andNot => if k = k' then some (.v (.int k (k.wrap (BitVec.ofInt k.bits a &&& ~~~BitVec.ofInt k.bits b).toNat))) else none
  | .eql => if k = k' then some (.v (.bool (a == b))) else none
  | .neq => if k = k' then some (.v (.bool (a != b))) else none
  | .lss => if k = k' then some (.v (.bool (decide (a < b)))) else none
  | .leq => if k = k' then some (.v (.bool (decide (a ≤ b)))) else none
  | .gtr => if k = k' then some (.v (.bool (decide (a > b)))) else none
  | .geq => if k = k' then some (.v (.bool (decide (a ≥ b)))) else none
def sbin (op : BinOp) (a b : ByteArray) : Option AV :=
  match op with
  | .add => if a.data.toList.length + b.data.toList.length ≤ 9223372036854775807 then some (.v (.string (mkB (a.data.toList ++ b.data.toList)))) else none
  | .eql => some (.v (.bool (leq a.data.toList b.data.toList)))
  | .neq => some (.v (.bool (!leq a.data.toList b.data.toList)))
  | _ => none

theorem eqGuard_int (P : Program) (w : World) (op : BinOp) (t : TypeId) (x y : Operand) {a b : Value} (h : ∀ cs cs', ¬ (a = .agg cs ∧ b = .agg cs')) (h2 : ¬ (a = .nilIface ∧ b = .nilIface)) : (eqGuard op t x y a b).run P w = .ok () w := by
  unfold eqGuard
  cases op <;> first
    | rfl
    | (cases a <;> cases b <;> first
      | rfl
      | exact absurd ⟨rfl, rfl⟩ h2
      | exact absurd ⟨rfl, rfl⟩ (h _ _))

theorem run_ibin {P : Program} {w : World} {op : BinOp} {t : TypeId} {k k' : IntKind} {a b : Int} {r : AV} (ρ : Nat → Place) (h : ibin op k a k' b = some r) :
    (binOp op t (.int k a) (.int k' b)).run P w = .ok (r.real ρ) w := by
  unfold ibin at h
  cases op <;> simp only [Option.ite_none_right_eq_some, Option.ite_none_left_eq_some, Option.some.injEq] at h
  all_goals first
    | (obtain ⟨rfl, h0, rfl⟩ := h; simp only [binOp, Op.intDiv, Op.shift, AV.real, if_neg h0, ne_eq, not_true_eq_false, if_false, Sem.run_pure, ite_not]; try rfl)
    | (obtain ⟨h0, rfl⟩ := h; first | (subst h0; simp [binOp, Op.intArith, Op.intBits, Op.intCmp, AV.real]; done) | (simp only [binOp, Op.shift, if_neg h0, AV.real]; rfl))

theorem run_sbin {P : Program} {w : World} {op : BinOp} {t : TypeId} {a b : ByteArray} {r : AV} (ρ : Nat → Place) (h : sbin op a b = some r) :
    (binOp op t (.string a) (.string b)).run P w = .ok (r.real ρ) w := by
  unfold sbin at h
  cases op <;> simp only [Option.ite_none_right_eq_some, Option.some.injEq, reduceCtorEq] at h
  · obtain ⟨h0, rfl⟩ := h
    have hs : ¬ (((a.size + b.size : Nat) : Int) > IntKind.i64.max) := by
      have e : IntKind.i64.max = 9223372036854775807 := by decide
      have e1 : a.data.toList.length = a.size := by simp
      have e2 : b.data.toList.length = b.size := by simp
      omega
    simp only [binOp, Op.stringOp, if_neg hs, AV.real, Sem.run_pure]
    congr 2
  · subst h
    have e : (a.data.toList == b.data.toList) = decide (a.data.toList = b.data.toList) := by rw [Bool.eq_iff_iff]; simp
    simp only [binOp, Op.stringOp, AV.real, leq_iff, ba_toList, Sem.run_pure, e]
  · subst h
    have e : (a.data.toList == b.data.toList) = decide (a.data.toList = b.data.toList) := by rw [Bool.eq_iff_iff]; simp
    simp only [binOp, Op.stringOp, AV.real, leq_iff, ba_toList, Sem.run_pure, e]
end Go.Az
/-
  Parts of aggregates, equality of structs, loads, slices, indexes, conversions and quiet builtins, on abstract values. Conditions: stated at each theorem.
-/
set_option linter.unusedSimpArgs false
set_option linter.unusedVariables false
namespace Go.Az
open Go Go.Chz

section
variable {P : Program}
theorem run_isAgg {t : TypeId} {d : TypeDesc} (h : P.underlying t = some d) (w : World) : (isAgg t).run P w = .ok (aggD d) w := by
  unfold isAgg
  rw [Sem.run_bind, run_underlying h w]
  cases d <;> rfl
theorem run_sizeOf {t : TypeId} {inf : TypeInfo} (h : P.info? t = some inf) (w : World) : (sizeOf t).run P w = .ok inf.size w := by
  simp [sizeOf, typeInfo, h]
theorem reals_getElem? (ρ : Nat → Place) (cs : List AV) (i : Nat) : (AV.reals ρ cs)[i]? = (cs[i]?).map (AV.real ρ) := by rw [reals_eq]; simp
theorem reals_length (ρ : Nat → Place) (cs : List AV) : (AV.reals ρ cs).length = cs.length := by rw [reals_eq]; simp

def prt (P : Program) (t : TypeId) (cs : List AV) (off : Nat) : Option AV :=
  match tab P t with
  | some x => if aggD x.d = true then if off + x.size ≤ cs.length then some (.agg ((cs.drop off).take x.size)) else none else cs[off]?
  | none => none
theorem run_part {t : TypeId} {cs : List AV} {off : Nat} {r : AV} (ρ : Nat → Place) (w : World) (h : prt P t cs off = some r) :
    (part t (AV.reals ρ cs).toArray off).run P w = .ok (r.real ρ) w := by
  unfold prt at h
  split at h
  · rename_i x hx
    obtain ⟨hu, inf, z, hi, hs, _⟩ := tab_spec hx
    unfold part
    rw [Sem.run_bind, run_isAgg hu w, Result.andThen_ok]
    split at h
    · rename_i hagg
      rw [hagg]
      split at h
      · injection h with h
        subst h
        simp only [if_true, Sem.run_bind, run_sizeOf hi w, Result.andThen_ok, Sem.run_pure, AV.real]
        congr 2
        apply Array.ext'
        simp only [List.extract_toArray, reals_eq, hs]
        simp [List.extract_eq_take_drop, List.map_take, List.map_drop]
      · cases h
    · rename_i hagg
      have : aggD x.d = false := by simpa using hagg
      rw [this]
      simp only [List.getElem?_toArray, reals_getElem?, h]
      simp
  · cases h
theorem prt_sc {t : TypeId} {cs : List AV} {off n : Nat} {r : AV} (h : prt P t cs off = some r) (hs : AV.scs n cs = true) : r.sc n = true := by
  unfold prt at h
  split at h
  · split at h
    · split at h
      · injection h with h
        subst h
        refine (scs_iff n _).2 fun a ha => (scs_iff n cs).1 hs a (List.mem_of_mem_drop (List.mem_of_mem_take ha))
      · cases h
    · exact (scs_iff n cs).1 hs r (List.mem_of_getElem? h)
  · cases h

/-! ### Equality -/
def aeqF (P : Program) (eq : TypeId → AV → AV → Option Bool) (xs ys : List AV) : List Field → Option Bool
  | [] => some true
  | f :: r => if f.name = "_" then aeqF P eq xs ys r else
    match prt P f.type xs f.offset, prt P f.type ys f.offset with
    | some a, some b =>
      match eq f.type a b, aeqF P eq xs ys r with
      | some c, some c' => some (c && c')
      | _, _ => none
    | _, _ => none
def aeqA (P : Program) (eq : TypeId → AV → AV → Option Bool) (e : TypeId) (n : Nat) (xs ys : List AV) : List Nat → Option Bool
  | [] => some true
  | i :: r => match prt P e xs (i * n), prt P e ys (i * n) with
    | some a, some b =>
      match eq e a b, aeqA P eq e n xs ys r with
      | some c, some c' => some (c && c')
      | _, _ => none
    | _, _ => none
def aeq (P : Program) : Nat → TypeId → AV → AV → Option Bool
  | 0, _, _, _ => none
  | d + 1, t, x, y =>
    match P.underlying t, x, y with
    | some .bool, .v (.bool a), .v (.bool b) => some (a == b)
    | some (.int _), .v (.int k a), .v (.int k' b) => if k = k' then some (a == b) else none
    | some .string, .v (.string a), .v (.string b) => some (leq a.data.toList b.data.toList)
    | some (.struct fs), .agg xs, .agg ys => if P.stoodInHeld t = true then none else aeqF P (aeq P d) xs ys fs.toList
    | some (.array len e), .agg xs, .agg ys => match P.info? e with
      | some inf => aeqA P (aeq P d) e inf.size xs ys (List.range' 0 len)
      | none => none
    | some (.slice _), .v (.slice none _ _), .v (.slice none _ _) => some true
    | some (.slice _), .v (.slice none _ _), .sl _ _ _ _ _ => some false
    | some (.slice _), .sl _ _ _ _ _, .v (.slice none _ _) => some false
    | some (.pointer _), .v (.pointer none), .v (.pointer none) => some true
    | some (.pointer _), .ptr _ _, .v (.pointer none) => some false
    | some (.pointer _), .v (.pointer none), .ptr _ _ => some false
    | _, _, _ => none

theorem run_equalIn (ρ : Nat → Place) (w : World) : ∀ (d D : Nat) (t : TypeId) (x y : AV) (b : Bool), d ≤ D → aeq P d t x y = some b → (Op.equalIn D t (x.real ρ) (y.real ρ)).run P w = .ok b w
  | 0, _, _, _, _, _, _, h => by simp [aeq] at h
  | d + 1, 0, _, _, _, _, hD, _ => by omega
  | d + 1, D + 1, t, x, y, b, hD, h => by
    unfold aeq at h
    split at h <;> first | (cases h; done) | skip
    · rename_i hu
      injection h with h; subst h
      simp only [AV.real, Op.equalIn, Sem.run_bind, run_underlying hu w, Result.andThen_ok, Sem.run_pure]
    · rename_i hu
      simp only [Option.ite_none_right_eq_some, Option.some.injEq] at h
      obtain ⟨rfl, rfl⟩ := h
      simp only [AV.real, Op.equalIn, Sem.run_bind, run_underlying hu w, Result.andThen_ok, Sem.run_pure, if_true]
    · rename_i a b' hu
      injection h with h; subst h
      have e : (a == b') = leq a.data.toList b'.data.toList := by
        have e0 : (a == b') = (a.data == b'.data) := rfl
        rw [leq_iff, e0, Bool.eq_iff_iff]
        simp only [beq_iff_eq, decide_eq_true_eq]
        exact ⟨fun h => by rw [h], fun h => Array.ext' h⟩
      simp only [AV.real, Op.equalIn, Sem.run_bind, run_underlying hu w, Result.andThen_ok, Sem.run_pure, e]
    · rename_i fs xs ys hu
      split at h
      · cases h
      · rename_i hst
        simp only [AV.real, Op.equalIn, Sem.run_bind, run_underlying hu w, Result.andThen_ok, run_program, hst]
        have key : ∀ (l : List Field) (b : Bool), aeqF P (aeq P d) xs ys l = some b →
            (do
              let r ← forIn l ((none, ()) : Option Bool × PUnit) fun f _ => do
                if f.name ≠ "_" then
                  if !(← Op.equalIn D f.type (← part f.type (AV.reals ρ xs).toArray f.offset) (← part f.type (AV.reals ρ ys).toArray f.offset)) then
                    pure (ForInStep.done (some false, ()))
                  else pure (ForInStep.yield (none, ()))
                else pure (ForInStep.yield (none, ()))
              match r.1 with
              | some a => pure a
              | none => pure true : Sem Bool).run P w = .ok b w := by
          intro l
          induction l with
          | nil => intro b hb; simp [aeqF] at hb; subst hb; rfl
          | cons f l ih =>
            intro b hb
            simp only [aeqF] at hb
            rw [List.forIn_cons]
            split at hb
            · rename_i hn
              have := ih b hb
              simp only [hn, ne_eq, not_true_eq_false, if_false, Sem.run_bind, Sem.run_pure, Result.andThen_ok] at this ⊢
              exact this
            · rename_i hn
              split at hb
              · rename_i a a' ha ha'
                split at hb
                · rename_i c c' hc hc'
                  injection hb with hb
                  subst hb
                  have h1 := run_equalIn ρ w d D f.type a a' c (by omega) hc
                  have h2 := ih c' hc'
                  simp only [ne_eq, hn, not_false_eq_true, if_true, Sem.run_bind, run_part ρ w ha, run_part ρ w ha', Result.andThen_ok, h1]
                  cases c
                  · simp
                  · simp only [Bool.not_true, Bool.false_eq_true, if_false, Sem.run_pure, Result.andThen_ok, Bool.true_and]
                    simp only [Sem.run_bind] at h2
                    exact h2
                · cases hb
              · cases hb
        have := key fs.toList b h
        simp only [Bool.false_eq_true, if_false]
        rw [← Array.forIn_toList]
        rw [Sem.run_bind] at this ⊢
        refine Eq.trans ?_ this
        refine congr (congrArg _ ?_) ?_
        · rfl
        · funext a w'
          obtain ⟨a1, a2⟩ := a
          cases a1 <;> rfl
    · rename_i len e xs ys hu
      split at h <;> first | (cases h; done) | skip
      rename_i inf hinf
      have key : ∀ (l : List Nat) (b : Bool), aeqA P (aeq P d) e inf.size xs ys l = some b →
          (do
            let r ← forIn l ((none, ()) : Option Bool × PUnit) fun i _ => do
              if !(← Op.equalIn D e (← part e (AV.reals ρ xs).toArray (i * inf.size)) (← part e (AV.reals ρ ys).toArray (i * inf.size))) then
                pure (ForInStep.done (some false, ()))
              else pure (ForInStep.yield (none, ()))
            match r.1 with
            | some a => pure a
            | none => pure true : Sem Bool).run P w = .ok b w := by
        intro l
        induction l with
        | nil => intro b hb; simp [aeqA] at hb; subst hb; rfl
        | cons i l ih =>
          intro b hb
          simp only [aeqA] at hb
          rw [List.forIn_cons]
          split at hb
          · rename_i a a' ha ha'
            split at hb
            · rename_i c c' hc hc'
              injection hb with hb
              subst hb
              have h1 := run_equalIn ρ w d D e a a' c (by omega) hc
              have h2 := ih c' hc'
              simp only [Sem.run_bind, run_part ρ w ha, run_part ρ w ha', Result.andThen_ok, h1]
              cases c
              · simp
              · simp only [Bool.not_true, Bool.false_eq_true, if_false, Sem.run_pure, Result.andThen_ok, Bool.true_and]
                simp only [Sem.run_bind] at h2
                exact h2
            · cases hb
          · cases hb
      have := key (List.range' 0 len) b h
      simp only [AV.real, Op.equalIn, Sem.run_bind, run_underlying hu w, Result.andThen_ok, run_sizeOf hinf w]
      rw [Std.Legacy.Range.forIn_eq_forIn_range', show ([:len] : Std.Legacy.Range).size = len by simp [Std.Legacy.Range.size]]
      rw [Sem.run_bind] at this
      refine Eq.trans ?_ this
      refine congr (congrArg _ rfl) ?_
      funext a w'
      obtain ⟨a1, a2⟩ := a
      cases a1 <;> rfl
    all_goals
      rename_i hu
      injection h with h; subst h
      simp only [AV.real, Op.equalIn, Sem.run_bind, run_underlying hu w, Result.andThen_ok, Sem.run_pure, Option.isNone]
end
end Go.Az
/-
  Loads, addresses, slices, indexes, conversions, lookups and quiet builtins on abstract values, and that the model does the same. Conditions: stated at each theorem.
-/
set_option linter.unusedSimpArgs false
set_option linter.unusedVariables false
namespace Go.Az
open Go Go.Chz

section
variable {P : Program} {ρ : Nat → Place} {h : Hp} {w : World}

theorem HRel.cell (H : HRel P ρ h w) {i j : Nat} {cs : List AV} {t : TypeId} {o : Bool} {a : AV} (hi : h[i]? = some (.cells cs t o)) (hj : cs[j]? = some a) :
    w.cell? ⟨(ρ i).b, (ρ i).o + j, none⟩ = some (a.real ρ) := (H.obj i _ hi).1 j a hj
theorem HRel.cellSc (H : HRel P ρ h w) {i j : Nat} {cs : List AV} {t : TypeId} {o : Bool} {a : AV} (hi : h[i]? = some (.cells cs t o)) (hj : cs[j]? = some a) : a.sc h.length = true :=
  (scs_iff _ cs).1 (H.sc i _ hi) a (List.mem_of_getElem? hj)
/-- A range of cells. -/
theorem HRel.range (H : HRel P ρ h w) {i : Nat} {cs : List AV} {t : TypeId} {ow : Bool} (hi : h[i]? = some (.cells cs t ow)) (o n : Nat) (hn : o + n ≤ cs.length) :
    ∀ j v, (AV.reals ρ ((cs.drop o).take n))[j]? = some v → w.cell? ((⟨(ρ i).b, (ρ i).o + o, none⟩ : Addr).add j) = some v := by
  intro j v hv
  rw [reals_getElem?] at hv
  obtain ⟨a, ha, rfl⟩ := Option.map_eq_some_iff.1 hv
  rw [List.getElem?_take] at ha
  split at ha
  · rw [List.getElem?_drop] at ha
    have := H.cell hi ha
    rw [add0, Nat.add_assoc]; exact this
  · cases ha
theorem run_loadRange (H : HRel P ρ h w) {i : Nat} {cs : List AV} {t : TypeId} {ow : Bool} (hi : h[i]? = some (.cells cs t ow)) (o n : Nat) (hn : o + n ≤ cs.length) :
    (loadCells ⟨(ρ i).b, (ρ i).o + o, none⟩ n).run P w = .ok (AV.reals ρ ((cs.drop o).take n)).toArray w := by
  have hl : (AV.reals ρ ((cs.drop o).take n)).length = n := by rw [reals_length, List.length_take, List.length_drop]; omega
  have := run_loadCells_list (P := P) w ⟨(ρ i).b, (ρ i).o + o, none⟩ _ (H.range hi o n hn)
  rwa [hl] at this

/-! ### Loads -/
def ldc (P : Program) (h : Hp) (t : TypeId) (i o : Nat) : Option AV :=
  match tab P t, h[i]? with
  | some x, some (.cells cs _ _) => if aggD x.d = true then if o + x.size ≤ cs.length then some (.agg ((cs.drop o).take x.size)) else none else cs[o]?
  | _, _ => none
theorem run_ldc (H : HRel P ρ h w) {t : TypeId} {i o : Nat} {r : AV} (hr : ldc P h t i o = some r) :
    (loadVar t ⟨(ρ i).b, (ρ i).o + o, none⟩).run P w = .ok (r.real ρ) w ∧ r.sc h.length = true := by
  unfold ldc at hr
  split at hr
  · rename_i x cs t' ow hx hi
    obtain ⟨hu, inf, z, hinf, hs, _⟩ := tab_spec hx
    unfold loadVar
    rw [Sem.run_bind, run_isAgg hu w, Result.andThen_ok]
    split at hr
    · rename_i hagg
      rw [hagg]
      split at hr
      · rename_i hle
        injection hr with hr
        subst hr
        simp only [if_true, Sem.run_bind, run_sizeOf hinf w, Result.andThen_ok, hs, run_loadRange H hi o x.size hle, Sem.run_pure, AV.real]
        exact ⟨trivial, (scs_iff _ _).2 fun a ha => (scs_iff _ cs).1 (H.sc i _ hi) a (List.mem_of_mem_drop (List.mem_of_mem_take ha))⟩
      · cases hr
    · rename_i hagg
      have : aggD x.d = false := by simpa using hagg
      rw [this]
      simp only [Bool.false_eq_true, if_false, run_load, H.cell hi hr]
      exact ⟨trivial, H.cellSc hi hr⟩
  · cases hr

/-! ### Addresses -/
def fad (P : Program) (s : TypeId) (x : AV) (fld : Nat) : Option AV :=
  match P.underlying s, x with
  | some (.struct fs), .ptr i o =>
    match fs[fld]? with
    | some f => match P.info? f.type with
      | some inf => if inf.size = 0 then none else some (.ptr i (o + f.offset))
      | none => none
    | none => none
  | _, _ => none
theorem run_fad {s : TypeId} {x r : AV} {fld : Nat} (hr : fad P s x fld = some r) : (Instr.fieldAt s (x.real ρ) fld).run P w = .ok (r.real ρ) w ∧ (x.sc h.length = true → r.sc h.length = true) := by
  unfold fad at hr
  split at hr
  · rename_i fs i o hu
    split at hr
    · rename_i f hf
      split at hr
      · rename_i inf hinf
        split at hr
        · cases hr
        · rename_i h0
          injection hr with hr
          subst hr
          simp only [Instr.fieldAt, AV.real, Sem.run_bind, run_underlying hu w, Result.andThen_ok, hf, Instr.sureAddr, Sem.run_pure, fieldPlace, run_sizeOf hinf w, h0, if_false, add0]
          exact ⟨by rw [Nat.add_assoc], fun h => h⟩
      · cases hr
    · cases hr
  · cases hr

def intOf? : AV → Option Int
  | .v (.int _ n) => some n
  | _ => none
theorem intOf?_spec {x : AV} {n : Int} (h : intOf? x = some n) : ∃ k, x = .v (.int k n) := by
  unfold intOf? at h
  split at h
  · injection h with h; subst h; exact ⟨_, rfl⟩
  · cases h

def iad (P : Program) (t : TypeId) (x ix : AV) : Option AV :=
  match P.underlying t, x, intOf? ix with
  | some (.slice e), .sl i o n _ _, some a =>
    match P.info? e with
    | some inf => if 0 ≤ a ∧ a < n then some (.ptr i (o + a.toNat * inf.size)) else none
    | none => none
  | some (.array n e), .ptr i o, some a =>
    match P.info? e with
    | some inf => if 0 ≤ a ∧ a < n then some (.ptr i (o + a.toNat * inf.size)) else none
    | none => none
  | _, _, _ => none
theorem run_iad {t : TypeId} {x ix r : AV} (hr : iad P t x ix = some r) : (Instr.indexAt t (x.real ρ) (ix.real ρ)).run P w = .ok (r.real ρ) w ∧ (x.sc h.length = true → r.sc h.length = true) := by
  unfold iad at hr
  split at hr
  · rename_i e i o n c u a hu ha
    obtain ⟨k, rfl⟩ := intOf?_spec ha
    split at hr
    · rename_i inf hinf
      simp only [Option.ite_none_right_eq_some, Option.some.injEq] at hr
      obtain ⟨h0, rfl⟩ := hr
      simp only [Instr.indexAt, AV.real, asIntOf, Sem.run_bind, Sem.run_pure, run_underlying hu w, Result.andThen_ok, h0.1, h0.2, and_self, if_true, run_sizeOf hinf w, add0]
      exact ⟨by rw [Nat.add_assoc], fun h => h⟩
    · cases hr
  · rename_i n e i o a hu ha
    obtain ⟨k, rfl⟩ := intOf?_spec ha
    split at hr
    · rename_i inf hinf
      simp only [Option.ite_none_right_eq_some, Option.some.injEq] at hr
      obtain ⟨h0, rfl⟩ := hr
      simp only [Instr.indexAt, AV.real, asIntOf, Sem.run_bind, Sem.run_pure, run_underlying hu w, Result.andThen_ok, Instr.sureAddr, h0.1, h0.2, and_self, if_true, run_sizeOf hinf w, add0]
      exact ⟨by rw [Nat.add_assoc], fun h => h⟩
    · cases hr
  · cases hr

def idx (P : Program) (t : TypeId) (x ix : AV) : Option AV :=
  match P.underlying t, x, intOf? ix with
  | some .string, .v (.string s), some a => if 0 ≤ a then (s.data.toList[a.toNat]?).map fun b => .v (.int .u8 b.toNat) else none
  | some (.array n e), .agg cs, some a =>
    match P.info? e with
    | some inf => if 0 ≤ a ∧ a < n then prt P e cs (a.toNat * inf.size) else none
    | none => none
  | _, _, _ => none
theorem run_idx {t : TypeId} {x ix r : AV} (hr : idx P t x ix = some r) : (Instr.index t (x.real ρ) (ix.real ρ)).run P w = .ok (r.real ρ) w ∧ (x.sc h.length = true → r.sc h.length = true) := by
  unfold idx at hr
  split at hr
  · rename_i s a hu ha
    obtain ⟨k, rfl⟩ := intOf?_spec ha
    split at hr
    · rename_i h0
      obtain ⟨b, hb, rfl⟩ := Option.map_eq_some_iff.1 hr
      have hb' : s[a.toNat]? = some b := by
        have hl : a.toNat < s.data.toList.length := (List.getElem?_eq_some_iff.1 hb).1
        have hl2 : a.toNat < s.size := by simpa using hl
        rw [getElem?_pos s a.toNat hl2]
        rw [List.getElem?_eq_getElem hl] at hb
        injection hb with hb
        rw [← hb]
        rfl
      simp only [Instr.index, AV.real, asIntOf, Sem.run_bind, Sem.run_pure, run_underlying hu w, Result.andThen_ok, h0, if_true, hb']
      exact ⟨trivial, fun _ => rfl⟩
    · cases hr
  · rename_i n e cs a hu ha
    obtain ⟨k, rfl⟩ := intOf?_spec ha
    split at hr
    · rename_i inf hinf
      simp only [Option.ite_none_right_eq_some] at hr
      obtain ⟨h0, hp⟩ := hr
      simp only [Instr.index, AV.real, asIntOf, Sem.run_bind, Sem.run_pure, run_underlying hu w, Result.andThen_ok, h0.1, h0.2, and_self, if_true, run_sizeOf hinf w, run_part ρ w hp]
      exact ⟨trivial, fun h => prt_sc hp h⟩
    · cases hr
  · cases hr

def fld (P : Program) (t : TypeId) (x : AV) (k : Nat) : Option AV :=
  match P.underlying t, x with
  | some (.struct fs), .agg cs =>
    match fs[k]? with
    | some f => prt P f.type cs f.offset
    | none => none
  | _, _ => none
theorem run_fld {t : TypeId} {x r : AV} {k : Nat} (hr : fld P t x k = some r) : (Instr.field t (x.real ρ) k).run P w = .ok (r.real ρ) w ∧ (x.sc h.length = true → r.sc h.length = true) := by
  unfold fld at hr
  split at hr
  · rename_i fs cs hu
    split at hr
    · rename_i f hf
      simp only [Instr.field, AV.real, Sem.run_bind, run_underlying hu w, Result.andThen_ok, hf, asAgg, Sem.run_pure, run_part ρ w hr]
      exact ⟨trivial, fun h => prt_sc hr h⟩
    · cases hr
  · cases hr
end
end Go.Az
/-
  Slice expressions, conversions, lookups, composite values and quiet builtins on abstract values. Conditions: stated at each theorem.
-/
set_option linter.unusedSimpArgs false
set_option linter.unusedVariables false
namespace Go.Az
open Go Go.Chz

section
variable {P : Program} {ρ : Nat → Place} {h : Hp} {w : World}

/-! ### Slice expressions -/
/-- A bound: an integer from 0 to y. -/
def bnd (x : AV) (y : Nat) : Option Nat :=
  match intOf? x with
  | some a => if 0 ≤ a ∧ a ≤ y then some a.toNat else none
  | none => none
theorem run_bnd {x : AV} {y n : Nat} {c : BoundsCode} (hb : bnd x y = some n) : (Instr.sliceBound (x.real ρ) y c).run P w = .ok n w ∧ n ≤ y := by
  unfold bnd at hb
  split at hb
  · rename_i a ha
    obtain ⟨k, rfl⟩ := intOf?_spec ha
    simp only [Option.ite_none_right_eq_some, Option.some.injEq] at hb
    obtain ⟨h0, rfl⟩ := hb
    simp only [Instr.sliceBound, AV.real, asIntOf, Sem.run_bind, Sem.run_pure, Result.andThen_ok, h0.1, h0.2, and_self, if_true]
    exact ⟨trivial, by omega⟩
  · cases hb
/-- The three bounds where the capacity is known. -/
def bnds (len cap : Nat) (lo hi mx : Option AV) : Option (Nat × Nat × Nat) :=
  match mx with
  | some m => match bnd m cap with
    | some m => match hi with
      | some hi => match bnd hi m with
        | some hi => match lo with
          | some lo => match bnd lo hi with
            | some lo => some (lo, hi, m)
            | none => none
          | none => some (0, hi, m)
        | none => none
      | none => none
    | none => none
  | none => match hi with
    | some hi => match bnd hi cap with
      | some hi => match lo with
        | some lo => match bnd lo hi with
          | some lo => some (lo, hi, cap)
          | none => none
        | none => some (0, hi, cap)
      | none => none
    | none => match lo with
      | some lo => match bnd lo len with
        | some lo => some (lo, len, cap)
        | none => none
      | none => some (0, len, cap)
theorem run_bnds {is : Bool} {len cap : Nat} {lo hi mx : Option AV} {l k m : Nat} (hb : bnds len cap lo hi mx = some (l, k, m)) :
    (Instr.sliceBounds is len cap (lo.map (AV.real ρ)) (hi.map (AV.real ρ)) (mx.map (AV.real ρ))).run P w = .ok (l, k, m) w := by
  unfold bnds at hb
  split at hb
  · split at hb
    · rename_i hm
      split at hb
      · split at hb
        · rename_i hh
          split at hb
          · split at hb
            · rename_i hl
              injection hb with hb
              injection hb with e1 e2
              injection e2 with e2 e3
              subst e1; subst e2; subst e3
              simp only [Instr.sliceBounds, Option.map_some, Sem.run_bind, (run_bnd hm).1, (run_bnd hh).1, (run_bnd hl).1, Result.andThen_ok, Sem.run_pure]
            · cases hb
          · injection hb with hb
            injection hb with e1 e2
            injection e2 with e2 e3
            subst e1; subst e2; subst e3
            simp only [Instr.sliceBounds, Option.map_some, Option.map_none, Sem.run_bind, (run_bnd hm).1, (run_bnd hh).1, Result.andThen_ok, Sem.run_pure]
        · cases hb
      · cases hb
    · cases hb
  · split at hb
    · split at hb
      · rename_i hh
        split at hb
        · split at hb
          · rename_i hl
            injection hb with hb
            injection hb with e1 e2
            injection e2 with e2 e3
            subst e1; subst e2; subst e3
            simp only [Instr.sliceBounds, Option.map_some, Option.map_none, Sem.run_bind, (run_bnd hh).1, (run_bnd hl).1, Result.andThen_ok, Sem.run_pure]
          · cases hb
        · injection hb with hb
          injection hb with e1 e2
          injection e2 with e2 e3
          subst e1; subst e2; subst e3
          simp only [Instr.sliceBounds, Option.map_some, Option.map_none, Sem.run_bind, (run_bnd hh).1, Result.andThen_ok, Sem.run_pure]
      · cases hb
    · split at hb
      · split at hb
        · rename_i hl
          injection hb with hb
          injection hb with e1 e2
          injection e2 with e2 e3
          subst e1; subst e2; subst e3
          simp only [Instr.sliceBounds, Option.map_some, Option.map_none, Sem.run_bind, (run_bnd hl).1, Result.andThen_ok, Sem.run_pure]
        · cases hb
      · injection hb with hb
        injection hb with e1 e2
        injection e2 with e2 e3
        subst e1; subst e2; subst e3
        simp only [Instr.sliceBounds, Option.map_some, Option.map_none, Sem.run_bind, Result.andThen_ok, Sem.run_pure]

/-- The address that a slice expression gives. -/
def cutAt (o l m size : Nat) : Nat := if m = l then o else o + l * size
theorem cutAt_real (b p o l m size : Nat) : (if m = l then (⟨b, p + o, none⟩ : Addr) else (⟨b, p + o, none⟩ : Addr).add (l * size)) = ⟨b, p + cutAt o l m size, none⟩ := by
  unfold cutAt
  split
  · rfl
  · rw [add0, Nat.add_assoc]

/-- Bounds where the capacity is not known but is at least len. -/
def ubnds (len : Nat) (lo hi mx : Option AV) : Option (Nat × Nat × Option Nat) :=
  match mx with
  | some m => match bnds len len lo hi (some m) with
    | some (l, k, m) => some (l, k, some m)
    | none => none
  | none => match bnds len len lo hi none with
    | some (l, k, _) => if l < len ∨ l = 0 then some (l, k, none) else none
    | none => none

theorem bnd_mono {x : AV} {y y' n : Nat} (h : bnd x y = some n) (hy : y ≤ y') : bnd x y' = some n := by
  unfold bnd at h ⊢
  split at h
  · rename_i a ha
    simp only [Option.ite_none_right_eq_some, Option.some.injEq] at h
    obtain ⟨h0, rfl⟩ := h
    simp only [if_pos (show 0 ≤ a ∧ a ≤ (y' : Int) by omega)]
  · cases h
theorem bnds_mono_mx {len cap cap' : Nat} {lo hi : Option AV} {m : AV} {r : Nat × Nat × Nat} (h : bnds len cap lo hi (some m) = some r) (hc : cap ≤ cap') : bnds len cap' lo hi (some m) = some r := by
  unfold bnds at h ⊢
  simp only at h ⊢
  split at h
  · rename_i hm
    rw [bnd_mono hm hc]
    exact h
  · cases h
theorem bnds_mono_none {len cap cap' : Nat} {lo hi : Option AV} {l k m : Nat} (h : bnds len cap lo hi none = some (l, k, m)) (hc : cap ≤ cap') : bnds len cap' lo hi none = some (l, k, cap') := by
  unfold bnds at h ⊢
  simp only at h ⊢
  split at h
  · split at h
    · rename_i hh
      rw [bnd_mono hh hc]
      simp only
      split at h
      · split at h
        · injection h with h
          injection h with e1 e2
          injection e2 with e2 e3
          subst e1; subst e2
          simp only [*]
        · cases h
      · injection h with h
        injection h with e1 e2
        injection e2 with e2 e3
        subst e1; subst e2
        rfl
    · cases h
  · split at h
    · split at h
      · injection h with h
        injection h with e1 e2
        injection e2 with e2 e3
        subst e1; subst e2
        simp only [*]
      · cases h
    · injection h with h
      injection h with e1 e2
      injection e2 with e2 e3
      subst e1; subst e2
      rfl

/-- The unknown capacity is at least what is known of the cells. -/
def capOk (P : Program) (h : Hp) (e : TypeId) (i n c : Nat) : Bool :=
  match h[i]?, P.info? e with
  | some (.cells cs t true), some inf => Nat.beq t e && Nat.blt 0 inf.size && Nat.ble ((c + n) * inf.size) cs.length
  | _, _ => false

def slc (P : Program) (h : Hp) (t : TypeId) (x : AV) (lo hi mx : Option AV) : Option AV :=
  match P.underlying t, x with
  | some .string, .v (.string s) => match mx with
    | some _ => none
    | none => match bnds s.data.toList.length s.data.toList.length lo hi none with
      | some (l, k, _) => some (.v (.string (mkB ((s.data.toList.take k).drop l))))
      | none => none
  | some (.array n e), .ptr i o => match P.info? e, bnds n n lo hi mx with
    | some inf, some (l, k, m) => some (.sl i (cutAt o l m inf.size) (k - l) (m - l) false)
    | _, _ => none
  | some (.pointer arr), .ptr i o => match P.underlying arr with
    | some (.array n e) => match P.info? e, bnds n n lo hi mx with
      | some inf, some (l, k, m) => some (.sl i (cutAt o l m inf.size) (k - l) (m - l) false)
      | _, _ => none
    | _ => none
  | some (.slice e), .sl i o n c false => match P.info? e, bnds n c lo hi mx with
    | some inf, some (l, k, m) => some (.sl i (cutAt o l m inf.size) (k - l) (m - l) false)
    | _, _ => none
  | some (.slice e), .sl i o n c true => if capOk P h e i n c = true then match P.info? e, ubnds n lo hi mx with
    | some inf, some (l, k, some m) => some (.sl i (cutAt o l m inf.size) (k - l) (m - l) false)
    | some inf, some (l, k, none) => some (.sl i (o + l * inf.size) (k - l) (c + l) true)
    | _, _ => none else none
  | some (.slice e), .v (.slice none 0 0) => match P.info? e, bnds 0 0 lo hi mx with
    | some inf, some (l, k, m) => some (.v (.slice none (k - l) (m - l)))
    | _, _ => none
  | _, _ => none

theorem capOk_spec (H : HRel P ρ h w) {e : TypeId} {i n c : Nat} (hc : capOk P h e i n c = true) : c + n ≤ (ρ i).cap := by
  unfold capOk at hc
  split at hc
  · rename_i cs t inf hi hinf
    simp only [Bool.and_eq_true, Nat.beq_eq, Nat.blt_eq, Nat.ble_eq] at hc
    obtain ⟨⟨rfl, h0⟩, hle⟩ := hc
    obtain ⟨_, cur, fz, _, _, _, hcap⟩ := (H.obj i _ hi).2 rfl
    have h2 := (hcap inf hinf).2
    exact Nat.le_of_mul_le_mul_right (Nat.le_trans hle h2) h0
  · cases hc

theorem run_slc (H : HRel P ρ h w) {t : TypeId} {x r : AV} {lo hi mx : Option AV} (hr : slc P h t x lo hi mx = some r) :
    (Instr.sliceAt t (x.real ρ) (lo.map (AV.real ρ)) (hi.map (AV.real ρ)) (mx.map (AV.real ρ))).run P w = .ok (r.real ρ) w ∧ (x.sc h.length = true → r.sc h.length = true) := by
  unfold slc at hr
  split at hr
  · rename_i s hu
    split at hr
    · cases hr
    · split at hr <;> try (cases hr; done)
      · rename_i l k m hb
        injection hr with hr
        subst hr
        have hb' : bnds s.size s.size lo hi none = some (l, k, m) := by simpa using hb
        simp only [Instr.sliceAt, Sem.run_bind, run_underlying hu w, Result.andThen_ok, Instr.slice, AV.real, Option.map_none, Option.isSome_none, Bool.false_eq_true, if_false, Sem.run_pure]
        have := run_bnds (P := P) (ρ := ρ) (w := w) (is := false) hb'
        simp only [Option.map_none] at this
        rw [this]
        refine ⟨?_, fun _ => rfl⟩
        simp only [Result.andThen_ok, Sem.run_pure]
        congr 2
        apply ByteArray.ext
        apply Array.ext'
        simp [mkB, List.extract_eq_take_drop, List.drop_take]
  · rename_i n e i o hu
    split at hr
    · rename_i inf l k m hinf hb
      injection hr with hr
      subst hr
      simp only [Instr.sliceAt, Sem.run_bind, run_underlying hu w, Result.andThen_ok, AV.real, Instr.sureAddr, Sem.run_pure, run_bnds hb, run_sizeOf hinf w, cutAt_real]
      exact ⟨by simp, fun h => h⟩
    · cases hr
  · rename_i arr i o hu
    split at hr
    · rename_i n e hu2
      split at hr
      · rename_i inf l k m hinf hb
        injection hr with hr
        subst hr
        simp only [Instr.sliceAt, Sem.run_bind, run_underlying hu w, Result.andThen_ok, Instr.slice, AV.real, asAddr, run_underlying hu2 w, Sem.run_pure, run_bnds hb, run_sizeOf hinf w, cutAt_real]
        exact ⟨by simp, fun h => h⟩
      · cases hr
    · cases hr
  · rename_i e i o n c hu
    split at hr
    · rename_i inf l k m hinf hb
      injection hr with hr
      subst hr
      simp only [Instr.sliceAt, Sem.run_bind, run_underlying hu w, Result.andThen_ok, Instr.slice, AV.real, Bool.false_eq_true, if_false, run_bnds hb, run_sizeOf hinf w, Sem.run_pure, Option.map_some]
      refine ⟨?_, fun h => h⟩
      rw [← cutAt_real]
      split <;> rfl
    · cases hr
  · rename_i e i o n c hu
    split at hr
    · rename_i hcap
      have hc := capOk_spec H hcap
      split at hr
      · rename_i inf l k m hinf hb
        injection hr with hr
        subst hr
        unfold ubnds at hb
        split at hb
        · split at hb
          · rename_i mv l' k' m' hb2
            injection hb with hb
            injection hb with e1 e2
            injection e2 with e2 e3
            injection e3 with e3
            subst e1; subst e2; subst e3
            have hb3 := run_bnds (P := P) (ρ := ρ) (w := w) (is := true) (bnds_mono_mx hb2 (show n ≤ (ρ i).cap - c by omega))
            simp only [Option.map_some] at hb3
            simp only [Instr.sliceAt, Sem.run_bind, run_underlying hu w, Result.andThen_ok, Instr.slice, AV.real, if_true, run_sizeOf hinf w, Sem.run_pure, Option.map_some, Bool.false_eq_true, if_false, hb3]
            refine ⟨?_, fun h => h⟩
            rw [← cutAt_real]
            split <;> rfl
          · cases hb
        · split at hb
          · split at hb
            · cases hb
            · cases hb
          · cases hb
      · rename_i inf l k hinf hb
        injection hr with hr
        subst hr
        unfold ubnds at hb
        split at hb
        · split at hb
          · cases hb
          · cases hb
        · split at hb
          · rename_i l' k' m' hb2
            split at hb
            · rename_i hl
              injection hb with hb
              injection hb with e1 e2
              injection e2 with e2 e3
              subst e1; subst e2
              have hb3 := run_bnds (P := P) (ρ := ρ) (w := w) (is := true) (bnds_mono_none hb2 (show n ≤ (ρ i).cap - c by omega))
              simp only [Option.map_none] at hb3
              simp only [Instr.sliceAt, Sem.run_bind, run_underlying hu w, Result.andThen_ok, Instr.slice, AV.real, if_true, run_sizeOf hinf w, Sem.run_pure, Option.map_some, Option.map_none, hb3]
              refine ⟨?_, fun h => h⟩
              have e1 : (ρ i).cap - c - l' = (ρ i).cap - (c + l') := by omega
              rw [e1]
              split
              · rename_i hm
                have : l' = 0 := by omega
                subst this
                simp
              · rw [add0, Nat.add_assoc]
            · cases hb
          · cases hb
      · cases hr
    · cases hr
  · rename_i e hu
    split at hr
    · rename_i inf l k m hinf hb
      injection hr with hr
      subst hr
      simp only [Instr.sliceAt, Sem.run_bind, run_underlying hu w, Result.andThen_ok, Instr.slice, AV.real, run_bnds hb, run_sizeOf hinf w, Sem.run_pure, Option.map_none, ite_self]
      exact ⟨trivial, fun h => h⟩
    · cases hr
  · cases hr
end
end Go.Az
/-
  Conversions, lookups, composite values, quiet builtins, and all operations that leave the memory alone: 'exL'. Conditions: stated at each theorem.
-/
set_option linter.unusedSimpArgs false
set_option linter.unusedVariables false
namespace Go.Az
open Go Go.Chz

section
variable {P : Program} {ρ : Nat → Place} {h : Hp} {w : World}

/-! ### Conversions -/
/-- Cells that are bytes, as bytes. -/
def unB : List AV → Option (List UInt8)
  | [] => some []
  | .v (.int .u8 n) :: r => (unB r).map fun l => UInt8.ofNat n.toNat :: l
  | _ => none
theorem unB_get {cs : List AV} : ∀ {l : List UInt8}, unB cs = some l → cs.length = l.length ∧ ∀ (j : Nat) (b : UInt8), l[j]? = some b → ∃ n : Int, cs[j]? = some (.v (.int .u8 n)) ∧ b = UInt8.ofNat n.toNat := by
  induction cs with
  | nil => intro l h; simp [unB] at h; subst h; simp
  | cons a r ih =>
    intro l h
    unfold unB at h
    split at h
    · rename_i heq; simp at heq
    · rename_i n r' heq
      injection heq with e1 e2
      subst e1; subst e2
      obtain ⟨l', hl', rfl⟩ := Option.map_eq_some_iff.1 h
      obtain ⟨h1, h2⟩ := ih hl'
      refine ⟨by simp [h1], fun j b hj => ?_⟩
      cases j with
      | zero => simp at hj; exact ⟨n, by simp, hj.symm⟩
      | succ j => simp at hj ⊢; exact h2 j b hj
    · cases h

theorem run_bytesLoop (ρ : Nat → Place) (w : World) : ∀ (cs : List AV) (l : List UInt8) (s : ByteArray), unB cs = some l →
    (forIn (AV.reals ρ cs) s fun c s => (match c with
      | .int .u8 n => pure (ForInStep.yield (s.push (UInt8.ofNat n.toNat)))
      | _ => stuck "bytesToString: byte expected" : Sem (ForInStep ByteArray))).run P w = .ok ⟨(s.data.toList ++ l).toArray⟩ w := by
  intro cs
  induction cs with
  | nil =>
    intro l s h
    simp [unB] at h; subst h
    simp only [AV.reals, List.forIn_nil, Sem.run_pure, List.append_nil]
  | cons a r ih =>
    intro l s h
    unfold unB at h
    split at h
    · rename_i heq; simp at heq
    · rename_i n r' heq
      injection heq with e1 e2
      subst e1; subst e2
      obtain ⟨l', hl', rfl⟩ := Option.map_eq_some_iff.1 h
      simp only [AV.reals, AV.real, List.forIn_cons, pure_bind]
      rw [ih l' _ hl']
      simp
    · cases h
theorem run_bytes (H : HRel P ρ h w) {i o n c : Nat} {u : Bool} {cs : List AV} {t : TypeId} {ow : Bool} {l : List UInt8} (hi : h[i]? = some (.cells cs t ow)) (hle : o + n ≤ cs.length) (hl : unB ((cs.drop o).take n) = some l) :
    (Conv.bytesToString ((AV.sl i o n c u).real ρ)).run P w = .ok (.string (mkB l)) w := by
  unfold Conv.bytesToString
  simp only [AV.real]
  rw [Sem.run_bind, run_loadRange H hi o n hle, Result.andThen_ok, Sem.run_bind]
  have e := run_bytesLoop (P := P) ρ w _ l ByteArray.empty hl
  rw [← Array.forIn_toList]
  have : (forIn (AV.reals ρ ((cs.drop o).take n)).toArray.toList ByteArray.empty fun c s => (match c with
      | .int .u8 n => pure (ForInStep.yield (s.push (UInt8.ofNat n.toNat)))
      | _ => stuck "bytesToString: byte expected" : Sem (ForInStep ByteArray))).run P w = .ok (mkB l) w := by
    rw [List.toList_toArray, e]; rfl
  refine Eq.trans (congrArg (fun r => Result.andThen r _) (?_ : _ = Result.ok (mkB l) w)) rfl
  exact this

def cnv (P : Program) (h : Hp) (s d : TypeId) (x : AV) : Option AV :=
  match P.underlying s, P.underlying d, x with
  | some (.int _), some (.int k), .v (.int _ n) => some (.v (.int k (k.wrap n)))
  | some .string, some .string, .v (.string b) => some (.v (.string b))
  | some (.slice e), some .string, .v (.slice none 0 0) => match P.underlying e with
    | some (.int .u8) => some (.v (.string (mkB [])))
    | _ => none
  | some (.slice e), some .string, .sl i o n _ _ => match P.underlying e with
    | some (.int .u8) => match h[i]? with
      | some (.cells cs _ _) => if o + n ≤ cs.length then (unB ((cs.drop o).take n)).map fun l => .v (.string (mkB l)) else none
      | _ => none
    | _ => none
  | _, _, _ => none

theorem run_cnv (H : HRel P ρ h w) {s d : TypeId} {x r : AV} (hr : cnv P h s d x = some r) : (convert s d (x.real ρ)).run P w = .ok (r.real ρ) w ∧ r.sc h.length = true := by
  unfold cnv at hr
  split at hr
  · rename_i k0 k k1 n hs hd
    injection hr with hr; subst hr
    simp only [convert, AV.real, Sem.run_bind, run_underlying hs w, run_underlying hd w, Result.andThen_ok, Conv.intToInt, Sem.run_pure]
    exact ⟨trivial, rfl⟩
  · rename_i b hs hd
    injection hr with hr; subst hr
    simp only [convert, AV.real, Sem.run_bind, run_underlying hs w, run_underlying hd w, Result.andThen_ok, Sem.run_pure]
    exact ⟨trivial, rfl⟩
  · rename_i e hs hd
    split at hr
    · rename_i he
      injection hr with hr; subst hr
      simp only [convert, AV.real, Sem.run_bind, run_underlying hs w, run_underlying hd w, run_underlying he w, Result.andThen_ok, Conv.bytesToString, Sem.run_pure]
      exact ⟨rfl, rfl⟩
    · cases hr
  · rename_i e i o n c u hs hd
    split at hr
    · rename_i he
      split at hr
      · rename_i cs t ow hi
        simp only [Option.ite_none_right_eq_some] at hr
        obtain ⟨hle, hr⟩ := hr
        obtain ⟨l, hl, rfl⟩ := Option.map_eq_some_iff.1 hr
        refine ⟨?_, rfl⟩
        have := run_bytes H (c := c) (u := u) hi hle hl
        simp only [AV.real] at this ⊢
        simp only [convert, Sem.run_bind, run_underlying hs w, run_underlying hd w, run_underlying he w, Result.andThen_ok, this]
      · cases hr
    · cases hr
  · cases hr
end
end Go.Az
/-
  Lookups, composite values, quiet builtins, and all operations that leave the memory alone: 'exL'. Conditions: stated at each theorem.
-/
set_option linter.unusedSimpArgs false
set_option linter.unusedVariables false
namespace Go.Az
open Go Go.Chz

section
variable {P : Program} {ρ : Nat → Place} {h : Hp} {w : World}

/-! ### Zero values and cells -/
def zAV (x : TI) : AV := if aggD x.d = true then .agg (x.zc.map .v) else .v (x.zc.getD 0 undef)
theorem reals_v (ρ : Nat → Place) (l : List Value) : AV.reals ρ (l.map .v) = l := by
  rw [reals_eq, List.map_map]
  exact List.map_id'' (fun _ => rfl) l
theorem scs_v (n : Nat) (l : List Value) : AV.scs n (l.map .v) = true := (scs_iff n _).2 fun a ha => by
  obtain ⟨v, _, rfl⟩ := List.mem_map.1 ha; rfl
theorem zAV_real {t : TypeId} {x : TI} (hx : tab P t = some x) (ρ : Nat → Place) (w : World) : (zeroValue t).run P w = .ok ((zAV x).real ρ) w := by
  obtain ⟨hu, inf, z, hinf, hs, hb, hz, hzc, hl, h1, hagg, hna⟩ := tab_spec hx
  have e : (zAV x).real ρ = z := by
    unfold zAV
    split
    · rename_i ha; rw [hagg ha]; simp only [AV.real, reals_v]
    · rename_i ha
      obtain ⟨_, h2⟩ := hna (by simpa using ha)
      rw [h2]; rfl
  rw [e]
  simp [zeroValue, typeInfo, hinf, hz]
theorem zAV_sc (n : Nat) (x : TI) : (zAV x).sc n = true := by
  unfold zAV
  split
  · exact scs_v n _
  · rfl
def AV.cellsL : AV → List AV
  | .agg cs => cs
  | a => [a]
theorem cellsL_real (ρ : Nat → Place) (a : AV) (h : a.one = true ∨ ∃ cs, a = .agg cs) : (a.real ρ).cells = (AV.reals ρ a.cellsL).toArray := by
  rcases h with h | ⟨cs, rfl⟩
  · cases a with
    | v x => cases x <;> first | rfl | (simp [AV.one, Value.oneCell'] at h)
    | agg cs => simp [AV.one] at h
    | tup cs => simp [AV.one] at h
    | _ => rfl
  · rfl

/-! ### Lookups -/
def mfind (d : TypeDesc) (k : Value) : List (Value × AV × Nat) → Option (Option AV)
  | [] => some none
  | e :: r => match Instr.sameNow d k e.1 with
    | some true => some (some e.2.1)
    | some false => mfind d k r
    | none => none
theorem mfind_real (ρ : Nat → Place) (d : TypeDesc) (k : Value) : ∀ (es : List (Value × AV × Nat)) (i : Nat) (r : Option AV), mfind d k es = some r →
    ∃ i', Instr.findNow d k (mapReal ρ es) i = some (r.map fun a => (i', a.real ρ))
  | [], i, r, h => by simp [mfind] at h; subst h; exact ⟨0, rfl⟩
  | e :: es, i, r, h => by
    simp only [mfind] at h
    split at h
    · rename_i hs
      injection h with h; subst h
      exact ⟨i, by simp [mapReal, Instr.findNow, hs]⟩
    · rename_i hs
      obtain ⟨i', hi'⟩ := mfind_real ρ d k es (i + 1) r h
      exact ⟨i', by simp only [mapReal, List.map_cons, Instr.findNow, hs]; exact hi'⟩
    · cases h
theorem mfind_sc {d : TypeDesc} {k : Value} {n : Nat} : ∀ {es : List (Value × AV × Nat)} {a : AV}, mfind d k es = some (some a) → es.all (fun e => e.2.1.sc n) = true → a.sc n = true
  | [], a, h, _ => by simp [mfind] at h
  | e :: es, a, h, hs => by
    simp only [List.all_cons, Bool.and_eq_true] at hs
    simp only [mfind] at h
    split at h
    · injection h with h; injection h with h; subst h; exact hs.1
    · exact mfind_sc h hs.2
    · cases h
def keyD : TypeDesc → Bool
  | .int _ => true
  | .string => true
  | _ => false
theorem run_checkKey {kt : TypeId} {kd : TypeDesc} (hu : P.underlying kt = some kd) (hk : keyD kd = true) (b : Bool) (v : Value) (w : World) : (Instr.checkKey b 10000 kt v).run P w = .ok () w := by
  rw [show (10000 : Nat) = 9999 + 1 from rfl, Instr.checkKey, Sem.run_bind, run_underlying hu w]
  cases kd <;> first | rfl | (simp [keyD] at hk)
theorem run_findKey {kt : TypeId} {kd : TypeDesc} (hu : P.underlying kt = some kd) {k : Value} {es : List (Value × AV × Nat)} {r : Option AV} (ρ : Nat → Place) (w : World) (hm : mfind kd k es = some r) :
    ∃ i', (Instr.findKey kt k (mapReal ρ es)).run P w = .ok (r.map fun a => (i', a.real ρ)) w := by
  obtain ⟨i', hi'⟩ := mfind_real ρ kd k es 0 r hm
  exact ⟨i', by simp only [Instr.findKey, Sem.run_bind, run_underlying hu w, Result.andThen_ok, hi', Sem.run_pure]⟩

def okd (ok : Bool) (v : AV) (b : Bool) : AV := if ok then .tup [v, .v (.bool b)] else v
theorem okd_real (ρ : Nat → Place) (ok : Bool) (v : AV) (b : Bool) : (okd ok v b).real ρ = (if ok then .tuple #[v.real ρ, .bool b] else v.real ρ) := by cases ok <;> rfl
theorem okd_sc (n : Nat) (ok : Bool) (v : AV) (b : Bool) (h : v.sc n = true) : (okd ok v b).sc n = true := by
  cases ok
  · exact h
  · simp [okd, AV.sc, AV.scs, h]
def lkp (P : Program) (h : Hp) (t : TypeId) (x k : AV) (ok : Bool) : Option AV :=
  match P.underlying t, x, k with
  | some (.map kt et), .mp i, .v kv =>
    match h[i]?, P.underlying kt, tab P et with
    | some (.map es _), some kd, some xe => if keyD kd = true then
        match mfind kd kv es with
        | some (some v) => some (okd ok v true)
        | some none => some (okd ok (zAV xe) false)
        | none => none
      else none
    | _, _, _ => none
  | _, _, _ => none
theorem run_lkp (H : HRel P ρ h w) {t : TypeId} {x k r : AV} {ok : Bool} (hr : lkp P h t x k ok = some r) : (Instr.lookup t (x.real ρ) (k.real ρ) ok).run P w = .ok (r.real ρ) w ∧ r.sc h.length = true := by
  unfold lkp at hr
  split at hr
  · rename_i kt et i kv hu
    split at hr
    · rename_i es ck kd xe hi hk hx
      simp only [Option.ite_none_right_eq_some] at hr
      obtain ⟨hkd, hr⟩ := hr
      have hg : w.heap[(ρ i).b]? = some (.map (mapReal ρ es).toArray ck) := H.obj i _ hi
      have hget : (getObj (ρ i).b).run P w = .ok (.map (mapReal ρ es).toArray ck) w := by simp only [getObj, Sem.run, hg]
      split at hr
      · rename_i v hm
        injection hr with hr; subst hr
        obtain ⟨i', hf⟩ := run_findKey hk ρ w hm
        simp only [Instr.lookup, AV.real, Sem.run_bind, run_underlying hu w, Result.andThen_ok, hget, Sem.run_pure, run_checkKey hk hkd, List.toList_toArray, hf, Option.map_some, okd_real]
        exact ⟨trivial, okd_sc _ _ _ _ (mfind_sc hm (H.sc i _ hi))⟩
      · rename_i hm
        injection hr with hr; subst hr
        obtain ⟨i', hf⟩ := run_findKey hk ρ w hm
        simp only [Instr.lookup, AV.real, Sem.run_bind, run_underlying hu w, Result.andThen_ok, hget, Sem.run_pure, run_checkKey hk hkd, List.toList_toArray, hf, Option.map_none, okd_real, zAV_real hx ρ w]
        exact ⟨trivial, okd_sc _ _ _ _ (zAV_sc _ _)⟩
      · cases hr
    · cases hr
  · cases hr

/-! ### Composite values -/
def setMany (cs : List AV) (off : Nat) (vs : List AV) : List AV := cs.take off ++ vs ++ cs.drop (off + vs.length)
theorem foldl_set (vs : List Value) : ∀ (cs : Array Value) (off k : Nat), off + k + vs.length ≤ cs.size →
    ((vs.zipIdx k).foldl (fun cs (c, j) => cs.setIfInBounds (off + j) c) cs) = (cs.toList.take (off + k) ++ vs ++ cs.toList.drop (off + k + vs.length)).toArray := by
  induction vs with
  | nil => intro cs off k h; simp
  | cons v vs ih =>
    intro cs off k h
    simp only [List.zipIdx_cons, List.foldl_cons]
    rw [ih (cs.setIfInBounds (off + k) v) off (k + 1) (by simp at h ⊢; omega)]
    apply Array.ext'
    simp only [Array.toList_setIfInBounds, List.toList_toArray]
    have hk : off + k < cs.toList.length := by simp at h ⊢; omega
    rw [List.set_eq_take_append_cons_drop, if_pos hk]
    have e1 : List.take (off + (k + 1)) (List.take (off + k) cs.toList ++ v :: List.drop (off + k + 1) cs.toList) = List.take (off + k) cs.toList ++ [v] := by
      rw [List.take_append]
      have : off + (k + 1) - (List.take (off + k) cs.toList).length = 1 := by rw [List.length_take]; omega
      rw [this]
      simp [List.take_take]
    have e2 : List.drop (off + (k + 1) + vs.length) (List.take (off + k) cs.toList ++ v :: List.drop (off + k + 1) cs.toList) = List.drop (off + k + (v :: vs).length) cs.toList := by
      rw [List.drop_append]
      have h1 : off + (k + 1) + vs.length - (List.take (off + k) cs.toList).length = vs.length + 1 := by rw [List.length_take]; omega
      rw [h1, List.drop_eq_nil_of_le (by rw [List.length_take]; omega), List.nil_append, List.drop_succ_cons, List.drop_drop]
      congr 1
      simp; omega
    rw [e1, e2]
    simp
def AV.cellOk : AV → Bool
  | .agg _ => true
  | a => a.one
theorem cellOk_spec {a : AV} (h : a.cellOk = true) : a.one = true ∨ ∃ cs, a = .agg cs := by
  cases a <;> first | exact .inr ⟨_, rfl⟩ | exact .inl h
def afill (place : Nat → Option (Nat × Nat)) : List AV → List (Nat × AV) → Option (List AV)
  | cells, [] => some cells
  | cells, (i, a) :: rest =>
    match place i with
    | none => none
    | some (off, size) =>
      if a.cellOk = true ∧ a.cellsL.length = size ∧ off + size ≤ cells.length then afill place (setMany cells off a.cellsL) rest
      else none
theorem afill_real (ρ : Nat → Place) (place : Nat → Option (Nat × Nat)) : ∀ (parts : List (Nat × AV)) (cells r : List AV), afill place cells parts = some r →
    Instr.fill place (AV.reals ρ cells).toArray (parts.map fun p => (p.1, p.2.real ρ)) = some (AV.reals ρ r).toArray
  | [], cells, r, h => by simp only [afill, Option.some.injEq] at h; subst h; rfl
  | (i, a) :: rest, cells, r, h => by
    simp only [afill] at h
    split at h
    · cases h
    · rename_i off size hp
      simp only [Option.ite_none_right_eq_some] at h
      obtain ⟨⟨hok, hsz, hle⟩, h⟩ := h
      have hc := cellsL_real ρ a (cellOk_spec hok)
      have hcs : (a.real ρ).cells.size = size := by rw [hc]; simp [reals_length, hsz]
      simp only [List.map_cons, Instr.fill, hp]
      have hsize : (AV.reals ρ cells).toArray.size = cells.length := by simp [reals_length]
      have e1 : ((a.real ρ).cells.size ≠ size || off + (a.real ρ).cells.size > (AV.reals ρ cells).toArray.size) = false := by
        rw [hcs, hsize]; simp; omega
      rw [e1]
      simp only [Bool.false_eq_true, if_false]
      have e2 : (a.real ρ).cells.zipIdx.foldl (fun cs (x : Value × Nat) => cs.setIfInBounds (off + x.2) x.1) (AV.reals ρ cells).toArray = (AV.reals ρ (setMany cells off a.cellsL)).toArray := by
        rw [hc]
        have := foldl_set (AV.reals ρ a.cellsL) (AV.reals ρ cells).toArray off 0 (by simp [reals_length]; omega)
        rw [← Array.foldl_toList]
        simp only [Array.toList_zipIdx, List.toList_toArray]
        refine Eq.trans this ?_
        simp only [Nat.add_zero, List.toList_toArray, setMany, reals_eq, List.map_append, List.map_take, List.map_drop, List.length_map]
      have e3 := afill_real ρ place rest _ _ h
      rw [← e2] at e3
      exact e3
theorem setMany_sc {n : Nat} {cs vs : List AV} {off : Nat} (h : AV.scs n cs = true) (hv : AV.scs n vs = true) : AV.scs n (setMany cs off vs) = true := by
  refine (scs_iff n _).2 fun a ha => ?_
  simp only [setMany, List.mem_append] at ha
  rcases ha with (ha | ha) | ha
  · exact (scs_iff n cs).1 h a (List.mem_of_mem_take ha)
  · exact (scs_iff n vs).1 hv a ha
  · exact (scs_iff n cs).1 h a (List.mem_of_mem_drop ha)
theorem cellsL_sc {n : Nat} {a : AV} (h : a.sc n = true) : AV.scs n a.cellsL = true := by
  cases a <;> first | exact h | (simp only [AV.cellsL, AV.scs, Bool.and_true]; exact h)
theorem afill_sc {n : Nat} {place : Nat → Option (Nat × Nat)} : ∀ {parts : List (Nat × AV)} {cells r : List AV}, afill place cells parts = some r → AV.scs n cells = true → (∀ p ∈ parts, p.2.sc n = true) → AV.scs n r = true
  | [], cells, r, h, hc, _ => by simp only [afill, Option.some.injEq] at h; subst h; exact hc
  | (i, a) :: rest, cells, r, h, hc, hp => by
    simp only [afill] at h
    split at h
    · cases h
    · simp only [Option.ite_none_right_eq_some] at h
      exact afill_sc h.2 (setMany_sc hc (cellsL_sc (hp (i, a) (by simp)))) (fun p hp' => hp p (by simp [hp']))

def fplaces (P : Program) : List Field → Option (List (Nat × Nat))
  | [] => some []
  | f :: r => match P.info? f.type, fplaces P r with
    | some inf, some l => some ((f.offset, inf.size) :: l)
    | _, _ => none
theorem run_fplaces (w : World) : ∀ (fs : List Field) (l : List (Nat × Nat)), fplaces P fs = some l → (fs.mapM fun f => do pure (f.offset, ← sizeOf f.type) : Sem (List (Nat × Nat))).run P w = .ok l w
  | [], l, h => by simp only [fplaces, Option.some.injEq] at h; subst h; rfl
  | f :: r, l, h => by
    simp only [fplaces] at h
    split at h
    · rename_i inf l' hi hl
      injection h with h; subst h
      have ih := run_fplaces w r l' hl
      simp only [List.mapM_cons, Sem.run_bind, run_sizeOf hi w, Result.andThen_ok, Sem.run_pure]
      rw [ih]
      rfl
    · cases h
def bld (P : Program) (t : TypeId) (parts : List (Nat × AV)) : Option AV :=
  match tab P t with
  | some x => match x.d with
    | .struct fs => match fplaces P fs.toList with
      | some pl => (afill (fun (i : Nat) => pl[i]?) (x.zc.map .v) parts).map .agg
      | none => none
    | .array _ e => match P.info? e with
      | some inf => (afill (fun i => some (i * inf.size, inf.size)) (x.zc.map .v) parts).map .agg
      | none => none
    | _ => none
  | none => none
theorem run_bld {t : TypeId} {parts : List (Nat × AV)} {r : AV} (hr : bld P t parts = some r) (ρ : Nat → Place) (w : World) :
    (Instr.build t (parts.map fun p => (p.1, p.2.real ρ)).toArray).run P w = .ok (r.real ρ) w ∧ ∀ n, (∀ p ∈ parts, p.2.sc n = true) → r.sc n = true := by
  unfold bld at hr
  split at hr
  · rename_i x hx
    obtain ⟨hu, inf, z, hinf, hs, hb, hz, hzc, hl, h1, hagg, hna⟩ := tab_spec hx
    have hzv : (zeroValue t).run P w = .ok z w := by simp [zeroValue, typeInfo, hinf, hz]
    have hcz : z.cells = (AV.reals ρ (x.zc.map .v)).toArray := by rw [hzc, reals_v]
    split at hr
    · rename_i fs hd
      split at hr
      · rename_i pl hpl
        obtain ⟨cs, hcs, rfl⟩ := Option.map_eq_some_iff.1 hr
        have hf := afill_real ρ _ _ _ _ hcs
        refine ⟨?_, fun n hn => afill_sc hcs (scs_v n _) hn⟩
        have hm := run_fplaces (P := P) w fs.toList pl hpl
        have hm' : (fs.mapM fun f => do pure (f.offset, ← sizeOf f.type) : Sem (Array (Nat × Nat))).run P w = .ok pl.toArray w := by
          rw [← Array.toArray_toList (xs := fs)]
          simp only [List.mapM_toArray, Sem.run_map, hm, Result.andThen_ok]
        have hpf : (fun (i : Nat) => pl.toArray[i]?) = fun (i : Nat) => pl[i]? := by funext i; simp
        simp only [Instr.build, Sem.run_bind, hzv, Result.andThen_ok, hu, run_underlying hu w, hd, hm', hcz]
        rw [hpf, hf]
        rfl
      · cases hr
    · rename_i n e hd
      split at hr
      · rename_i inf2 hinf2
        obtain ⟨cs, hcs, rfl⟩ := Option.map_eq_some_iff.1 hr
        have hf := afill_real ρ _ _ _ _ hcs
        refine ⟨?_, fun n hn => afill_sc hcs (scs_v n _) hn⟩
        simp only [Instr.build, Sem.run_bind, hzv, Result.andThen_ok, run_underlying hu w, hd, run_sizeOf hinf2 w, hcz, List.toList_toArray, hf]
        rfl
      · cases hr
    · cases hr
  · cases hr

/-! ### Quiet builtins -/
def lenB (P : Program) (t : TypeId) (x : AV) : Option AV :=
  match P.underlying t, x with
  | some .string, .v (.string s) => some (.v (.int .i64 (s.data.toList.length : Nat)))
  | some (.slice _), .sl _ _ n _ _ => some (.v (.int .i64 (n : Nat)))
  | some (.slice _), .v (.slice _ n _) => some (.v (.int .i64 (n : Nat)))
  | some (.array n _), _ => some (.v (.int .i64 (n : Nat)))
  | _, _ => none
def exB (P : Program) (b : Builtin) (argTypes : Array TypeId) (args : List AV) : Option AV :=
  match b, argTypes.toList, args with
  | .len, [t], [x] => lenB P t x
  | .min, _, [.v (.int k x), .v (.int _ y)] => some (.v (.int k (if y < x then y else x)))
  | .max, _, [.v (.int k x), .v (.int _ y)] => some (.v (.int k (if y > x then y else x)))
  | _, _, _ => none
theorem run_exB {b : Builtin} {ts : Array TypeId} {ty : TypeId} {cn : Array Bool} {args : List AV} {r : AV} (hr : exB P b ts args = some r) (ρ : Nat → Place) (w : World) :
    (builtin b ts ty cn (AV.reals ρ args).toArray).run P w = .ok (.value (r.real ρ)) w ∧ ∀ n, r.sc n = true := by
  unfold exB at hr
  split at hr
  · rename_i b' a2 a3 t x hts
    have hts' : ts = #[t] := by cases ts; simp_all
    subst hts'
    unfold lenB at hr
    split at hr <;> first | (cases hr; done) | skip
    all_goals
      rename_i hu
      injection hr with hr; subst hr
      simp only [builtin, Builtin.len_, AV.reals, AV.real, List.getElem?_toArray, List.getElem?_cons_zero, Sem.run_bind, run_underlying hu w, Result.andThen_ok, Sem.run_pure, goInt]
      refine ⟨?_, fun _ => rfl⟩
      try rfl
    all_goals simp
  · injection hr with hr; subst hr
    simp [builtin, Builtin.min_, Builtin.min2, AV.reals, AV.real, AV.sc]
  · injection hr with hr; subst hr
    simp [builtin, Builtin.max_, Builtin.max2, AV.reals, AV.real, AV.sc]
  · cases hr
end
end Go.Az
/-
  All operations that leave the memory alone: 'exL', and that the model does the same. Conditions: stated at each theorem.
-/
set_option linter.unusedSimpArgs false
set_option linter.unusedVariables false
namespace Go.Az
open Go Go.Chz

section
variable {P : Program} {ρ : Nat → Place} {h : Hp} {w : World}

def bin (P : Program) (op : BinOp) (t : TypeId) (x y : AV) : Option AV :=
  match x, y with
  | .v (.int k a), .v (.int k' b) => ibin op k a k' b
  | .v (.string a), .v (.string b) => sbin op a b
  | .v (.bool a), .v (.bool b) => match op with
    | .eql => (aeq P 1 t x y).map fun b => .v (.bool b)
    | .neq => (aeq P 1 t x y).map fun b => .v (.bool (!b))
    | _ => none
  | .agg xs, .agg ys => if P.eqGuardType P.depth t = true then none else match op with
    | .eql => (aeq P 6 t x y).map fun b => .v (.bool b)
    | .neq => (aeq P 6 t x y).map fun b => .v (.bool (!b))
    | _ => none
  | .v (.slice none n c), y => match op with
    | .eql => (aeq P 1 t x y).map fun b => .v (.bool b)
    | .neq => (aeq P 1 t x y).map fun b => .v (.bool (!b))
    | _ => none
  | .sl i o n c u, y => match op with
    | .eql => (aeq P 1 t x y).map fun b => .v (.bool b)
    | .neq => (aeq P 1 t x y).map fun b => .v (.bool (!b))
    | _ => none
  | .v .nilIface, .v .nilIface => match P.underlying t, op with
    | some (.interface ms), .eql => if ms.isEmpty then some (.v (.bool true)) else none
    | some (.interface ms), .neq => if ms.isEmpty then some (.v (.bool false)) else none
    | _, _ => none
  | .ifc _ _, .v .nilIface => match P.underlying t, op with
    | some (.interface _), .eql => some (.v (.bool false))
    | some (.interface _), .neq => some (.v (.bool true))
    | _, _ => none
  | _, _ => none

theorem run_equal {t : TypeId} {x y : AV} {b : Bool} {d : Nat} (ρ : Nat → Place) (w : World) (hd : d ≤ 10000) (h : aeq P d t x y = some b) : (Op.equal t (x.real ρ) (y.real ρ)).run P w = .ok b w :=
  run_equalIn ρ w d 10000 t x y b hd h

theorem run_binop_eq {op : BinOp} {t : TypeId} {x y : AV} {b : Bool} {d : Nat} (ρ : Nat → Place) (w : World) (hd : d ≤ 10000) (h : aeq P d t x y = some b) (hop : op = .eql ∨ op = .neq)
    (h1 : ∀ k a k' c, ¬ (x.real ρ = .int k a ∧ y.real ρ = .int k' c)) (h2 : ∀ a c, ¬ (x.real ρ = .string a ∧ y.real ρ = .string c)) (h3 : (∃ b, x.real ρ = .bool b) ∨ (∃ c, x.real ρ = .agg c) ∨ (∃ a n c, x.real ρ = .slice a n c)) :
    (binOp op t (x.real ρ) (y.real ρ)).run P w = .ok (.bool (if op = .eql then b else !b)) w := by
  have he := run_equal (P := P) ρ w hd h
  generalize hX : x.real ρ = X at *
  generalize hY : y.real ρ = Y at *
  rcases h3 with ⟨b0, rfl⟩ | ⟨c0, rfl⟩ | ⟨a0, n0, c0, rfl⟩ <;> rcases hop with rfl | rfl <;> cases Y <;> simp [binOp, he]

theorem run_bin {op : BinOp} {t : TypeId} {x y : AV} {r : AV} (ox oy : Operand) (hr : bin P op t x y = some r) (ρ : Nat → Place) (w : World) :
    ((do eqGuard op t ox oy (x.real ρ) (y.real ρ); binOp op t (x.real ρ) (y.real ρ) : Sem Value)).run P w = .ok (r.real ρ) w ∧ ∀ n, r.sc n = true := by
  have hscI : ∀ {k a k' b r}, ibin op k a k' b = some r → ∀ n, r.sc n = true := by
    intro k a k' b r h n
    unfold ibin at h
    cases op <;> simp only [Option.ite_none_right_eq_some, Option.ite_none_left_eq_some, Option.some.injEq] at h
    all_goals first
      | (obtain ⟨_, _, rfl⟩ := h; rfl)
      | (obtain ⟨_, rfl⟩ := h; rfl)
  have hscS : ∀ {a b r}, sbin op a b = some r → ∀ n, r.sc n = true := by
    intro a b r h n
    unfold sbin at h
    cases op <;> simp only [Option.ite_none_right_eq_some, Option.some.injEq, reduceCtorEq] at h
    all_goals first
      | (obtain ⟨_, rfl⟩ := h; rfl)
      | (subst h; rfl)
  have gd : ∀ {X Y : Value}, (∀ cs cs', ¬ (X = .agg cs ∧ Y = .agg cs')) → (¬ (X = .nilIface ∧ Y = .nilIface)) → (eqGuard op t ox oy X Y).run P w = .ok () w := fun h1 h2 => eqGuard_int P w op t ox oy h1 h2
  unfold bin at hr
  split at hr
  · simp only [AV.real, Sem.run_bind]
    rw [gd (by rintro _ _ ⟨h, _⟩; cases h) (by rintro ⟨h, _⟩; cases h), Result.andThen_ok]
    exact ⟨run_ibin ρ hr, hscI hr⟩
  · simp only [AV.real, Sem.run_bind]
    rw [gd (by rintro _ _ ⟨h, _⟩; cases h) (by rintro ⟨h, _⟩; cases h), Result.andThen_ok]
    exact ⟨run_sbin ρ hr, hscS hr⟩
  · split at hr <;> first | (cases hr; done) | skip
    all_goals
      obtain ⟨b, hb, rfl⟩ := Option.map_eq_some_iff.1 hr
      rw [Sem.run_bind, gd (by rintro _ _ ⟨h, _⟩; cases h) (by rintro ⟨h, _⟩; cases h), Result.andThen_ok,
        run_binop_eq ρ w (by omega) hb (by first | exact .inl rfl | exact .inr rfl) (by rintro _ _ _ _ ⟨h, _⟩; cases h) (by rintro _ _ ⟨h, _⟩; cases h) (.inl ⟨_, rfl⟩)]
      exact ⟨rfl, fun _ => rfl⟩
  · split at hr
    · cases hr
    · rename_i xs ys hg
      have hgd : (eqGuard op t ox oy ((AV.agg xs).real ρ) ((AV.agg ys).real ρ)).run P w = .ok () w := by
        have hg' : P.eqGuardType P.depth t = false := by simpa using hg
        unfold eqGuard
        cases op <;> first | rfl | simp [AV.real, hg']
      split at hr <;> first | (cases hr; done) | skip
      all_goals
        obtain ⟨b, hb, rfl⟩ := Option.map_eq_some_iff.1 hr
        rw [Sem.run_bind, hgd, Result.andThen_ok,
          run_binop_eq ρ w (by omega) hb (by first | exact .inl rfl | exact .inr rfl) (by rintro _ _ _ _ ⟨h, _⟩; cases h) (by rintro _ _ ⟨h, _⟩; cases h) (.inr (.inl ⟨_, rfl⟩))]
        exact ⟨rfl, fun _ => rfl⟩
  · split at hr <;> first | (cases hr; done) | skip
    all_goals
      obtain ⟨b, hb, rfl⟩ := Option.map_eq_some_iff.1 hr
      rw [Sem.run_bind, gd (by rintro _ _ ⟨h, _⟩; cases h) (by rintro ⟨h, _⟩; cases h), Result.andThen_ok,
        run_binop_eq ρ w (by omega) hb (by first | exact .inl rfl | exact .inr rfl) (by rintro _ _ _ _ ⟨h, _⟩; cases h) (by rintro _ _ ⟨h, _⟩; cases h) (.inr (.inr ⟨_, _, _, rfl⟩))]
      exact ⟨rfl, fun _ => rfl⟩
  · split at hr <;> first | (cases hr; done) | skip
    all_goals
      obtain ⟨b, hb, rfl⟩ := Option.map_eq_some_iff.1 hr
      rw [Sem.run_bind, gd (by rintro _ _ ⟨h, _⟩; cases h) (by rintro ⟨h, _⟩; cases h), Result.andThen_ok,
        run_binop_eq ρ w (by omega) hb (by first | exact .inl rfl | exact .inr rfl) (by rintro _ _ _ _ ⟨h, _⟩; cases h) (by rintro _ _ ⟨h, _⟩; cases h) (.inr (.inr ⟨_, _, _, rfl⟩))]
      exact ⟨rfl, fun _ => rfl⟩
  · split at hr <;> first | (cases hr; done) | skip
    all_goals
      rename_i ms hu
      simp only [Option.ite_none_right_eq_some, Option.some.injEq] at hr
      obtain ⟨hms, rfl⟩ := hr
      have hgd : ∀ op', (eqGuard op' t ox oy .nilIface .nilIface).run P w = .ok () w := by
        intro op'
        have hin : ∀ D, (Op.eqGuardIn (D + 1) t .nilIface .nilIface).run P w = .ok false w := by
          intro D
          simp only [Op.eqGuardIn, Sem.run_bind, run_underlying hu w, Result.andThen_ok, Sem.run_pure, hms, Bool.not_true]
        have hin' : (Op.eqGuardIn Op.maxDepth t .nilIface .nilIface).run P w = .ok false w := hin 9999
        unfold eqGuard
        cases op' <;> first
          | rfl
          | (cases ox <;> cases oy <;> simp [Sem.run_bind, hin'])
      have he : (Op.equal t .nilIface .nilIface).run P w = .ok true w := by
        have : ∀ D, (Op.equalIn (D + 1) t .nilIface .nilIface).run P w = .ok true w := by
          intro D
          simp only [Op.equalIn, Sem.run_bind, run_underlying hu w, Result.andThen_ok, Sem.run_pure]
        exact this 9999
      refine ⟨?_, fun _ => rfl⟩
      simp only [AV.real]
      rw [Sem.run_bind, hgd, Result.andThen_ok]
      simp [binOp, he]
  · split at hr <;> first | (cases hr; done) | skip
    all_goals
      rename_i hu
      simp only [Option.some.injEq] at hr
      subst hr
      refine ⟨?_, fun _ => rfl⟩
      simp only [AV.real]
      rw [Sem.run_bind, gd (by rintro _ _ ⟨h, _⟩; cases h) (by rintro ⟨h, _⟩; cases h), Result.andThen_ok]
      have he : ∀ (z : TypeId) (v : Value), (Op.equal t (.iface z v) .nilIface).run P w = .ok false w := by
        intro z v
        have : ∀ D, (Op.equalIn (D + 1) t (.iface z v) .nilIface).run P w = .ok false w := by
          intro D
          simp only [Op.equalIn, Sem.run_bind, run_underlying hu w, Result.andThen_ok, Sem.run_pure]
        exact this 9999
      simp [binOp, he]
  · cases hr

def una (op : UnOp) (x : AV) : Option AV :=
  match op, x with
  | .neg, .v (.int k n) => some (.v (.int k (k.wrap (0 - n))))
  | .xor, .v (.int k n) => some (.v (.int k (k.wrap (BitVec.ofInt k.bits (if k.signed then -1 else k.max) ^^^ BitVec.ofInt k.bits n).toNat)))
  | .not, .v (.bool b) => some (.v (.bool (!b)))
  | _, _ => none
def mif (P : Program) (t : TypeId) (x : AV) : Option AV :=
  match P.underlying t with
  | some (.interface _) => none
  | some _ => some (.ifc t x)
  | none => none

/-- An operation that leaves the memory alone: what it yields. -/
def exL (P : Program) (f : Fr) (h : Hp) (op : Op) : Option AV :=
  match op with
  | .move x => some (ev f x)
  | .assign x => some (ev f x)
  | .pick c a b => match ev f c with
    | .v (.bool t) => some (if t then ev f a else ev f b)
    | _ => none
  | .load t a => match ev f a with
    | .ptr i o => ldc P h t i o
    | _ => none
  | .nilCheck x => match ev f x with
    | .ptr i o => some (.ptr i o)
    | .fn (.func g) cs => some (.fn (.func g) cs)
    | .yld i => some (.yld i)
    | .ifc t x => some (.ifc t x)
    | _ => none
  | .binOp op t x y _ => bin P op t (ev f x) (ev f y)
  | .unOp op _ x => una op (ev f x)
  | .convert s d x => cnv P h s d (ev f x)
  | .makeInterface t x => mif P t (ev f x)
  | .makeFunc fn first cap => if first.size = 0 then some (.fn fn (cap.toList.map (ev f))) else none
  | .slice t x lo hi mx => slc P h t (ev f x) (lo.map (ev f)) (hi.map (ev f)) (mx.map (ev f))
  | .fieldAddr s x k => fad P s (ev f x) k
  | .field t x k => fld P t (ev f x) k
  | .indexAddr t x i => iad P t (ev f x) (ev f i)
  | .index t x i => idx P t (ev f x) (ev f i)
  | .lookup t x k ok => lkp P h t (ev f x) (ev f k) ok
  | .extract x i => match ev f x with
    | .tup vs => vs[i]?
    | _ => none
  | .build t parts => bld P t (parts.toList.map fun p => (p.1, ev f p.2))
  | .call c => match c.callee with
    | .builtin b => exB P b c.argTypes (c.args.toList.map (ev f))
    | _ => none
  | _ => none

theorem map_real {f : Fr} {A : Act} (hA : A.tmps = (AV.reals ρ f.t).toArray) (xs : Array Operand) : xs.map A.eval = (AV.reals ρ (xs.toList.map (ev f))).toArray := by
  apply Array.ext'
  simp only [Array.toList_map, reals_eq, List.map_map]
  exact List.map_congr_left fun x _ => ev_real hA x
theorem scs_map {f : Fr} {n : Nat} (hs : AV.scs n f.t = true) (xs : List Operand) : AV.scs n (xs.map (ev f)) = true :=
  (scs_iff n _).2 fun a ha => by obtain ⟨x, _, rfl⟩ := List.mem_map.1 ha; exact ev_sc hs x

theorem exL_ok (H : HRel P ρ h w) {f : Fr} {A : Act} (hA : A.tmps = (AV.reals ρ f.t).toArray) (hs : AV.scs h.length f.t = true) {o : Oper} {r : AV} (hr : exL P f h o.op = some r) :
    (execOp A.eval o).run P w = .ok (.value (r.real ρ)) w ∧ r.sc h.length = true := by
  have E := ev_real (ρ := ρ) hA
  have S := ev_sc hs
  unfold exL at hr
  unfold execOp
  split at hr
  · rename_i x ho
    injection hr with hr; subst hr
    simp only [ho, Sem.run_pure, E]; exact ⟨trivial, S x⟩
  · rename_i x ho
    injection hr with hr; subst hr
    simp only [ho, Sem.run_pure, E]; exact ⟨trivial, S x⟩
  · rename_i c a b ho
    split at hr
    · rename_i t hc
      injection hr with hr; subst hr
      simp only [ho, E, hc, AV.real, asBool, Sem.run_bind, Sem.run_pure, Result.andThen_ok]
      cases t
      · exact ⟨rfl, S b⟩
      · exact ⟨rfl, S a⟩
    · cases hr
  · rename_i t a ho
    split at hr
    · rename_i i o' ha
      have := run_ldc H hr
      simp only [ho, E, ha, AV.real, Instr.loadAt, Instr.sureAddr, Sem.run_bind, Sem.run_pure, Result.andThen_ok, this.1]
      exact ⟨trivial, this.2⟩
    · cases hr
  · rename_i x ho
    have Sx := S x
    split at hr
    · rename_i i o' hx; injection hr with hr; subst hr; rw [hx] at Sx; simp only [ho, E, hx, AV.real, Sem.run_pure]; exact ⟨trivial, Sx⟩
    · rename_i g cs hx; injection hr with hr; subst hr; rw [hx] at Sx; simp only [ho, E, hx, AV.real, Sem.run_pure]; exact ⟨trivial, Sx⟩
    · rename_i i hx; injection hr with hr; subst hr; rw [hx] at Sx; simp only [ho, E, hx, AV.real, Sem.run_pure]; exact ⟨trivial, Sx⟩
    · rename_i t y hx; injection hr with hr; subst hr; rw [hx] at Sx; simp only [ho, E, hx, AV.real, Sem.run_pure]; exact ⟨trivial, Sx⟩
    · cases hr
  · rename_i op t x y yt ho
    have := run_bin x y hr ρ w
    simp only [ho, E, Sem.run_bind] at this ⊢
    rw [this.1]
    exact ⟨rfl, this.2 _⟩
  · rename_i op t x ho
    unfold una at hr
    split at hr <;> first | (cases hr; done) | skip
    · rename_i k n hx
      injection hr with hr; subst hr
      simp only [ho, E, hx, AV.real, Op.unary, Op.intArith, Sem.run_bind, Sem.run_pure, Result.andThen_ok]; exact ⟨trivial, rfl⟩
    · rename_i k n hx
      injection hr with hr; subst hr
      simp only [ho, E, hx, AV.real, Op.unary, Op.intBits, Sem.run_bind, Sem.run_pure, Result.andThen_ok]; exact ⟨trivial, rfl⟩
    · rename_i b hx
      injection hr with hr; subst hr
      simp only [ho, E, hx, AV.real, Op.unary, Sem.run_bind, Sem.run_pure, Result.andThen_ok]; exact ⟨trivial, rfl⟩
  · rename_i s d x ho
    have := run_cnv H hr
    simp only [ho, E, Sem.run_bind, this.1, Result.andThen_ok, Sem.run_pure]; exact ⟨trivial, this.2⟩
  · rename_i t x ho
    unfold mif at hr
    split at hr <;> first | (cases hr; done) | skip
    rename_i d hu hd
    injection hr with hr; subst hr
    simp only [ho, E, Instr.makeInterface, Sem.run_bind, run_underlying hd w, Result.andThen_ok, AV.real]
    refine ⟨?_, S x⟩
    cases d <;> first | rfl | exact absurd rfl (hu _)
  · rename_i fn first cap ho
    simp only [Option.ite_none_right_eq_some, Option.some.injEq] at hr
    obtain ⟨h0, rfl⟩ := hr
    have : first = #[] := by simpa using h0
    subst this
    simp only [ho, Instr.makeFunc, AV.real, Sem.run_bind, Sem.run_pure, Result.andThen_ok, map_real hA]
    refine ⟨by simp [AV.reals], ?_⟩
    exact scs_map hs _
  · rename_i t x lo hi mx ho
    have hm : ∀ o : Option Operand, o.map A.eval = (o.map (ev f)).map (AV.real ρ) := fun o => by cases o <;> simp [E]
    have := run_slc H hr
    simp only [ho, E, hm, Sem.run_bind, this.1, Result.andThen_ok, Sem.run_pure]; exact ⟨trivial, this.2 (S x)⟩
  · rename_i s x k ho
    have := run_fad (ρ := ρ) (w := w) (h := h) hr
    simp only [ho, E, Sem.run_bind, this.1, Result.andThen_ok, Sem.run_pure]; exact ⟨trivial, this.2 (S x)⟩
  · rename_i t x k ho
    have := run_fld (ρ := ρ) (w := w) (h := h) hr
    simp only [ho, E, Sem.run_bind, this.1, Result.andThen_ok, Sem.run_pure]; exact ⟨trivial, this.2 (S x)⟩
  · rename_i t x i ho
    have := run_iad (ρ := ρ) (w := w) (h := h) hr
    simp only [ho, E, Sem.run_bind, this.1, Result.andThen_ok, Sem.run_pure]; exact ⟨trivial, this.2 (S x)⟩
  · rename_i t x i ho
    have := run_idx (ρ := ρ) (w := w) (h := h) hr
    simp only [ho, E, Sem.run_bind, this.1, Result.andThen_ok, Sem.run_pure]; exact ⟨trivial, this.2 (S x)⟩
  · rename_i t x k ok ho
    have := run_lkp H hr
    simp only [ho, E, Sem.run_bind, this.1, Result.andThen_ok, Sem.run_pure]; exact ⟨trivial, this.2⟩
  · rename_i x i ho
    have Sx := S x
    split at hr
    · rename_i vs hx
      rw [hx] at Sx
      have hg : (AV.reals ρ vs).toArray[i]? = some (r.real ρ) := by simp only [List.getElem?_toArray, reals_getElem?, hr, Option.map_some]
      simp only [ho, E, hx, AV.real, Instr.extract, Sem.run_bind, hg, Sem.run_pure, Result.andThen_ok]
      exact ⟨trivial, (scs_iff _ vs).1 Sx r (List.mem_of_getElem? hr)⟩
    · cases hr
  · rename_i t parts ho
    have := run_bld hr ρ w
    have hp : parts.map (fun (i, x) => (i, A.eval x)) = ((parts.toList.map fun p => (p.1, ev f p.2)).map fun p => (p.1, p.2.real ρ)).toArray := by
      apply Array.ext'
      simp [E]
    simp only [ho, Sem.run_bind, hp, this.1, Result.andThen_ok, Sem.run_pure]
    refine ⟨trivial, this.2 _ fun p hp => ?_⟩
    obtain ⟨q, _, rfl⟩ := List.mem_map.1 hp
    exact S _
  · rename_i c ho
    split at hr
    · rename_i b hb
      simp only [ho, resolve, hb, Sem.run_bind, Sem.run_pure, Result.andThen_ok, invoke, map_real hA]
      exact ⟨(run_exB hr ρ w).1, (run_exB (ty := o.type) (cn := #[]) hr ρ w).2 _⟩
    · cases hr
  · cases hr
end
end Go.Az
/-
  Operations that turn the memory: new cells, stores, maps, new rows. Conditions: stated at each theorem.
-/
set_option linter.unusedSimpArgs false
set_option linter.unusedVariables false
namespace Go.Az
open Go Go.Chz Go.RowKit

/-- What an operation that turns the memory comes to. -/
def Out (P : Program) (ρ : Nat → Place) (h : Hp) (w : World) (r : AV) (h' : Hp) (x : Result Next) : Prop :=
  ∃ ρ' w', (x = .ok (.value (r.real ρ')) w' ∨ (x = .ok .skip w' ∧ r = .v undef)) ∧ r.sc h'.length = true ∧ h.length ≤ h'.length ∧ HRel P ρ' h' w' ∧ Stp h.length ρ h w ρ' h' w'
/-- The same of one that yields a value. -/
def OutV (P : Program) (ρ : Nat → Place) (h : Hp) (w : World) (r : AV) (h' : Hp) (x : Result Value) : Prop :=
  ∃ ρ' w', x = .ok (r.real ρ') w' ∧ r.sc h'.length = true ∧ h.length ≤ h'.length ∧ HRel P ρ' h' w' ∧ Stp h.length ρ h w ρ' h' w'
def OutU (P : Program) (ρ : Nat → Place) (h : Hp) (w : World) (h' : Hp) (x : Result Unit) : Prop :=
  ∃ ρ' w', x = .ok () w' ∧ h.length ≤ h'.length ∧ HRel P ρ' h' w' ∧ Stp h.length ρ h w ρ' h' w'

section
variable {P : Program} {ρ : Nat → Place} {h : Hp} {w : World}

/-- What is live lies in a block that is there. -/
theorem HRel.live_lt (H : HRel P ρ h w) {i : Nat} {o : AObj} (hi : h[i]? = some o) (ho : o.live = true) : (ρ i).b < w.heap.size := by
  by_cases hown : o.own = true
  · exact H.lt hi hown
  · cases o with
    | gone => cases ho
    | cells cs t own =>
      cases cs with
      | nil => simp [AObj.live] at ho; exact absurd ho hown
      | cons a r => exact World.block_lt_of_cell? w ⟨(ρ i).b, (ρ i).o + 0, none⟩ ((H.obj i _ hi).1 0 a rfl)
    | map es c => exact absurd rfl hown
    | loop st pe tm ps asg bd d => exact absurd rfl hown
    | dfr => exact absurd rfl hown

theorem World.alloc_eq (w : World) (o : Obj) : ({ w with heap := w.heap.push o } : World) = w.alloc o := rfl

/-- New cells in a new block. -/
theorem HRel.pushCells (H : HRel P ρ h w) {cs : List AV} {t : TypeId} {cap : Nat} {cur : Array Value} {fz : Nat × Nat} (hs : AV.scs h.length cs = true)
    (hcur : ∀ (j : Nat) (a : AV), cs[j]? = some a → cur[j]? = some (a.real ρ)) (hf : freeRow fz cur.size) (hm : cap ≤ maxLen)
    (hc : ∀ inf, P.info? t = some inf → cap * inf.size ≤ cur.size ∧ cs.length ≤ cap * inf.size) :
    HRel P (upd ρ h.length ⟨w.heap.size, 0, cap⟩) (h ++ [.cells cs t true]) (w.alloc (.cells cur t fz)) ∧
    Stp h.length ρ h w (upd ρ h.length ⟨w.heap.size, 0, cap⟩) (h ++ [.cells cs t true]) (w.alloc (.cells cur t fz)) := by
  have hb : ∀ b, b < w.heap.size → (w.alloc (.cells cur t fz)).heap[b]? = w.heap[b]? := fun b hb => Below.heap_alloc w _ b hb
  have hg : (w.alloc (.cells cur t fz)).heap[w.heap.size]? = some (.cells cur t fz) := heap_alloc_new w _
  refine ⟨HRel.push (H.other fun i o _ _ hlt => hb _ hlt) ⟨fun j a hj => ?_, fun _ => ⟨rfl, cur, fz, hg, hf, hm, hc⟩⟩ ?_ ?_, Stp.push rfl rfl rfl (by simp) hb (fun _ => Nat.le_refl _)⟩
  · have ha : a.sc h.length = true := (scs_iff _ cs).1 hs a (List.mem_of_getElem? hj)
    have hr : a.real (upd ρ h.length ⟨w.heap.size, 0, cap⟩) = a.real ρ := real_agree (upd_lt ρ _) a ha
    rw [hr, cell_of_row _ w.heap.size (0 + j) cur t fz hg, Nat.zero_add]
    exact hcur j a hj
  · exact scs_mono (by omega) cs hs
  · intro _ j o' hj ho' _
    have := H.live_lt hj ho'
    simp only; omega

theorem OutV.value {r : AV} {h' : Hp} {x : Result Value} (hx : OutV P ρ h w r h' x) : Out P ρ h w r h' (x.andThen fun v w => .ok (.value v) w) := by
  obtain ⟨ρ', w', rfl, h1, h2, h3, h4⟩ := hx
  exact ⟨ρ', w', .inl rfl, h1, h2, h3, h4⟩
theorem OutU.skip {h' : Hp} {x : Result Unit} (hx : OutU P ρ h w h' x) : Out P ρ h w (.v undef) h' (x.andThen fun _ w => .ok .skip w) := by
  obtain ⟨ρ', w', rfl, h1, h3, h4⟩ := hx
  exact ⟨ρ', w', .inr ⟨rfl, rfl⟩, rfl, h1, h3, h4⟩

/-! ### New variables -/
def newC (P : Program) (h : Hp) (t : TypeId) (cs : List AV) : Option (AV × Hp) :=
  match P.info? t with
  | some inf => if cs.length = inf.size then some (.ptr h.length 0, h ++ [.cells cs t true]) else none
  | none => none
theorem newC_ok (H : HRel P ρ h w) {t : TypeId} {cs : List AV} {v : Value} {r : AV} {h' : Hp} (hr : newC P h t cs = some (r, h')) (hs : AV.scs h.length cs = true) (hv : v.cells = (AV.reals ρ cs).toArray) :
    OutV P ρ h w r h' (((do pure (.pointer (some (← newVar t v)))) : Sem Value).run P w) := by
  unfold newC at hr
  split at hr
  · rename_i inf hinf
    simp only [Option.ite_none_right_eq_some, Option.some.injEq, Prod.mk.injEq] at hr
    obtain ⟨hl, rfl, rfl⟩ := hr
    have hp := H.pushCells (t := t) (cap := 1) (cur := (AV.reals ρ cs).toArray) (fz := (0, 0)) hs (fun j a hj => by simp [reals_getElem?, hj]) (.inl (Nat.le_refl _)) (by simp [maxLen])
      (fun i hi => by rw [hinf] at hi; injection hi with hi; subst hi; simp [reals_length]; omega)
    refine ⟨_, _, ?_, ?_, by simp, hp.1, hp.2⟩
    · simp only [newVar, newRow, hv, Sem.run_bind, run_newObj, Result.andThen_ok, Sem.run_pure, AV.real, upd_same]
      rfl
    · simp [AV.sc]
  · cases hr

/-! ### Rows of zeros, and of parts -/
def zrow (x : TI) (n : Nat) : List AV := (List.range n).map fun i => .v (x.zc.getD (i % x.size) undef)
theorem zrow_real (ρ : Nat → Place) (x : TI) (n : Nat) (z : Value) (hz : z.cells = x.zc.toArray) (hl : x.zc.length = x.size) (h0 : n = 0 ∨ 0 < x.size) (zz : Array Value) (hzz : n ≠ 0 → zz = z.cells) :
    (Array.range n).map (fun i => zz[i % zz.size]!) = (AV.reals ρ (zrow x n)).toArray := by
  apply Array.ext'
  simp only [Array.toList_map, Array.toList_range, zrow, reals_eq, List.map_map]
  refine List.map_congr_left fun i hi => ?_
  have hn : n ≠ 0 := by rintro rfl; simp at hi
  rw [hzz hn, hz]
  have hsz : 0 < x.size := h0.resolve_left hn
  have : i % x.size < x.zc.length := by rw [hl]; exact Nat.mod_lt _ hsz
  simp [hl, AV.real, List.getD_eq_getElem?_getD, List.getElem?_eq_getElem this]
theorem zrow_sc (n m : Nat) (x : TI) : AV.scs n (zrow x m) = true := (scs_iff n _).2 fun a ha => by
  simp only [zrow, List.mem_map] at ha; obtain ⟨_, _, rfl⟩ := ha; rfl
theorem zrow_length (x : TI) (n : Nat) : (zrow x n).length = n := by simp [zrow]

def bsl (P : Program) (h : Hp) (t : TypeId) (len : Nat) (parts : List (Nat × AV)) : Option (AV × Hp) :=
  match P.underlying t with
  | some (.slice e) => match tab P e with
    | some x => if len * x.size ≤ 16777216 ∧ 0 < x.size ∧ len ≤ 16777216 then
        match afill (fun i => some (i * x.size, x.size)) (zrow x (len * x.size)) parts with
        | some cs => if cs.length = len * x.size then some (.sl h.length 0 len len false, h ++ [.cells cs e true]) else none
        | none => none
      else none
    | none => none
  | _ => none
theorem bsl_ok (H : HRel P ρ h w) {t : TypeId} {len : Nat} {parts : List (Nat × AV)} {r : AV} {h' : Hp} (hr : bsl P h t len parts = some (r, h')) (hs : ∀ p ∈ parts, p.2.sc h.length = true) :
    OutV P ρ h w r h' ((Instr.buildSlice t len (parts.map fun p => (p.1, p.2.real ρ)).toArray).run P w) := by
  unfold bsl at hr
  split at hr
  · rename_i e hu
    split at hr
    · rename_i x hx
      obtain ⟨hu2, inf, z, hinf, hsz, hb, hz, hzc, hl, h1, hagg, hna⟩ := tab_spec hx
      simp only [Option.ite_none_right_eq_some] at hr
      obtain ⟨⟨hle, h0, hlen⟩, hr⟩ := hr
      split at hr
      · rename_i cs hcs
        simp only [Option.ite_none_right_eq_some, Option.some.injEq, Prod.mk.injEq] at hr
        obtain ⟨hcl, rfl, rfl⟩ := hr
        have hf := afill_real ρ _ _ _ _ hcs
        have hcsc := afill_sc hcs (zrow_sc _ _ x) hs
        have hp := H.pushCells (t := e) (cap := len) (cur := (AV.reals ρ cs).toArray) (fz := (0, 0)) hcsc (fun j a hj => by simp [reals_getElem?, hj]) (.inl (Nat.le_refl _)) (by simp [maxLen]; omega)
          (fun i hi => by rw [hinf] at hi; injection hi with hi; subst hi; simp [reals_length, hsz, hcl])
        refine ⟨_, _, ?_, by simp [AV.sc], by simp, hp.1, hp.2⟩
        have hzr : (zeroValue e).run P w = .ok z w := by simp [zeroValue, typeInfo, hinf, hz]
        have hn24 : ¬ (len * x.size > 2 ^ 24) := by omega
        simp only [Instr.buildSlice, Sem.run_bind, run_underlying hu w, Result.andThen_ok, run_sizeOf hinf w, hsz, hn24, if_false]
        by_cases hn : len * x.size = 0
        · have e0 := zrow_real ρ x (len * x.size) z hzc hl (.inr h0) #[] (fun h => absurd hn h)
          simp only [hn, if_true, pure_bind] at e0 ⊢
          rw [hn] at hf
          rw [e0, hf]
          simp only [newRow, Sem.run_bind, run_newObj, Result.andThen_ok, Sem.run_pure, AV.real, upd_same, Bool.false_eq_true, if_false]
          rfl
        · have e0 := zrow_real ρ x (len * x.size) z hzc hl (.inr h0) z.cells (fun _ => rfl)
          simp only [hn, if_false, Sem.run_bind, hzr, Sem.run_pure, Result.andThen_ok]
          rw [e0, hf]
          simp only [newRow, Sem.run_bind, run_newObj, Result.andThen_ok, Sem.run_pure, AV.real, upd_same, Bool.false_eq_true, if_false]
          rfl
      · cases hr
    · cases hr
  · cases hr

def msl (P : Program) (h : Hp) (t : TypeId) (l c : AV) : Option (AV × Hp) :=
  match P.underlying t, intOf? l, intOf? c with
  | some (.slice e), some l, some c => match tab P e with
    | some x => if 0 ≤ l ∧ l ≤ c ∧ c ≤ 9223372036854775807 ∧ (x.bytes : Int) * c ≤ 281474976710656 ∧ 0 < x.size then
        some (.sl h.length 0 l.toNat c.toNat false, h ++ [.cells (zrow x (c.toNat * x.size)) e true])
      else none
    | none => none
  | _, _, _ => none
theorem wrap_i64_in {n : Int} (h0 : -9223372036854775808 ≤ n) (h1 : n ≤ 9223372036854775807) : IntKind.i64.wrap n = n := IntWalk.i64_in n ⟨h0, h1⟩
theorem msl_ok (H : HRel P ρ h w) {t : TypeId} {l c r : AV} {h' : Hp} (hr : msl P h t l c = some (r, h')) :
    OutV P ρ h w r h' ((Instr.makeSlice t (l.real ρ) (c.real ρ)).run P w) := by
  unfold msl at hr
  split at hr
  · rename_i e ln cn hu hl' hc'
    obtain ⟨k1, rfl⟩ := intOf?_spec hl'
    obtain ⟨k2, rfl⟩ := intOf?_spec hc'
    split at hr
    · rename_i x hx
      obtain ⟨hu2, inf, z, hinf, hsz, hb, hz, hzc, hl, h1, hagg, hna⟩ := tab_spec hx
      simp only [Option.ite_none_right_eq_some, Option.some.injEq, Prod.mk.injEq] at hr
      obtain ⟨⟨hl0, hlc, hcm, hby, h0⟩, rfl, rfl⟩ := hr
      have hp := H.pushCells (cs := zrow x (cn.toNat * x.size)) (t := e) (cap := cn.toNat) (cur := (AV.reals ρ (zrow x (cn.toNat * x.size))).toArray) (fz := (0, 0)) (zrow_sc _ _ x) (fun j a hj => by rw [List.getElem?_toArray, reals_getElem?, hj]; rfl) (.inl (Nat.le_refl _)) (by simp [maxLen]; omega)
        (fun i hi => by rw [hinf] at hi; injection hi with hi; subst hi; simp [reals_length, hsz, zrow_length])
      refine ⟨_, _, ?_, by simp [AV.sc], by simp, hp.1, hp.2⟩
      have hzr : (zeroValue e).run P w = .ok z w := by simp [zeroValue, typeInfo, hinf, hz]
      have w1 := wrap_i64_in (n := ln) (by omega) (by omega)
      have w2 := wrap_i64_in (n := cn) (by omega) (by omega)
      have t1 : ((decide (cn < 0) || decide ((inf.bytes : Int) * cn > 2 ^ 48)) || decide (ln < 0) || decide (ln > cn)) = false := by
        rw [hb]; simp; omega
      simp only [Instr.makeSlice, AV.real, asInt, asIntOf, Sem.run_bind, run_underlying hu w, Sem.run_pure, Result.andThen_ok, typeInfo, run_program, hinf, w1, w2, t1, Bool.false_eq_true, if_false, run_askRoom, run_sizeOf hinf w, hsz]
      by_cases hn : cn.toNat * x.size = 0
      · have e0 := zrow_real ρ x (cn.toNat * x.size) z hzc hl (.inr h0) #[] (fun h => absurd hn h)
        simp only [hn, if_true, pure_bind] at e0 ⊢
        rw [e0]
        simp only [newRow, Sem.run_bind, run_newObj, Result.andThen_ok, Sem.run_pure, upd_same, Bool.false_eq_true, if_false]
        rfl
      · have e0 := zrow_real ρ x (cn.toNat * x.size) z hzc hl (.inr h0) z.cells (fun _ => rfl)
        simp only [hn, if_false, Sem.run_bind, hzr, Sem.run_pure, Result.andThen_ok]
        rw [e0]
        simp only [newRow, Sem.run_bind, run_newObj, Result.andThen_ok, Sem.run_pure, upd_same, Bool.false_eq_true, if_false]
        rfl
    · cases hr
  · cases hr
end
end Go.Az
/-
  Stores, maps, new rows by append and by conversion; all operations that turn the memory: 'exH'. Conditions: stated at each theorem.
-/
set_option linter.unusedSimpArgs false
set_option linter.unusedVariables false
namespace Go.Az
open Go Go.Chz Go.RowKit

section
variable {P : Program} {ρ : Nat → Place} {h : Hp} {w : World}

theorem grown_hb {w' : World} {g : Nat} (hg : w.grownBy w' (some g)) : ∀ b, b ≠ g → b < w.heap.size → w'.heap[b]? = w.heap[b]? :=
  fun b hne hlt => hg.block b hlt (fun e => hne (Option.some.inj e))

/-! ### Stores -/
def allOne : List AV → Bool
  | [] => true
  | a :: r => a.one && allOne r
theorem allOne_iff : ∀ l : List AV, allOne l = true ↔ ∀ a ∈ l, a.one = true
  | [] => by simp [allOne]
  | a :: r => by simp [allOne, allOne_iff r]
/-- Cells of the call's own, written. -/
theorem HRel.writeCells (H : HRel P ρ h w) {i o : Nat} {cs vs : List AV} {t : TypeId} (hi : h[i]? = some (.cells cs t true)) (hle : o + vs.length ≤ cs.length) (h1 : allOne vs = true) (hs : AV.scs h.length vs = true) :
    ∃ w', (storeCells ⟨(ρ i).b, (ρ i).o + o, none⟩ (AV.reals ρ vs)).run P w = .ok () w' ∧ HRel P ρ (h.set i (.cells (setMany cs o vs) t true)) w' ∧ Stp h.length ρ h w ρ (h.set i (.cells (setMany cs o vs) t true)) w' := by
  obtain ⟨hcell, hown⟩ := H.obj i _ hi
  obtain ⟨h0, cur, fz, hg, hf, hm, hcap⟩ := hown rfl
  have hcur : ∀ (j : Nat) (a : AV), cs[j]? = some a → cur[j]? = some (a.real ρ) := by
    intro j a hj
    have := hcell j a hj
    rw [h0, Nat.zero_add, cell_of_row w _ j cur t fz hg] at this
    exact this
  have hlen : cs.length ≤ cur.size := by
    cases hn : cs.length with
    | zero => omega
    | succ n =>
      have hlt : n < cs.length := by omega
      have := hcur n cs[n] (List.getElem?_eq_getElem hlt)
      have := (Array.getElem?_eq_some_iff.1 this).1
      omega
  have hone : ∀ v ∈ AV.reals ρ vs, v.oneCell' = true := by
    intro v hv
    rw [reals_eq] at hv
    obtain ⟨a, ha, rfl⟩ := List.mem_map.1 hv
    exact one_real ρ a ((allOne_iff vs).1 h1 a ha)
  obtain ⟨w', cur', hst, hg', hsz, hgr, hl⟩ := run_storeCells_free (P := P) (ρ i).b o t fz (AV.reals ρ vs) 0 cur w hg hf (by rw [reals_length]; omega) hone
  simp only [Nat.add_zero, reals_length] at hl
  refine ⟨w', by rw [h0, Nat.zero_add]; exact hst, H.set hi rfl ⟨fun j a hj => ?_, fun _ => ⟨h0, cur', fz, hg', by rw [hsz]; exact hf, hm, fun inf hinf => ?_⟩⟩ ?_ (grown_hb hgr), Stp.set _ hi rfl hgr.os hgr.tape hgr.output hgr.size (grown_hb hgr)⟩
  · rw [h0, Nat.zero_add, cell_of_row w' _ j cur' t fz hg', ← Array.getElem?_toList, hl]
    unfold setMany at hj
    have e : (AV.reals ρ (cs.take o ++ vs ++ cs.drop (o + vs.length)))[j]? = some (a.real ρ) := by rw [reals_getElem?, hj]; rfl
    have e2 : AV.reals ρ (cs.take o ++ vs ++ cs.drop (o + vs.length)) = (AV.reals ρ cs).take o ++ AV.reals ρ vs ++ (AV.reals ρ cs).drop (o + vs.length) := by
      simp only [reals_eq, List.map_append, List.map_take, List.map_drop]
    rw [e2] at e
    have hpre : ∀ k, k < cs.length → cur.toList[k]? = (AV.reals ρ cs)[k]? := by
      intro k hk
      rw [Array.getElem?_toList, hcur k cs[k] (List.getElem?_eq_getElem hk), reals_getElem?, List.getElem?_eq_getElem hk]; rfl
    have hj1 : j < cs.length := by
      have := (List.getElem?_eq_some_iff.1 hj).1
      simp only [List.length_append, List.length_take, List.length_drop] at this
      omega
    rw [← e]
    simp only [List.getElem?_append, List.length_append, List.length_take, reals_length, Array.length_toList, List.getElem?_take, List.getElem?_drop]
    have m1 : min o cur.size = o := by omega
    have m2 : min o cs.length = o := by omega
    rw [m1, m2]
    split
    · split
      · exact hpre j hj1
      · rfl
    · exact hpre _ (by omega)
  · obtain ⟨c1, c2⟩ := hcap inf hinf
    refine ⟨by rw [hsz]; exact c1, ?_⟩
    simp only [setMany, List.length_append, List.length_take, List.length_drop]
    omega
  · exact setMany_sc (H.sc i _ hi) hs

def sto (P : Program) (h : Hp) (t : TypeId) (a x : AV) : Option Hp :=
  match a, P.info? t with
  | .ptr i o, some inf => match h[i]? with
    | some (.cells cs t' true) => if x.cellOk = true ∧ allOne x.cellsL = true ∧ x.cellsL.length = inf.size ∧ o + inf.size ≤ cs.length then some (h.set i (.cells (setMany cs o x.cellsL) t' true)) else none
    | _ => none
  | _, _ => none
theorem sto_ok (H : HRel P ρ h w) {t : TypeId} {a x : AV} {h' : Hp} (hr : sto P h t a x = some h') (hx : x.sc h.length = true) : OutU P ρ h w h' ((Instr.storeAt t (a.real ρ) (x.real ρ)).run P w) := by
  unfold sto at hr
  split at hr
  · rename_i i o inf hinf
    split at hr
    · rename_i cs t' hi
      simp only [Option.ite_none_right_eq_some, Option.some.injEq] at hr
      obtain ⟨⟨hok, h1, hsz, hle⟩, rfl⟩ := hr
      obtain ⟨w', hst, hH, hS⟩ := H.writeCells hi (vs := x.cellsL) (o := o) (by omega) h1 (cellsL_sc hx)
      refine ⟨ρ, w', ?_, by simp, hH, hS⟩
      have hc := cellsL_real ρ x (cellOk_spec hok)
      have hcs : ¬ ((x.real ρ).cells.size ≠ inf.size) := by rw [hc]; simp [reals_length, hsz]
      simp only [Instr.storeAt, AV.real, Instr.sureAddr, Sem.run_bind, Sem.run_pure, Result.andThen_ok, storeVar, run_sizeOf hinf w, hcs, if_false]
      rw [hc, List.toList_toArray]
      exact hst
    · cases hr
  · cases hr

/-! ### Maps -/
theorem Stp.pushObj (H : HRel P ρ h w) {o : AObj} {ob : Obj} (hs : o.sc (h.length + 1) = true) (ho : ORel P (upd ρ h.length ⟨w.heap.size, 0, 0⟩) (w.alloc ob) ⟨w.heap.size, 0, 0⟩ o) :
    HRel P (upd ρ h.length ⟨w.heap.size, 0, 0⟩) (h ++ [o]) (w.alloc ob) ∧ Stp h.length ρ h w (upd ρ h.length ⟨w.heap.size, 0, 0⟩) (h ++ [o]) (w.alloc ob) := by
  have hb : ∀ b, b < w.heap.size → (w.alloc ob).heap[b]? = w.heap[b]? := fun b hb => Below.heap_alloc w _ b hb
  refine ⟨HRel.push (H.other fun i o _ _ hlt => hb _ hlt) ho hs fun _ j o' hj ho' _ => ?_, Stp.push rfl rfl rfl (by simp) hb (fun _ => Nat.le_refl _)⟩
  have := H.live_lt hj ho'
  simp only; omega
def mkm (h : Hp) (reserve : Option AV) : Option (AV × Hp) :=
  match reserve with
  | none => some (.mp h.length, h ++ [.map [] 0])
  | some _ => none
theorem mkm_ok (H : HRel P ρ h w) {t : TypeId} {reserve : Option AV} {r : AV} {h' : Hp} (hr : mkm h reserve = some (r, h')) : OutV P ρ h w r h' ((Instr.makeMap t (reserve.map (AV.real ρ))).run P w) := by
  unfold mkm at hr
  split at hr
  · simp only [Option.some.injEq, Prod.mk.injEq] at hr
    obtain ⟨rfl, rfl⟩ := hr
    have hp := Stp.pushObj (ob := .map #[] 0) H (o := .map [] 0) rfl (by simp only [ORel]; exact heap_alloc_new w _)
    refine ⟨_, _, ?_, by simp [AV.sc], by simp, hp.1, hp.2⟩
    simp only [Instr.makeMap, Option.map_none, Sem.run_bind, run_newObj, Result.andThen_ok, Sem.run_pure, AV.real, upd_same]
    rfl
  · cases hr

/-- The entry of a key: its number among them. -/
def midx (d : TypeDesc) (k : Value) : List (Value × AV × Nat) → Nat → Option (Option Nat)
  | [], _ => some none
  | e :: r, i => match Instr.sameNow d k e.1 with
    | some true => some (some i)
    | some false => midx d k r (i + 1)
    | none => none
theorem midx_real (ρ : Nat → Place) (d : TypeDesc) (k : Value) : ∀ (es : List (Value × AV × Nat)) (i : Nat) (r : Option Nat), midx d k es i = some r →
    match r with
    | none => Instr.findNow d k (mapReal ρ es) i = some none
    | some j => i ≤ j ∧ ∃ e, es[j - i]? = some e ∧ Instr.sameNow d k e.1 = some true ∧ Instr.findNow d k (mapReal ρ es) i = some (some (j, e.2.1.real ρ))
  | [], i, r, h => by simp [midx] at h; subst h; rfl
  | e :: es, i, r, h => by
    simp only [midx] at h
    split at h
    · rename_i hs
      injection h with h; subst h
      exact ⟨Nat.le_refl _, e, by simp, hs, by simp [mapReal, Instr.findNow, hs]⟩
    · rename_i hs
      have ih := midx_real ρ d k es (i + 1) r h
      cases r with
      | none => simp only [mapReal, List.map_cons, Instr.findNow, hs] at ih ⊢; exact ih
      | some j =>
        obtain ⟨hle, e', he', hs', hf⟩ := ih
        refine ⟨by omega, e', ?_, hs', by simp only [mapReal, List.map_cons, Instr.findNow, hs] at hf ⊢; exact hf⟩
        rw [show j - i = (j - (i + 1)) + 1 by omega, List.getElem?_cons_succ]; exact he'
    · cases h
theorem sameBits_of_sameNow {d : TypeDesc} {k k' : Value} (hd : keyD d = true) (h : Instr.sameNow d k k' = some true) : Instr.sameBits 10000 k' k = true := by
  unfold Instr.sameNow at h
  split at h
  · split at h
    · rename_i hk
      subst hk
      simp at h
      subst h
      simp [Instr.sameBits]
    · cases h
  · rename_i a b
    have e0 : (a == b) = (a.data == b.data) := rfl
    have e1 : (b == a) = (b.data == a.data) := rfl
    injection h with h
    rw [e0] at h
    have : a.data = b.data := by simpa using h
    unfold Instr.sameBits
    rw [e1]; simp [this]
  · simp [keyD] at hd
  · cases h
def mset (es : List (Value × AV × Nat)) (i : Nat) (k : Value) (v : AV) : List (Value × AV × Nat) :=
  match es[i]? with
  | some e => es.set i (k, v, e.2.2)
  | none => es
theorem mset_real (ρ : Nat → Place) (es : List (Value × AV × Nat)) (i : Nat) (k : Value) (v : AV) : (mapReal ρ es).toArray.modify i (fun e => { e with key := k, val := v.real ρ }) = (mapReal ρ (mset es i k v)).toArray := by
  apply Array.ext'
  rw [Array.toList_modify, List.toList_toArray]
  unfold mset
  cases hi : es[i]? with
  | none =>
    have : es.length ≤ i := List.getElem?_eq_none_iff.1 hi
    rw [List.modify_eq_self (by simp [mapReal]; omega)]
  | some e =>
    simp only
    have hlt : i < es.length := (List.getElem?_eq_some_iff.1 hi).1
    apply List.ext_getElem?
    intro j
    rw [List.getElem?_modify]
    simp only [mapReal, List.getElem?_map, List.getElem?_set]
    by_cases hij : i = j
    · subst hij
      have he : es[i] = e := by rw [List.getElem?_eq_getElem hlt] at hi; injection hi
      simp [hlt, he]
    · simp [hij]
def mpu (P : Program) (h : Hp) (t : TypeId) (m k v : AV) : Option Hp :=
  match P.underlying t, m, k with
  | some (.map kt _), .mp i, .v kv =>
    match h[i]?, P.underlying kt with
    | some (.map es c), some kd => if keyD kd = true then
        match midx kd kv es 0 with
        | some (some j) => some (h.set i (.map (mset es j kv v) c))
        | some none => some (h.set i (.map (es ++ [(kv, v, c)]) (c + 1)))
        | none => none
      else none
    | _, _ => none
  | _, _, _ => none
theorem run_setObj {b : Nat} {o o' : Obj} (hg : w.heap[b]? = some o) (hne : ∀ c e f, o ≠ .cells c e f) : (setObj b o').run P w = .ok () { w with heap := w.heap.setIfInBounds b o' } := by
  cases o <;> first | exact absurd rfl (hne _ _ _) | simp only [setObj, Sem.run, hg]
theorem HRel.setObj (H : HRel P ρ h w) {i : Nat} {x o : AObj} {ob : Obj} (hi : h[i]? = some x) (hx : x.own = true) (hs : o.sc h.length = true)
    (ho : ORel P ρ { w with heap := w.heap.setIfInBounds (ρ i).b ob } (ρ i) o) :
    HRel P ρ (h.set i o) { w with heap := w.heap.setIfInBounds (ρ i).b ob } ∧ Stp h.length ρ h w ρ (h.set i o) { w with heap := w.heap.setIfInBounds (ρ i).b ob } := by
  have hb : ∀ b, b ≠ (ρ i).b → b < w.heap.size → ({ w with heap := w.heap.setIfInBounds (ρ i).b ob } : World).heap[b]? = w.heap[b]? := by
    intro b hne _
    simp only
    rw [Array.getElem?_setIfInBounds_ne (Ne.symm hne)]
  exact ⟨H.set hi hx ho hs hb, Stp.set _ hi hx rfl rfl rfl (by simp) hb⟩
theorem all_set {f : (Value × AV × Nat) → Bool} {es : List (Value × AV × Nat)} {i : Nat} {e : Value × AV × Nat} (h : es.all f = true) (he : f e = true) : (es.set i e).all f = true := by
  rw [List.all_eq_true] at h ⊢
  intro x hx
  rcases List.mem_or_eq_of_mem_set hx with h1 | h1
  · exact h x h1
  · exact h1 ▸ he
theorem mpu_ok (H : HRel P ρ h w) {t : TypeId} {m k v : AV} {h' : Hp} (hr : mpu P h t m k v = some h') (hv : v.sc h.length = true) : OutU P ρ h w h' ((Instr.mapUpdate t (m.real ρ) (k.real ρ) (v.real ρ)).run P w) := by
  unfold mpu at hr
  split at hr
  · rename_i kt et i kv hu
    split at hr
    · rename_i es c kd hi hk
      simp only [Option.ite_none_right_eq_some] at hr
      obtain ⟨hkd, hr⟩ := hr
      have hg : w.heap[(ρ i).b]? = some (.map (mapReal ρ es).toArray c) := H.obj i _ hi
      have hlt : (ρ i).b < w.heap.size := H.lt hi rfl
      have hget : (getObj (ρ i).b).run P w = .ok (.map (mapReal ρ es).toArray c) w := by simp only [getObj, Sem.run, hg]
      have hset : ∀ o', (setObj (ρ i).b o').run P w = .ok () { w with heap := w.heap.setIfInBounds (ρ i).b o' } := fun o' => run_setObj hg (by intro _ _ _ h; cases h)
      have hcs := H.sc i _ hi
      split at hr
      · rename_i j hm
        injection hr with hr; subst hr
        obtain ⟨_, e, he, hsn, hf⟩ := midx_real ρ kd kv es 0 (some j) hm
        simp only [Nat.sub_zero] at he
        have hgj : (mapReal ρ es).toArray[j]? = some { key := e.1, val := e.2.1.real ρ, born := e.2.2 } := by simp [mapReal, he]
        have hst : (Instr.keyThatStays e.1 kv).run P w = .ok kv w := by
          unfold Instr.keyThatStays
          rw [sameBits_of_sameNow hkd hsn]; rfl
        have hp := H.setObj (ob := .map (mapReal ρ (mset es j kv v)).toArray c) hi rfl (o := .map (mset es j kv v) c) (by
          unfold mset; rw [he]; exact all_set hcs hv) (by simp only [ORel, Array.getElem?_setIfInBounds_self_of_lt hlt])
        refine ⟨ρ, _, ?_, by simp, hp.1, hp.2⟩
        simp only [Instr.mapUpdate, AV.real, Sem.run_bind, run_underlying hu w, Result.andThen_ok, hget, run_checkKey hk hkd, Instr.findKey, run_underlying hk w, List.toList_toArray, hf, Sem.run_pure, hgj, Option.map_some, Option.getD_some, hst, mset_real, hset]
      · rename_i hm
        injection hr with hr; subst hr
        have hf := midx_real ρ kd kv es 0 none hm
        have hp := H.setObj (ob := .map (mapReal ρ (es ++ [(kv, v, c)])).toArray (c + 1)) hi rfl (o := .map (es ++ [(kv, v, c)]) (c + 1)) (by
          simp only [AObj.sc, List.all_append, List.all_cons, List.all_nil, Bool.and_true, Bool.and_eq_true]; exact ⟨hcs, hv⟩) (by simp only [ORel, Array.getElem?_setIfInBounds_self_of_lt hlt])
        refine ⟨ρ, _, ?_, by simp, hp.1, hp.2⟩
        have hpush : (mapReal ρ es).toArray.push { key := kv, val := v.real ρ, born := c } = (mapReal ρ (es ++ [(kv, v, c)])).toArray := by
          apply Array.ext'; simp [mapReal]
        simp only at hf
        simp only [Instr.mapUpdate, AV.real, Sem.run_bind, run_underlying hu w, Result.andThen_ok, hget, run_checkKey hk hkd, Instr.findKey, run_underlying hk w, List.toList_toArray, hf, Sem.run_pure, hpush, hset]
      · cases hr
    · cases hr
  · cases hr
end
end Go.Az
/-
  New rows by append and by conversion; all operations that turn the memory: 'exH'. Conditions: stated at each theorem.
-/
set_option linter.unusedSimpArgs false
set_option linter.unusedVariables false
namespace Go.Az
open Go Go.Chz Go.RowKit

section
variable {P : Program} {ρ : Nat → Place} {h : Hp} {w : World}

/-! ### Strings as bytes -/
def toB (l : List UInt8) : List AV := l.map fun b => .v (.int .u8 (b.toNat : Nat))
theorem toB_reals (ρ : Nat → Place) (l : List UInt8) : AV.reals ρ (toB l) = bcells l := by
  rw [reals_eq, toB, List.map_map]; rfl
theorem toB_sc (n : Nat) (l : List UInt8) : AV.scs n (toB l) = true := (scs_iff n _).2 fun a ha => by
  obtain ⟨_, _, rfl⟩ := List.mem_map.1 ha; rfl
def byt (P : Program) (h : Hp) (s d : TypeId) (x : AV) : Option (AV × Hp) :=
  match P.underlying s, P.underlying d, x with
  | some .string, some (.slice e), .v (.string b) => match P.underlying e, P.info? e with
    | some (.int .u8), some inf => if inf.size = 1 ∧ b.data.toList.length ≤ 9223372036854775807 then some (.sl h.length 0 b.data.toList.length 0 true, h ++ [.cells (toB b.data.toList) e true]) else none
    | _, _ => none
  | _, _, _ => none
theorem byt_ok (H : HRel P ρ h w) {s d : TypeId} {x r : AV} {h' : Hp} (hr : byt P h s d x = some (r, h')) : OutV P ρ h w r h' ((convert s d (x.real ρ)).run P w) := by
  unfold byt at hr
  split at hr
  · rename_i e b hs hd
    split at hr
    · rename_i inf he hinf
      simp only [Option.ite_none_right_eq_some, Option.some.injEq, Prod.mk.injEq] at hr
      obtain ⟨⟨h1, hm⟩, rfl, rfl⟩ := hr
      have hsz : b.data.toList.length = b.size := by simp
      have hm' : b.size ≤ maxLen := by simp only [maxLen]; omega
      have hge := grownCap_ge w b.size 0 e
      have hcm := grownCap_le_maxLen w b.size 0 e hm'
      have hbr : (bytesRow b (grownCap w b.size 0 e)).toList = bcells b.data.toList ++ List.replicate (grownCap w b.size 0 e - b.size) (Value.int .u8 0) := by
        simp [bytesRow, bcells]
      have hbs : (bytesRow b (grownCap w b.size 0 e)).size = grownCap w b.size 0 e := by
        rw [← Array.length_toList, hbr]; simp [bcells]; omega
      have hp := (H.drew).pushCells (cs := toB b.data.toList) (t := e) (cap := grownCap w b.size 0 e) (cur := bytesRow b (grownCap w b.size 0 e)) (fz := ((bytesRow b (grownCap w b.size 0 e)).size, (bytesRow b (grownCap w b.size 0 e)).size + 1)) (toB_sc _ _)
        (fun j a hj => by
          rw [← Array.getElem?_toList, hbr, List.getElem?_append_left (by have := (List.getElem?_eq_some_iff.1 hj).1; simpa [toB, bcells] using this), ← toB_reals ρ, reals_getElem?, hj]; rfl)
        (.inr (Nat.le_refl _)) hcm (fun i hi => by rw [hinf] at hi; injection hi with hi; subst hi; rw [h1, hbs]; simp [toB]; exact hge)
      refine ⟨_, _, ?_, by simp [AV.sc], by simp, hp.1, ⟨hp.2.os, hp.2.tape, hp.2.output, hp.2.size, hp.2.block, hp.2.owned, hp.2.same⟩⟩
      simp only [AV.real, upd_same, run_bytes_of_string w s d e b hs hd he, if_true, hsz, Nat.add_zero, Nat.sub_zero]
      rfl
    · cases hr
  · cases hr

/-! ### append -/
/-- The cells that are appended. -/
def srcC (h : Hp) (size : Nat) (x : AV) : Option (Nat × List AV) :=
  match x with
  | .v (.slice none 0 0) => some (0, [])
  | .sl j o m _ _ => match h[j]? with
    | some (.cells cs _ _) => if o + m * size ≤ cs.length then some (m, (cs.drop o).take (m * size)) else none
    | _ => none
  | _ => none
theorem srcC_spec (H : HRel P ρ h w) {size m : Nat} {x : AV} {news : List AV} (hr : srcC h size x = some (m, news)) :
    ∃ X d, x.real ρ = .slice X m d ∧ news.length = m * size ∧ AV.scs h.length news = true ∧ (0 < m → ∃ ad, X = some ad ∧ ∀ j u, (AV.reals ρ news)[j]? = some u → w.cell? (ad.add j) = some u) := by
  unfold srcC at hr
  split at hr
  · simp only [Option.some.injEq, Prod.mk.injEq] at hr
    obtain ⟨rfl, rfl⟩ := hr
    exact ⟨none, 0, rfl, by simp, rfl, fun h => absurd h (Nat.lt_irrefl _)⟩
  · rename_i j o m' c u
    split at hr
    · rename_i cs t ow hi
      simp only [Option.ite_none_right_eq_some, Option.some.injEq, Prod.mk.injEq] at hr
      obtain ⟨hle, rfl, rfl⟩ := hr
      refine ⟨_, _, rfl, by rw [List.length_take, List.length_drop]; omega, (scs_iff _ _).2 fun a ha => (scs_iff _ cs).1 (H.sc j _ hi) a (List.mem_of_mem_drop (List.mem_of_mem_take ha)), fun _ => ⟨_, rfl, H.range hi o (m' * size) hle⟩⟩
    · cases hr
  · cases hr

def app (P : Program) (h : Hp) (ts : List TypeId) (s x : AV) : Option (AV × Hp) :=
  match ts with
  | [t1, t2] => if t1 ≠ t2 then none else match P.underlying t1 with
    | some (.slice e) => match tab P e with
      | some ti => if ti.size = 0 then none else match srcC h ti.size x with
        | some (m, news) =>
          if allOne news = false then none else
          match s with
          | .v (.slice none 0 0) =>
            if m = 0 then some (.v (.slice none 0 0), h)
            else if m ≤ 9223372036854775807 ∧ m * ti.bytes ≤ 140737488355328 then some (.sl h.length 0 m 0 true, h ++ [.cells news e true]) else none
          | .sl i o n c false =>
            if n + m ≤ c then
              if m = 0 then some (.sl i o n c false, h) else
              match h[i]? with
              | some (.cells cs t true) => if o + n * ti.size + m * ti.size ≤ cs.length then some (.sl i o (n + m) c false, h.set i (.cells (setMany cs (o + n * ti.size) news) t true)) else none
              | _ => none
            else if m = 0 then none else
              match h[i]? with
              | some (.cells cs _ _) => if o + n * ti.size ≤ cs.length ∧ n + m ≤ 9223372036854775807 ∧ (n + m) * ti.bytes ≤ 140737488355328 then
                  some (.sl h.length 0 (n + m) 0 true, h ++ [.cells ((cs.drop o).take (n * ti.size) ++ news) e true]) else none
              | _ => none
          | .sl i o n c true =>
            if m = 0 then (if capOk P h e i n c = true then some (.sl i o n c true, h) else none) else
              match h[i]? with
              | some (.cells cs t true) => if t = e ∧ o = 0 ∧ c = 0 ∧ n * ti.size ≤ cs.length ∧ n + m ≤ 9223372036854775807 ∧ (n + m) * ti.bytes ≤ 140737488355328 then
                  some (.sl h.length 0 (n + m) 0 true, h.set i .gone ++ [.cells (cs.take (n * ti.size) ++ news) e true]) else none
              | _ => none
          | _ => none
        | none => none
      | none => none
    | _ => none
  | _ => none

theorem run_first {size m d : Nat} {X : Option Addr} {news : List Value} (hl : news.length = m * size) (hX : 0 < m → ∃ ad, X = some ad ∧ ∀ j u, news[j]? = some u → w.cell? (ad.add j) = some u) :
    (Builtin.firstCells size m (.slice X m d)).run P w = .ok news.toArray w := by
  rcases Nat.eq_zero_or_pos m with h0 | h0
  · subst h0
    have hn : news = [] := List.eq_nil_of_length_eq_zero (by simpa using hl)
    subst hn
    rcases X with _ | x <;> simp [Builtin.firstCells, loadCells, loadCellsFrom]
  · obtain ⟨ad, rfl, hc⟩ := hX h0
    exact run_firstCells_some (P := P) w size m ad m d news hl hc
theorem run_app_room {t ty e : TypeId} {inf : TypeInfo} (hu : P.underlying t = some (.slice e)) (hi : P.info? e = some inf) {A : Option Addr} {n c : Nat} {X : Option Addr} {m d : Nat} {news : List Value}
    (hl : news.length = m * inf.size) (hX : 0 < m → ∃ ad, X = some ad ∧ ∀ j u, news[j]? = some u → w.cell? (ad.add j) = some u) (hroom : n + m ≤ c) :
    (Builtin.append_ #[t, t] ty #[.slice A n c, .slice X m d]).run P w =
      (match A with
       | some a => ((storeCells (a.add (n * inf.size)) news).run P w).andThen fun _ w' => .ok (.slice A (n + m) c) w'
       | none => .ok (.slice none (n + m) c) w) := by
  have hf := run_first (P := P) (w := w) (d := d) hl hX
  rcases A with _ | a <;> simp [Builtin.append_, run_underlying hu, sizeOf, typeInfo, hi, Builtin.lenOf, hroom, hf]

/-- A new row in a new block behind a draw. -/
theorem HRel.pushRow (H : HRel P ρ h w) {cs : List AV} {e : TypeId} {inf : TypeInfo} {C N : Nat} {rest : Array Value} (hinf : P.info? e = some inf) (hs : AV.scs h.length cs = true) (hl : cs.length = N * inf.size) (hN : N ≤ C) (hC : C ≤ maxLen)
    (hr : C * inf.size ≤ cs.length + rest.size) :
    HRel P (upd ρ h.length ⟨w.heap.size, 0, C⟩) (h ++ [.cells cs e true]) (w.drew.alloc (.cells ((AV.reals ρ cs).toArray ++ rest) e)) ∧
    Stp h.length ρ h w (upd ρ h.length ⟨w.heap.size, 0, C⟩) (h ++ [.cells cs e true]) (w.drew.alloc (.cells ((AV.reals ρ cs).toArray ++ rest) e)) := by
  have hp := (H.drew).pushCells (cs := cs) (t := e) (cap := C) (cur := (AV.reals ρ cs).toArray ++ rest) (fz := (0, 0)) hs
    (fun j a hj => by
      have hlt := (List.getElem?_eq_some_iff.1 hj).1
      rw [Array.getElem?_append_left (by simp [reals_length]; exact hlt), List.getElem?_toArray, reals_getElem?, hj]; rfl)
    (.inl (Nat.le_refl _)) hC (fun i hi => by
      rw [hinf] at hi; injection hi with hi; subst hi
      simp only [Array.size_append, List.size_toArray, reals_length]
      refine ⟨hr, ?_⟩
      rw [hl]; exact Nat.mul_le_mul_right _ hN)
  exact ⟨hp.1, ⟨hp.2.os, hp.2.tape, hp.2.output, hp.2.size, hp.2.block, hp.2.owned, hp.2.same⟩⟩

theorem scs_append {n : Nat} {a b : List AV} (ha : AV.scs n a = true) (hb : AV.scs n b = true) : AV.scs n (a ++ b) = true :=
  (scs_iff n _).2 fun x hx => (List.mem_append.1 hx).elim ((scs_iff n a).1 ha x) ((scs_iff n b).1 hb x)
theorem reals_append (ρ : Nat → Place) (a b : List AV) : AV.reals ρ (a ++ b) = AV.reals ρ a ++ AV.reals ρ b := by simp [reals_eq]
theorem zeroCells_size (z : Array Value) (n : Nat) : (Builtin.zeroCells z n).size = n * z.size := by simp [Builtin.zeroCells]

theorem app_grow (H : HRel P ρ h w) {t ty e : TypeId} {ti : TI} (hu : P.underlying t = some (.slice e)) (hx : tab P e = some ti) {A : Addr} {n c m d : Nat} {X : Addr} {olds news : List AV}
    (hlo : olds.length = n * ti.size) (ho : ∀ j u, (AV.reals ρ olds)[j]? = some u → w.cell? (A.add j) = some u) (hso : AV.scs h.length olds = true)
    (hln : news.length = m * ti.size) (hn : ∀ j u, (AV.reals ρ news)[j]? = some u → w.cell? (X.add j) = some u) (hsn : AV.scs h.length news = true)
    (hg : c < n + m) (h63 : n + m ≤ 9223372036854775807) (hby : (n + m) * ti.bytes ≤ 140737488355328) :
    ∃ C w', (Builtin.append_ #[t, t] ty #[.slice (some A) n c, .slice (some X) m d]).run P w = .ok (.slice (some ⟨w.heap.size, 0, none⟩) (n + m) C) w' ∧ n + m ≤ C ∧
      HRel P (upd ρ h.length ⟨w.heap.size, 0, C⟩) (h ++ [.cells (olds ++ news) e true]) w' ∧ Stp h.length ρ h w (upd ρ h.length ⟨w.heap.size, 0, C⟩) (h ++ [.cells (olds ++ news) e true]) w' := by
  obtain ⟨hu2, inf, z, hinf, hsz, hb, hz, hzc, hl, h1, hagg, hna⟩ := tab_spec hx
  have hr := run_append_grow (P := P) w t ty e inf z hu hinf hz A n c (AV.reals ρ olds) (by rw [reals_length, hsz, hlo]) ho X m d (AV.reals ρ news) (by rw [reals_length, hsz, hln]) hn hg (by omega) (growslice_fits hg (by rw [hb]; exact hby))
  have hge := grownCap_ge w (n + m) c e
  have hcm := grownCap_le_maxLen w (n + m) c e (by simp only [maxLen]; omega)
  have hp := H.pushRow (cs := olds ++ news) (e := e) (C := grownCap w (n + m) c e) (N := n + m) (rest := Builtin.zeroCells z.cells (grownCap w (n + m) c e - (n + m))) hinf (scs_append hso hsn) (by rw [List.length_append, hlo, hln, hsz, Nat.add_mul]) hge hcm (by
    rw [zeroCells_size, hzc, List.length_append, hlo, hln, hsz, ← Nat.add_mul]
    simp only [List.size_toArray, hl, ← Nat.add_mul]
    exact Nat.mul_le_mul_right _ (by omega))
  rw [reals_append, ← List.append_toArray] at hp
  exact ⟨_, _, hr, hge, hp.1, hp.2⟩

theorem app_nil (H : HRel P ρ h w) {t ty e : TypeId} {ti : TI} (hu : P.underlying t = some (.slice e)) (hx : tab P e = some ti) {m d : Nat} {X : Addr} {news : List AV} (hm : 0 < m)
    (hln : news.length = m * ti.size) (hn : ∀ j u, (AV.reals ρ news)[j]? = some u → w.cell? (X.add j) = some u) (hsn : AV.scs h.length news = true)
    (h63 : m ≤ 9223372036854775807) (hby : m * ti.bytes ≤ 140737488355328) :
    ∃ C w', (Builtin.append_ #[t, t] ty #[.slice none 0 0, .slice (some X) m d]).run P w = .ok (.slice (some ⟨w.heap.size, 0, none⟩) m C) w' ∧ m ≤ C ∧
      HRel P (upd ρ h.length ⟨w.heap.size, 0, C⟩) (h ++ [.cells news e true]) w' ∧ Stp h.length ρ h w (upd ρ h.length ⟨w.heap.size, 0, C⟩) (h ++ [.cells news e true]) w' := by
  obtain ⟨hu2, inf, z, hinf, hsz, hb, hz, hzc, hl, h1, hagg, hna⟩ := tab_spec hx
  have hr := run_append_nil (P := P) w t ty e inf z hu hinf hz X m d (AV.reals ρ news) (by rw [reals_length, hsz, hln]) hn hm (by omega) (by rw [hb]; omega)
  have hge := grownCap_ge w m 0 e
  have hcm := grownCap_le_maxLen w m 0 e (by simp only [maxLen]; omega)
  have hp := H.pushRow (cs := news) (e := e) (C := grownCap w m 0 e) (N := m) (rest := Builtin.zeroCells z.cells (grownCap w m 0 e - m)) hinf hsn (by rw [hln, hsz]) hge hcm (by
    rw [zeroCells_size, hzc, hln, hsz]
    simp only [List.size_toArray, hl, ← Nat.add_mul]
    exact Nat.mul_le_mul_right _ (by omega))
  exact ⟨_, _, hr, hge, hp.1, hp.2⟩

theorem cells_cur (H : HRel P ρ h w) {i : Nat} {cs : List AV} {t : TypeId} (hi : h[i]? = some (.cells cs t true)) :
    (ρ i).o = 0 ∧ ∃ cur fz, w.heap[(ρ i).b]? = some (.cells cur t fz) ∧ freeRow fz cur.size ∧ (ρ i).cap ≤ maxLen ∧ (∀ inf, P.info? t = some inf → (ρ i).cap * inf.size ≤ cur.size ∧ cs.length ≤ (ρ i).cap * inf.size) ∧
      ∀ j, j < cs.length → cur.toList[j]? = (AV.reals ρ cs)[j]? := by
  obtain ⟨hcell, hown⟩ := H.obj i _ hi
  obtain ⟨h0, cur, fz, hg, hf, hm, hcap⟩ := hown rfl
  refine ⟨h0, cur, fz, hg, hf, hm, hcap, fun j hj => ?_⟩
  have := hcell j cs[j] (List.getElem?_eq_getElem hj)
  rw [h0, Nat.zero_add, cell_of_row w _ j cur t fz hg] at this
  rw [Array.getElem?_toList, this, reals_getElem?, List.getElem?_eq_getElem hj]; rfl

theorem app_own (H : HRel P ρ h w) {t ty e : TypeId} {ti : TI} (hu : P.underlying t = some (.slice e)) (hx : tab P e = some ti) (h0s : ti.size ≠ 0) {i n m d : Nat} {X : Option Addr} {cs news : List AV} (hi : h[i]? = some (.cells cs e true)) (hm0 : m ≠ 0)
    (hle : n * ti.size ≤ cs.length) (hln : news.length = m * ti.size) (hX : 0 < m → ∃ ad, X = some ad ∧ ∀ j u, (AV.reals ρ news)[j]? = some u → w.cell? (ad.add j) = some u) (hsn : AV.scs h.length news = true) (hone : allOne news = true)
    (h63 : n + m ≤ 9223372036854775807) (hby : (n + m) * ti.bytes ≤ 140737488355328) :
    OutV P ρ h w (.sl h.length 0 (n + m) 0 true) (h.set i .gone ++ [.cells (cs.take (n * ti.size) ++ news) e true])
      ((Builtin.append_ #[t, t] ty #[.slice (some ⟨(ρ i).b, (ρ i).o + 0, none⟩) n ((ρ i).cap - 0), .slice X m d]).run P w) := by
  obtain ⟨hu2, inf, z, hinf, hsz, hb, hz, hzc, hl, h1, hagg, hna⟩ := tab_spec hx
  obtain ⟨ho0, cur, fz, hg, hf, hcm, hcap, hcur⟩ := cells_cur H hi
  obtain ⟨hc1, hc2⟩ := hcap inf hinf
  have hil : i < h.length := (List.getElem?_eq_some_iff.1 hi).1
  have hsc := H.sc i _ hi
  have hnews1 : ∀ v ∈ AV.reals ρ news, v.oneCell' = true := by
    intro v hv
    rw [reals_eq] at hv
    obtain ⟨a, ha, rfl⟩ := List.mem_map.1 hv
    exact one_real ρ a ((allOne_iff news).1 hone a ha)
  rw [Nat.add_zero, Nat.sub_zero]
  have hlen : ((h.set i .gone) ++ [AObj.cells (cs.take (n * ti.size) ++ news) e true]).length = h.length + 1 := by simp
  by_cases hroom : n + m ≤ (ρ i).cap
  · -- there is room
    have hfit : n * ti.size + news.length ≤ cur.size := by
      rw [hln, ← Nat.add_mul]
      refine Nat.le_trans (Nat.mul_le_mul_right _ hroom) ?_
      rw [← hsz]; exact hc1
    obtain ⟨w', cur', hst, hg', hsz', hgr, hl'⟩ := run_storeCells_free (P := P) (ρ i).b (n * ti.size) e fz (AV.reals ρ news) 0 cur w hg hf (by rw [reals_length]; simpa using hfit) hnews1
    simp only [Nat.add_zero] at hst hl'
    have hrun := run_app_room (P := P) (w := w) (ty := ty) (d := d) hu hinf (A := some ⟨(ρ i).b, (ρ i).o, none⟩) (n := n) (c := (ρ i).cap) (X := X) (m := m) (news := AV.reals ρ news) (by rw [reals_length, hsz, hln]) hX hroom
    simp only [ho0, add0, Nat.zero_add, hsz, hst, Result.andThen_ok] at hrun
    have Hd : HRel P ρ (h.set i .gone) w' := (H.drop i).other fun j o hj hlv _ => by
      by_cases e2 : j = i
      · subst e2; rw [List.getElem?_set_self hil] at hj; injection hj with hj; subst hj; cases hlv
      · rw [List.getElem?_set_ne (Ne.symm e2)] at hj
        have hne := H.apart i j _ o hi hj rfl hlv (Ne.symm e2)
        by_cases hlt : (ρ j).b < w.heap.size
        · exact grown_hb hgr _ (Ne.symm hne) hlt
        · exact absurd (H.live_lt hj hlv) hlt
    have hlset : (h.set i AObj.gone).length = h.length := by simp
    have key : ∀ (j : Nat) (a : AV), (cs.take (n * ti.size) ++ news)[j]? = some a → cur'[j]? = some (a.real ρ) := by
      intro j a hj
      rw [← Array.getElem?_toList, hl']
      have hlt := (List.getElem?_eq_some_iff.1 hj).1
      rw [List.length_append, List.length_take, Nat.min_eq_left hle] at hlt
      have e1 : (AV.reals ρ (cs.take (n * ti.size) ++ news))[j]? = some (a.real ρ) := by rw [reals_getElem?, hj]; rfl
      rw [reals_append] at e1
      rw [List.append_assoc, ← List.append_assoc, List.getElem?_append_left (by rw [List.length_append, List.length_take, Array.length_toList, reals_length]; omega)]
      by_cases hj1 : j < n * ti.size
      · rw [List.getElem?_append_left (by rw [List.length_take, Array.length_toList]; omega), List.getElem?_take, if_pos hj1, hcur j (by omega)]
        rw [List.getElem?_append_left (by rw [reals_length, List.length_take]; omega)] at e1
        rw [reals_getElem?, List.getElem?_take, if_pos hj1] at e1
        rw [reals_getElem?]; exact e1
      · rw [List.getElem?_append_right (by rw [List.length_take, Array.length_toList]; omega), List.length_take, Array.length_toList, Nat.min_eq_left (by omega)]
        rw [List.getElem?_append_right (by rw [reals_length, List.length_take]; omega), reals_length, List.length_take, Nat.min_eq_left hle] at e1
        exact e1
    have hscn : AV.scs h.length (cs.take (n * ti.size) ++ news) = true :=
      scs_append ((scs_iff _ _).2 fun a ha => (scs_iff _ cs).1 hsc a (List.mem_of_mem_take ha)) hsn
    have Hp := Hd.push (o := .cells (cs.take (n * ti.size) ++ news) e true) (p := ⟨(ρ i).b, 0, (ρ i).cap⟩) ⟨fun j a hj => by
        have ha : a.sc h.length = true := (scs_iff _ _).1 hscn a (List.mem_of_getElem? hj)
        rw [hlset, real_agree (upd_lt ρ _) a ha, Nat.zero_add, cell_of_row w' _ j cur' e fz hg']
        exact key j a hj, fun _ => ⟨rfl, cur', fz, hg', by rw [hsz']; exact hf, hcm, fun inf2 hinf2 => by
          rw [hinf] at hinf2; injection hinf2 with hinf2; subst hinf2
          refine ⟨by rw [hsz']; exact hc1, ?_⟩
          rw [List.length_append, List.length_take, Nat.min_eq_left hle, hln, ← Nat.add_mul, hsz]
          exact Nat.mul_le_mul_right _ hroom⟩⟩ (by rw [hlset]; exact scs_mono (by omega) _ hscn) (fun _ j o hj hlv _ => by
        by_cases e2 : j = i
        · subst e2; rw [List.getElem?_set_self hil] at hj; injection hj with hj; subst hj; cases hlv
        · rw [List.getElem?_set_ne (Ne.symm e2)] at hj
          exact (H.apart i j _ o hi hj rfl hlv (Ne.symm e2)).symm)
    rw [hlset] at Hp
    refine ⟨_, w', ?_, by simp [AV.sc], by simp, Hp, ?_⟩
    · rw [ho0]
      simp only [AV.real, upd_same, if_true, Nat.add_zero, Nat.sub_zero]
      exact hrun
    · refine ⟨hgr.os, hgr.tape, hgr.output, hgr.size, fun b hlt hno => grown_hb hgr b (fun e2 => hno i _ hi rfl e2.symm) hlt, fun j o hj ho => .inl ?_, upd_lt ρ _⟩
      by_cases e2 : j < h.length
      · rw [List.getElem?_append_left (by rw [hlset]; exact e2)] at hj
        by_cases e3 : j = i
        · subst e3; rw [List.getElem?_set_self hil] at hj; injection hj with hj; subst hj; cases ho
        · rw [List.getElem?_set_ne (Ne.symm e3)] at hj
          exact ⟨j, o, hj, ho, by rw [upd_lt ρ _ j e2]⟩
      · have hj2 := (List.getElem?_eq_some_iff.1 hj).1
        rw [hlen] at hj2
        obtain rfl : j = h.length := by omega
        exact ⟨i, _, hi, rfl, by rw [upd_same]⟩
  · -- a new block
    obtain ⟨X', rfl, hX'⟩ := hX (by omega)
    have ho : ∀ j u, (AV.reals ρ (cs.take (n * ti.size)))[j]? = some u → w.cell? ((⟨(ρ i).b, (ρ i).o, none⟩ : Addr).add j) = some u := by
      have := H.range hi 0 (n * ti.size) (by omega)
      simpa using this
    obtain ⟨C, w', hrun, hge, hH, hS⟩ := app_grow H (ty := ty) (d := d) hu hx (A := ⟨(ρ i).b, (ρ i).o, none⟩) (n := n) (c := (ρ i).cap) (m := m) (X := X') (olds := cs.take (n * ti.size)) (news := news) (by rw [List.length_take]; omega) ho
      ((scs_iff _ _).2 fun a ha => (scs_iff _ cs).1 hsc a (List.mem_of_mem_take ha)) hln hX' hsn (by omega) h63 hby
    have e1 : h.set i .gone ++ [AObj.cells (cs.take (n * ti.size) ++ news) e true] = (h ++ [AObj.cells (cs.take (n * ti.size) ++ news) e true]).set i .gone := by
      rw [List.set_append_left _ _ hil]
    rw [e1]
    refine ⟨_, w', ?_, by simp [AV.sc], by simp, hH.drop i, hS.trans (Stp.drop h.length i) (Nat.le_refl _)⟩
    simp only [AV.real, upd_same, if_true, Nat.add_zero, Nat.sub_zero]
    exact hrun

theorem app_ok (H : HRel P ρ h w) {ts : List TypeId} {ty : TypeId} {s x r : AV} {h' : Hp} (hr : app P h ts s x = some (r, h')) (hss : s.sc h.length = true) :
    OutV P ρ h w r h' ((Builtin.append_ ts.toArray ty #[s.real ρ, x.real ρ]).run P w) := by
  unfold app at hr
  split at hr <;> first | (cases hr; done) | skip
  rename_i t1 t2
  split at hr
  · cases hr
  rename_i hts
  have hts : t1 = t2 := by simpa using hts
  subst hts
  split at hr <;> first | (cases hr; done) | skip
  rename_i e hu
  split at hr <;> first | (cases hr; done) | skip
  rename_i ti hx
  have hx' := hx
  obtain ⟨hu2, inf, z, hinf, hsz, hb, hz, hzc, hl, h1, hagg, hna⟩ := tab_spec hx
  split at hr
  · cases hr
  rename_i h0s
  split at hr <;> first | (cases hr; done) | skip
  rename_i m news hsrc
  obtain ⟨X, d, hxr, hln, hsn, hX⟩ := srcC_spec H hsrc
  split at hr
  · cases hr
  rename_i hone
  have hone : allOne news = true := by simpa using hone
  rw [hxr]
  have hlr : (AV.reals ρ news).length = m * inf.size := by rw [reals_length, hsz, hln]
  split at hr <;> first | (cases hr; done) | skip
  · -- nil
    split at hr
    · rename_i hm
      simp only [Option.some.injEq, Prod.mk.injEq] at hr
      obtain ⟨rfl, rfl⟩ := hr
      subst hm
      refine ⟨ρ, w, ?_, rfl, Nat.le_refl _, H, Stp.refl _ _ _ _⟩
      have := run_app_room (P := P) (w := w) (ty := ty) (d := d) hu hinf (A := none) (n := 0) (c := 0) (X := X) (m := 0) (news := AV.reals ρ news) hlr hX (Nat.le_refl _)
      exact this
    · rename_i hm
      simp only [Option.ite_none_right_eq_some, Option.some.injEq, Prod.mk.injEq] at hr
      obtain ⟨⟨h63, hby⟩, rfl, rfl⟩ := hr
      obtain ⟨X', rfl, hX'⟩ := hX (by omega)
      obtain ⟨C, w', hrun, hge, hH, hS⟩ := app_nil H (ty := ty) (d := d) hu hx (by omega) hln hX' hsn h63 hby
      refine ⟨_, w', ?_, by simp [AV.sc], by simp, hH, hS⟩
      simp only [AV.real, upd_same, if_true, Nat.add_zero, Nat.sub_zero]
      exact hrun
  · -- the capacity is known
    rename_i i o n c
    split at hr
    · rename_i hroom
      have hrun := run_app_room (P := P) (w := w) (ty := ty) (d := d) hu hinf (A := some ⟨(ρ i).b, (ρ i).o + o, none⟩) (n := n) (c := c) (X := X) (m := m) (news := AV.reals ρ news) hlr hX hroom
      split at hr
      · rename_i hm
        simp only [Option.some.injEq, Prod.mk.injEq] at hr
        obtain ⟨rfl, rfl⟩ := hr
        subst hm
        have hn0 : news = [] := List.eq_nil_of_length_eq_zero (by simpa using hln)
        subst hn0
        refine ⟨ρ, w, ?_, hss, Nat.le_refl _, H, Stp.refl _ _ _ _⟩
        simp only [AV.reals, storeCells, Sem.run_pure, Result.andThen_ok, Nat.add_zero] at hrun
        simp only [AV.real, Bool.false_eq_true, if_false]
        exact hrun
      · split at hr <;> first | (cases hr; done) | skip
        rename_i cs t hi
        simp only [Option.ite_none_right_eq_some, Option.some.injEq, Prod.mk.injEq] at hr
        obtain ⟨hle, rfl, rfl⟩ := hr
        obtain ⟨w', hst, hH, hS⟩ := H.writeCells hi (vs := news) (o := o + n * ti.size) (by omega) hone hsn
        refine ⟨ρ, w', ?_, by simpa [AV.sc] using hss, by simp, hH, hS⟩
        simp only [add0, hsz, Nat.add_assoc] at hrun hst
        rw [hst] at hrun
        simp only [AV.real, Bool.false_eq_true, if_false]
        exact hrun
    · rename_i hroom
      split at hr
      · cases hr
      rename_i hm
      split at hr <;> first | (cases hr; done) | skip
      rename_i cs t ow hi
      simp only [Option.ite_none_right_eq_some, Option.some.injEq, Prod.mk.injEq] at hr
      obtain ⟨⟨hle, h63, hby⟩, rfl, rfl⟩ := hr
      obtain ⟨X', rfl, hX'⟩ := hX (by omega)
      obtain ⟨C, w', hrun, hge, hH, hS⟩ := app_grow H (ty := ty) (d := d) hu hx (A := ⟨(ρ i).b, (ρ i).o + o, none⟩) (n := n) (c := c) (m := m) (X := X') (olds := (cs.drop o).take (n * ti.size)) (news := news)
        (by rw [List.length_take, List.length_drop]; omega) (H.range hi o (n * ti.size) hle) ((scs_iff _ _).2 fun a ha => (scs_iff _ cs).1 (H.sc i _ hi) a (List.mem_of_mem_drop (List.mem_of_mem_take ha))) hln hX' hsn (by omega) h63 hby
      refine ⟨_, w', ?_, by simp [AV.sc], by simp, hH, hS⟩
      simp only [AV.real, upd_same, if_true, Nat.add_zero, Nat.sub_zero, Bool.false_eq_true, if_false]
      exact hrun
  · -- the capacity is not known
    rename_i i o n c
    split at hr
    · rename_i hm
      simp only [Option.ite_none_right_eq_some, Option.some.injEq, Prod.mk.injEq] at hr
      obtain ⟨hcap, rfl, rfl⟩ := hr
      subst hm
      have hn0 : news = [] := List.eq_nil_of_length_eq_zero (by simpa using hln)
      subst hn0
      have hc := capOk_spec H hcap
      have hrun := run_app_room (P := P) (w := w) (ty := ty) (d := d) hu hinf (A := some ⟨(ρ i).b, (ρ i).o + o, none⟩) (n := n) (c := (ρ i).cap - c) (X := X) (m := 0) (news := AV.reals ρ []) hlr hX (by omega)
      refine ⟨ρ, w, ?_, hss, Nat.le_refl _, H, Stp.refl _ _ _ _⟩
      simp only [AV.reals, storeCells, Sem.run_pure, Result.andThen_ok, Nat.add_zero] at hrun
      simp only [AV.real, if_true]
      exact hrun
    · rename_i hm
      split at hr <;> first | (cases hr; done) | skip
      rename_i cs t hi
      simp only [Option.ite_none_right_eq_some, Option.some.injEq, Prod.mk.injEq] at hr
      obtain ⟨⟨rfl, rfl, rfl, hle, h63, hby⟩, rfl, rfl⟩ := hr
      have := app_own H (ty := ty) (d := d) hu hx h0s hi hm hle hln hX hsn hone h63 hby
      simp only [AV.real, if_true]
      exact this
end
end Go.Az
/-
  All operations that turn the memory by themselves: 'exH'. Conditions: stated at each theorem.
-/
set_option linter.unusedSimpArgs false
set_option linter.unusedVariables false
namespace Go.Az
open Go Go.Chz Go.RowKit

section
variable {P : Program} {ρ : Nat → Place} {h : Hp} {w : World}

/-- An operation that turns the memory by itself. -/
def exH (P : Program) (f : Fr) (h : Hp) (op : Op) : Option (AV × Hp) :=
  match op with
  | .alloc t => match tab P t with
    | some x => newC P h t (zAV x).cellsL
    | none => none
  | .box t x => if (ev f x).cellOk = true then newC P h t (ev f x).cellsL else none
  | .buildSlice t len parts => bsl P h t len (parts.toList.map fun p => (p.1, ev f p.2))
  | .store t a x => (sto P h t (ev f a) (ev f x)).map fun h' => (.v undef, h')
  | .convert s d x => byt P h s d (ev f x)
  | .makeMap _ r => mkm h (r.map (ev f))
  | .makeSlice t l c => msl P h t (ev f l) (ev f c)
  | .mapUpdate t m k x => (mpu P h t (ev f m) (ev f k) (ev f x)).map fun h' => (.v undef, h')
  | .insert t m k x => (mpu P h t (ev f m) (ev f k) (ev f x)).map fun h' => (.v undef, h')
  | .call c => match c.callee, c.args.toList with
    | .builtin .append, [s, x] => app P h c.argTypes.toList (ev f s) (ev f x)
    | _, _ => none
  | _ => none

theorem Out.ofV {r : AV} {h' : Hp} {s : Sem Value} (hx : OutV P ρ h w r h' (s.run P w)) : Out P ρ h w r h' (((do pure (.value (← s))) : Sem Next).run P w) := by
  rw [Sem.run_bind]; exact hx.value
theorem Out.ofU {h' : Hp} {s : Sem Unit} (hx : OutU P ρ h w h' (s.run P w)) : Out P ρ h w (.v undef) h' (((do s; pure .skip) : Sem Next).run P w) := by
  rw [Sem.run_bind]; exact hx.skip

theorem zAV_cellOk {t : TypeId} {x : TI} (hx : tab P t = some x) : (zAV x).cellOk = true := by
  obtain ⟨hu, inf, z, hinf, hs, hb, hz, hzc, hl, h1, hagg, hna⟩ := tab_spec hx
  unfold zAV
  split
  · rfl
  · rename_i ha
    obtain ⟨_, h2⟩ := hna (by simpa using ha)
    rw [h2]
    have := h1 z (by rw [h2]; simp)
    simp only [List.getD_cons_zero]
    cases z <;> first | rfl | (simp [Value.oneCell'] at this)

theorem exH_ok (H : HRel P ρ h w) {f : Fr} {A : Act} (hA : A.tmps = (AV.reals ρ f.t).toArray) (hs : AV.scs h.length f.t = true) {o : Oper} {r : AV} {h' : Hp} (hr : exH P f h o.op = some (r, h')) :
    Out P ρ h w r h' ((execOp A.eval o).run P w) := by
  have E := ev_real (ρ := ρ) hA
  have S := ev_sc hs
  unfold exH at hr
  unfold execOp
  split at hr <;> first | (cases hr; done) | skip
  · rename_i t ho
    split at hr <;> first | (cases hr; done) | skip
    rename_i x hx
    simp only [ho]
    refine Out.ofV ?_
    have := newC_ok H (v := (zAV x).real ρ) hr (cellsL_sc (zAV_sc _ _)) (cellsL_real ρ _ (cellOk_spec (zAV_cellOk hx)))
    simp only [Instr.alloc, Sem.run_bind, zAV_real hx ρ w, Result.andThen_ok] at this ⊢
    exact this
  · rename_i t x ho
    simp only [Option.ite_none_right_eq_some] at hr
    obtain ⟨hok, hr⟩ := hr
    simp only [ho]
    refine Out.ofV ?_
    have := newC_ok H (v := (ev f x).real ρ) hr (cellsL_sc (S x)) (cellsL_real ρ _ (cellOk_spec hok))
    simp only [Instr.box, E]
    exact this
  · rename_i t len parts ho
    have hp : parts.map (fun (i, x) => (i, A.eval x)) = ((parts.toList.map fun p => (p.1, ev f p.2)).map fun p => (p.1, p.2.real ρ)).toArray := by
      apply Array.ext'
      simp [E]
    simp only [ho, hp]
    refine Out.ofV (bsl_ok H hr fun p hp => ?_)
    obtain ⟨q, _, rfl⟩ := List.mem_map.1 hp
    exact S _
  · rename_i t a x ho
    obtain ⟨h2, hh, he⟩ := Option.map_eq_some_iff.1 hr
    injection he with e1 e2
    subst e1; subst e2
    simp only [ho, E]
    exact Out.ofU (sto_ok H hh (S x))
  · rename_i s d x ho
    simp only [ho, E]
    exact Out.ofV (byt_ok H hr)
  · rename_i t r' ho
    have hm : r'.map A.eval = (r'.map (ev f)).map (AV.real ρ) := by cases r' <;> simp [E]
    simp only [ho, hm]
    exact Out.ofV (mkm_ok H hr)
  · rename_i t l c ho
    simp only [ho, E]
    exact Out.ofV (msl_ok H hr)
  · rename_i t m k x ho
    obtain ⟨h2, hh, he⟩ := Option.map_eq_some_iff.1 hr
    injection he with e1 e2
    subst e1; subst e2
    simp only [ho, E]
    exact Out.ofU (mpu_ok H hh (S x))
  · rename_i t m k x ho
    obtain ⟨h2, hh, he⟩ := Option.map_eq_some_iff.1 hr
    injection he with e1 e2
    subst e1; subst e2
    simp only [ho, E]
    exact Out.ofU (mpu_ok H hh (S x))
  · rename_i c ho
    split at hr <;> first | (cases hr; done) | skip
    rename_i s x hc hargs
    have ha : c.args = #[s, x] := by cases hq : c.args; simp_all
    simp only [ho, resolve, hc, ha, Sem.run_bind, Sem.run_pure, Result.andThen_ok, invoke, builtin]
    have hts : c.argTypes.toList.toArray = c.argTypes := by simp
    have := app_ok H (ty := o.type) hr (S s)
    rw [hts] at this
    have e2 : (#[s, x] : Array Operand).map A.eval = #[(ev f s).real ρ, (ev f x).real ρ] := by simp [E]
    rw [e2]
    exact this.value
end
end Go.Az
/-
  A region that draws its order, in any kind of frame: an operation whose value every world that meets a condition gives, and that nobody in the region touches, may be reckoned ahead of the others. Conditions: stated at each theorem.
-/
set_option linter.unusedSimpArgs false
set_option linter.unusedVariables false
namespace Go.Az
open Go Go.Chz Go.RowKit

/-- No fence at all; in a round of a range over a function, or not. -/
def Wd (ro : Option Nat) : Fence := { fn := fun _ => True, depth := none, alive := false, round := ro }
theorem Wd_room (ro : Option Nat) (n : Nat) : (Wd ro).room n := fun _ h => by cases h
theorem callsIn_Wd {ro : Option Nat} {n : Nat} {P : Program} {f : FuncId} {args : Array Value} {w : World} {R : Ending → World → Prop} (h : Calls P f args w R) : CallsIn (Wd ro) n P f args w R := by
  have h1 : CallsIn Fence.wide n P f args w R := callsIn_wide.2 h
  exact ⟨trivial, fun cs _ => h1.2 cs (room_wide _)⟩
theorem calls_of_Wd {n : Nat} {P : Program} {f : FuncId} {args : Array Value} {w : World} {R : Ending → World → Prop} (h : CallsIn (Wd none) n P f args w R) : Calls P f args w R :=
  h.calls fun k => Wd_room none k

def noDefer (ops : Array Oper) : Bool := ops.all fun o => match o.op with | .defer _ => false | _ => true
theorem noDefer_spec {ops : Array Oper} (h : noDefer ops = true) {j : Nat} {o : Oper} (ho : ops[j]? = some o) : ∀ c, o.op ≠ .defer c := by
  intro c heq
  have := Array.all_eq_true_iff_forall_mem.1 h o (Array.mem_of_getElem? ho)
  simp [heq] at this

section
variable {ro : Option Nat} {n : Nat} {P : Program} {ops : Array Oper} {Q : Exit → Act → World → Prop}

/-- Operation o, in state a, gives v in every world that meets S. -/
def Gives (P : Program) (ops : Array Oper) (S : World → Prop) (o : Oper) (v : Value) (a : Act) : Prop :=
  if Region.wanted o (yielded ops a.tmps) = true then ∀ w, S w → (execOp a.eval o).run P w = .ok (.value v) w else v = undef
theorem Gives.same {S : World → Prop} {o : Oper} {v : Value} {a a' : Act} (h : Gives P ops S o v a) (he : execOp a'.eval o = execOp a.eval o) (hw : Region.wanted o (yielded ops a'.tmps) = Region.wanted o (yielded ops a.tmps)) : Gives P ops S o v a' := by
  unfold Gives at *
  rw [he, hw]; exact h
theorem Gives.less {S S' : World → Prop} {o : Oper} {v : Value} {a : Act} (h : Gives P ops S o v a) (hS : ∀ w, S' w → S w) : Gives P ops S' o v a := by
  unfold Gives at *
  split
  · rename_i hw; rw [if_pos hw] at h; exact fun w hw => h w (hS w hw)
  · rename_i hw; rw [if_neg hw] at h; exact h

theorem semAt_Wd (o : Oper) (ho : ∀ c, o.op ≠ .defer c) (ρ : Operand → Value) : o.semAt (Wd ro).round ρ = execOp ρ o := Oper.semAt_eq _ ρ o ho

theorem Gives.now {i : Nat} {S : World → Prop} {o : Oper} {v : Value} {a : Act} {w : World} {K : Act → World → Prop} (hi : ops[i]? = some o) (hd : ∀ c, o.op ≠ .defer c) (h : Gives P ops S o v a) (hS : S w) (hK : K (a.put o.dst v) w) :
    wpOpIn (Wd ro) n P ops Q i K a w := by
  unfold Gives at h
  unfold wpOpIn
  simp only [hi]
  split
  · rename_i hw
    rw [if_pos hw] at h
    refine ⟨fun _ _ => trivial, ?_⟩
    rw [semAt_Wd o hd, h w hS]
    exact hK
  · rename_i hw
    rw [if_neg hw] at h
    exact ⟨fun _ _ => trivial, h ▸ hK⟩

/-- An operation j, where i's value is laid first. -/
theorem wpOpIn_behind {i j : Nat} {oi oj : Oper} {v : Value} {S : World → Prop} (hj : ops[j]? = some oj) (hap : oi.apart ops oj = true) (hsi : ∀ cs b, oi.op ≠ .select cs b) (hsj : ∀ cs b, oj.op ≠ .select cs b) (hdj : ∀ c, oj.op ≠ .defer c)
    (hQ : ∀ c a w, ¬ Q (.panic c) a w) {K : Act → World → Prop} {a : Act} {w : World} (hy : Gives P ops S oi v a) (h : wpOpIn (Wd ro) n P ops Q j K (a.put oi.dst v) w) :
    wpOpIn (Wd ro) n P ops Q j (fun a' w' => Gives P ops S oi v a' ∧ K (a'.put oi.dst v) w') a w := by
  obtain ⟨h1, h2, h3⟩ := Oper.apart_spec hap
  have keep : ∀ u, Gives P ops S oi v (a.put oj.dst u) := fun u => hy.same (execOp_put oi hsi a oj.dst u h3) (wanted_put oi a oj.dst u h3)
  have turn : ∀ u, (a.put oj.dst u).put oi.dst v = (a.put oi.dst v).put oj.dst u := fun u => (Act.put_comm a v u h2).symm
  unfold wpOpIn at h ⊢
  simp only [hj] at h ⊢
  rw [wanted_put oj a oi.dst v h1] at h
  split
  · rename_i hw
    rw [if_pos hw] at h
    obtain ⟨_, h⟩ := h
    refine ⟨fun _ _ => trivial, ?_⟩
    rw [semAt_Wd oj hdj] at h ⊢
    rw [execOp_put oj hsj a oi.dst v h1] at h
    cases hr : (execOp a.eval oj).run P w with
    | ok x w' =>
      rw [hr] at h
      cases x <;> simp only [Oper.uponIn] at h ⊢
      case value u => exact ⟨keep u, by rw [turn]; exact h⟩
      case skip => exact ⟨keep _, by rw [turn]; exact h⟩
      case defer d =>
        have e : ∀ d : Deferred, (({ a with defers := d :: a.defers } : Act).put oj.dst undef).put oi.dst v = ({ a.put oi.dst v with defers := d :: (a.put oi.dst v).defers } : Act).put oj.dst undef := by
          intro d
          rw [Act.put_defers]
          exact (Act.put_comm _ v undef h2).symm
        refine ⟨(hy.same (a' := { a with defers := d :: a.defers }) rfl rfl).same (execOp_put oi hsi _ oj.dst undef h3) (wanted_put oi _ oj.dst undef h3), ?_⟩
        rw [e]; exact h
      case enter g args =>
        refine ⟨h.1, h.2.mono fun e w'' he => ?_⟩
        cases e with
        | returned u => exact ⟨keep u, by rw [turn]; exact he⟩
        | panicked c => exact absurd he (hQ _ _ _)
        | outgrown => exact he
      case row row args => exact ⟨h.1, h.2.mono fun u w'' he => ⟨keep u, by rw [turn]; exact he⟩⟩
      case round l f tmps asg body =>
        refine ⟨h.1, h.2.mono fun e w'' he => ?_⟩
        cases e with
        | returned u => exact ⟨keep u, by rw [turn]; exact he⟩
        | panicked c => exact absurd he (hQ _ _ _)
        | outgrown => exact he
    | halt x w' =>
      rw [hr] at h
      cases x <;> simp only [Oper.uponIn] at h ⊢
      case panic u => exact absurd h (hQ _ _ _)
  · rename_i hw
    rw [if_neg hw] at h
    exact ⟨fun _ _ => trivial, keep _, by rw [turn]; exact h.2⟩

/-- Whatever order; S holds behind every operation. -/
def AnyS (ro : Option Nat) (n : Nat) (P : Program) (ops : Array Oper) (Q : Exit → Act → World → Prop) (S : World → Prop) : Nat → Array Bool → Act → World → Prop
  | 0, l, a, w => Region.ready .any ops l = [] ∧ Q .normal a w
  | k + 1, l, a, w => (Region.ready .any ops l = [] → Q .normal a w) ∧ ∀ i ∈ Region.ready .any ops l, wpOpIn (Wd ro) n P ops Q i (fun a' w' => S w' ∧ AnyS ro n P ops Q S k (l.setIfInBounds i true) a' w') a w
theorem any_of_S {S : World → Prop} : ∀ (k : Nat) (l : Array Bool) (a : Act) (w : World), AnyS ro n P ops Q S k l a w → wpAnyIn (Wd ro) n P .any ops Q k l a w
  | 0, _, _, _, h => h
  | k + 1, _, _, _, h => ⟨h.1, fun i hi => wpOpIn_mono (fun a' w' h' => any_of_S k _ a' w' h'.2) (h.2 i hi)⟩

/-- Reckoned first. -/
theorem AnyS.first {i : Nat} {oi : Oper} {v : Value} {S : World → Prop} (hi : ops[i]? = some oi) (hsel : Region.noSelect ops = true) (hdf : noDefer ops = true) (hQ : ∀ c a w, ¬ Q (.panic c) a w) :
    ∀ (k : Nat) (l : Array Bool) (a : Act) (w : World),
      (∀ j oj, ops[j]? = some oj → j ≠ i → l.getD j true = false → (∀ e ∈ oj.after, Region.binds .any e = true → e.on ≠ i) → oi.apart ops oj = true) →
      i ∈ Region.ready .any ops l → Gives P ops S oi v a → S w → AnyS ro n P ops Q S k (l.setIfInBounds i true) (a.put oi.dst v) w → AnyS ro n P ops Q S (k + 1) l a w := by
  intro k
  induction k with
  | zero =>
    intro l a w _ hr hy hS h
    refine ⟨fun h0 => (by rw [h0] at hr; cases hr), fun j hj => ?_⟩
    rcases Nat.decEq j i with hji | hji
    · have := ready_mono hj hji
      rw [h.1] at this; cases this
    · subst hji
      exact hy.now hi (noDefer_spec hdf hi) hS ⟨hS, h⟩
  | succ k ih =>
    intro l a w hfree hr hy hS h
    refine ⟨fun h0 => (by rw [h0] at hr; cases hr), fun j hj => ?_⟩
    rcases Nat.decEq j i with hji | hji
    · obtain ⟨hun, oj, hoj, hall⟩ := mem_ready.1 hj
      have hli := (mem_ready.1 hr).1
      have hno : ∀ e ∈ oj.after, Region.binds .any e = true → e.on ≠ i := by
        intro e he hb heq
        have h1 := hall e he hb
        rw [heq] at h1
        by_cases hlt : i < l.size
        · simp only [Array.getD, hlt, dif_pos] at h1 hli
          rw [h1] at hli; cases hli
        · simp only [Array.getD, hlt, dif_neg, not_false_eq_true] at h1; cases h1
      have h2 := wpOpIn_behind (i := i) hoj (hfree j oj hoj hji hun hno) (Region.noSelect_spec hsel i oi · · hi) (Region.noSelect_spec hsel j oj · · hoj) (noDefer_spec hdf hoj) hQ hy (h.2 j (ready_mono hj hji))
      refine wpOpIn_mono (fun a' w' h3 => ⟨h3.2.1, ih (l.setIfInBounds j true) a' w' ?_ (ready_mono hr (Ne.symm hji)) h3.1 h3.2.1 ?_⟩) h2
      · intro q oq hq hqi hunq hnoq
        refine hfree q oq hq hqi ?_ hnoq
        by_cases hjq : j = q
        · subst hjq; exact hun
        · rw [getD_set_ne true hjq] at hunq; exact hunq
      · rw [Array.setIfInBounds_comm _ _ hji]; exact h3.2.2
    · subst hji
      exact hy.now hi (noDefer_spec hdf hi) hS ⟨hS, h⟩

/-! ### A list that fits the region's edges -/
def ordFrom (ops : Array Oper) : List (Nat × Bool) → Array Bool → Bool
  | [], l => (Region.ready .any ops l).isEmpty
  | (i, true) :: r, l => (ops[i]?).isSome && Region.free .any ops l i && (Region.ready .any ops l).contains i && ordFrom ops r (l.setIfInBounds i true)
  | (i, false) :: r, l => (ops[i]?).isSome && (Region.ready .any ops l == [i]) && ordFrom ops r (l.setIfInBounds i true)
def ordOk (ops : Array Oper) (l : List (Nat × Bool)) : Bool := Region.noSelect ops && noDefer ops && Nat.beq l.length ops.size && ordFrom ops l (Array.replicate ops.size false)

/-- The walk along the list. -/
def along (ro : Option Nat) (n : Nat) (P : Program) (ops : Array Oper) (Q : Exit → Act → World → Prop) (S : World → Prop) : List (Nat × Bool) → Act → World → Prop
  | [], a, w => Q .normal a w
  | (i, true) :: r, a, w => ∃ o v, ops[i]? = some o ∧ Gives P ops S o v a ∧ along ro n P ops Q S r (a.put o.dst v) w
  | (i, false) :: r, a, w => wpOpIn (Wd ro) n P ops Q i (fun a' w' => S w' ∧ along ro n P ops Q S r a' w') a w
theorem any_of_along {S : World → Prop} (hsel : Region.noSelect ops = true) (hdf : noDefer ops = true) (hQ : ∀ c a w, ¬ Q (.panic c) a w) : ∀ (r : List (Nat × Bool)) (l : Array Bool) (a : Act) (w : World), ordFrom ops r l = true → S w → along ro n P ops Q S r a w → AnyS ro n P ops Q S r.length l a w
  | [], l, a, w, hc, _, h => ⟨by simpa [ordFrom] using hc, h⟩
  | (i, true) :: r, l, a, w, hc, hS, h => by
    obtain ⟨o, v, ho, hg, hr⟩ := h
    simp only [ordFrom, Bool.and_eq_true] at hc
    obtain ⟨⟨⟨_, hf⟩, hrd⟩, hc⟩ := hc
    exact AnyS.first ho hsel hdf hQ r.length l a w (Region.free_spec ho hf) (by simpa using hrd) hg hS (any_of_along hsel hdf hQ r _ _ _ hc hS hr)
  | (i, false) :: r, l, a, w, hc, hS, h => by
    simp only [ordFrom, Bool.and_eq_true, beq_iff_eq] at hc
    obtain ⟨⟨_, hrd⟩, hc⟩ := hc
    refine ⟨fun h0 => (by rw [hrd] at h0; cases h0), fun j hj => ?_⟩
    rw [hrd] at hj
    obtain rfl : j = i := by simpa using hj
    exact wpOpIn_mono (fun a' w' h' => ⟨h'.1, any_of_along hsel hdf hQ r _ _ _ hc h'.1 h'.2⟩) h
theorem wp_draw {id : Nat} {a : Act} {w : World} {S : World → Prop} (l : List (Nat × Bool)) (hm : P.follows .mixedOrders = true) (hc : ordOk ops l = true) (hQ : ∀ c a w, ¬ Q (.panic c) a w) (hS : S w.drew) (h : along ro n P ops Q S l a w.drew) :
    (Code.region id ops true).wpIn (Wd ro) n P Q a w := by
  simp only [ordOk, Bool.and_eq_true, Nat.beq_eq] at hc
  obtain ⟨⟨⟨h1, h2⟩, h3⟩, h4⟩ := hc
  refine wpIn_region_any hm ?_
  rw [← h3]
  exact any_of_S _ _ _ _ (any_of_along h1 h2 hQ l _ a _ (by rw [h3]; exact h4) hS h)
end
end Go.Az
/-
  A region that draws its order, with operations that others come behind of: an operation whose value is the same until one that must come behind it was done may be reckoned first; where several may come first, each is looked at. Conditions: stated at each theorem.
-/
set_option linter.unusedSimpArgs false
set_option linter.unusedVariables false
namespace Go.Az
open Go Go.Chz Go.RowKit

/-! ### What an operation reads -/
def readsOf (f : Fr) (op : Op) : List Nat :=
  match op with
  | .load _ a => match ev f a with
    | .ptr i _ => [i]
    | _ => []
  | .convert _ _ x => match ev f x with
    | .sl i _ _ _ _ => [i]
    | _ => []
  | .slice _ x _ _ _ => match ev f x with
    | .sl i _ _ _ _ => [i]
    | _ => []
  | .lookup _ x _ _ => match ev f x with
    | .mp i => [i]
    | _ => []
  | _ => []
/-- What is named alone. -/
def keepH (l : List Nat) (h : Hp) : Hp := h.zipIdx.map fun p => if l.contains p.2 then p.1 else .gone
theorem keepH_length (l : List Nat) (h : Hp) : (keepH l h).length = h.length := by simp [keepH]
theorem keepH_get (l : List Nat) (h : Hp) (i : Nat) : (keepH l h)[i]? = (h[i]?).map fun o => if l.contains i then o else .gone := by
  simp only [keepH, List.getElem?_map, List.getElem?_zipIdx, Option.map_map, Nat.zero_add]
  rfl
theorem cnv_reads {P : Program} {h h' : Hp} {s d : TypeId} {x : AV} (hg : ∀ i o n c u, x = .sl i o n c u → h'[i]? = h[i]?) : cnv P h' s d x = cnv P h s d x := by
  cases x with
  | sl i o n c u => have e := hg i o n c u rfl; clear hg; unfold cnv; split <;> simp_all
  | v u => unfold cnv; split <;> simp_all
  | _ => unfold cnv; split <;> simp_all
theorem slc_reads {P : Program} {h h' : Hp} {t : TypeId} {x : AV} {lo hi mx : Option AV} (hg : ∀ i o n c u, x = .sl i o n c u → h'[i]? = h[i]?) : slc P h' t x lo hi mx = slc P h t x lo hi mx := by
  cases x with
  | sl i o n c u => have e := hg i o n c u rfl; clear hg; unfold slc capOk; split <;> simp_all
  | v u => unfold slc; split <;> simp_all
  | _ => unfold slc; split <;> simp_all
theorem lkp_reads {P : Program} {h h' : Hp} {t : TypeId} {x k : AV} {ok : Bool} (hg : ∀ i, x = .mp i → h'[i]? = h[i]?) : lkp P h' t x k ok = lkp P h t x k ok := by
  cases x with
  | mp i => have e := hg i rfl; clear hg; unfold lkp; split <;> simp_all
  | v u => unfold lkp; split <;> simp_all
  | _ => unfold lkp; split <;> simp_all
theorem exL_reads {P : Program} {f : Fr} {h h' : Hp} {op : Op} {v : AV} (hr : exL P f h op = some v) (hg : ∀ i ∈ readsOf f op, h'[i]? = h[i]?) : exL P f h' op = some v := by
  unfold exL at hr ⊢
  cases op <;> first | exact hr | skip
  · rename_i t a
    simp only [readsOf] at hg
    simp only at hr ⊢
    split at hr <;> first | (cases hr; done) | skip
    rename_i i o ha
    rw [ha] at hg
    simp only at hg ⊢
    simp only [ldc] at hr ⊢
    rw [hg i (by simp)]; exact hr
  · rename_i s d x
    simp only [readsOf] at hg
    refine (cnv_reads fun i o n c u e => ?_).trans hr
    rw [e] at hg; exact hg i (by simp)
  · rename_i t x lo hi mx
    simp only [readsOf] at hg
    refine (slc_reads fun i o n c u e => ?_).trans hr
    rw [e] at hg; exact hg i (by simp)
  · rename_i t x k ok
    simp only [readsOf] at hg
    refine (lkp_reads fun i e => ?_).trans hr
    rw [e] at hg; exact hg i (by simp)

/-! ### Orders as trees -/
inductive Ord where
  | done
  | light (i : Nat) (r : Ord)
  | alt (i : Nat) (gone : List Nat) (r rest : Ord)
  | no
def Ord.heads : Ord → List Nat
  | .alt i _ _ rest => i :: rest.heads
  | _ => []
def Ord.size : Ord → Nat
  | .light _ r => r.size + 1
  | .alt _ _ r rest => max (r.size + 1) rest.size
  | _ => 0
/-- An operation of the list that must come behind i was done. -/
def beh (ops : Array Oper) (hv : List Nat) (l : Array Bool) (i : Nat) : Bool := hv.any fun j => l.getD j false && (match ops[j]? with
  | some o => o.after.any fun e => Region.binds .any e && Nat.beq e.on i
  | none => false)
theorem getD_set_same (l : Array Bool) (i : Nat) : (l.setIfInBounds i true).getD i true = true := by
  by_cases h : i < l.size <;> simp [Array.getD, h]
theorem getD_set_other {l : Array Bool} {i j : Nat} (d : Bool) (h : i ≠ j) : (l.setIfInBounds i true).getD j d = l.getD j d := by
  by_cases hj : j < l.size <;> simp [Array.getD, hj, Array.getElem_setIfInBounds, h]
theorem beh_mono {ops : Array Oper} {hv : List Nat} {l l' : Array Bool} {i : Nat} (hl : ∀ j, l.getD j false = true → l'.getD j false = true) (h : beh ops hv l i = true) : beh ops hv l' i = true := by
  unfold beh at *
  rw [List.any_eq_true] at *
  obtain ⟨j, hj, h⟩ := h
  rw [Bool.and_eq_true] at h
  exact ⟨j, hj, by rw [hl j h.1, h.2]; rfl⟩
theorem set_mono (l : Array Bool) (i : Nat) : ∀ j, l.getD j false = true → (l.setIfInBounds i true).getD j false = true := by
  intro j h
  by_cases e : i = j
  · subst e
    by_cases hi : i < l.size
    · simp [Array.getD, hi]
    · simp [Array.getD, hi] at h
  · rw [getD_set_other false e]; exact h
theorem beh_set {ops : Array Oper} {hv : List Nat} {l : Array Bool} {i j : Nat} (hl : beh ops hv l i = false) (hj : ∀ oj, ops[j]? = some oj → ∀ e ∈ oj.after, Region.binds .any e = true → e.on ≠ i) : beh ops hv (l.setIfInBounds j true) i = false := by
  cases h : beh ops hv (l.setIfInBounds j true) i with
  | false => rfl
  | true =>
    unfold beh at h
    rw [List.any_eq_true] at h
    obtain ⟨q, hq, h⟩ := h
    rw [Bool.and_eq_true] at h
    by_cases e : j = q
    · subst e
      cases ho : ops[j]? with
      | none => rw [ho] at h; cases h.2
      | some oj =>
        rw [ho] at h
        have h3 : oj.after.any (fun e => Region.binds .any e && Nat.beq e.on i) = true := h.2
        obtain ⟨x, hx, h2⟩ := Array.any_eq_true.1 h3
        simp only [Bool.and_eq_true, Nat.beq_eq] at h2
        exact absurd h2.2 (hj oj ho _ (Array.getElem_mem hx) h2.1)
    · rw [getD_set_other false e] at h
      have : beh ops hv l i = true := by
        unfold beh
        rw [List.any_eq_true]
        exact ⟨q, hq, by rw [Bool.and_eq_true]; exact h⟩
      rw [hl] at this; cases this
/-- A light operation's being done changes nothing of that. -/
theorem beh_light {ops : Array Oper} {hv : List Nat} {l : Array Bool} {i q : Nat} (hi : hv.contains i = false) : beh ops hv (l.setIfInBounds i true) q = beh ops hv l q := by
  unfold beh
  have : ∀ hv : List Nat, hv.contains i = false → (hv.any fun j => (l.setIfInBounds i true).getD j false && (match ops[j]? with | some o => o.after.any fun e => Region.binds .any e && Nat.beq e.on q | none => false)) = (hv.any fun j => l.getD j false && (match ops[j]? with | some o => o.after.any fun e => Region.binds .any e && Nat.beq e.on q | none => false)) := by
    intro hv
    induction hv with
    | nil => intro _; rfl
    | cons x r ih =>
      intro h
      simp only [List.contains_cons, Bool.or_eq_false_iff] at h
      simp only [List.any_cons]
      rw [ih h.2, getD_set_other false (by simpa using h.1)]
  exact this hv hi

section
variable {ro : Option Nat} {n : Nat} {P : Program} {ops : Array Oper} {Q : Exit → Act → World → Prop}
/-- Whatever order; S holds behind every operation, by what was done. -/
def AnyT (ro : Option Nat) (n : Nat) (P : Program) (ops : Array Oper) (Q : Exit → Act → World → Prop) (S : Array Bool → World → Prop) : Nat → Array Bool → Act → World → Prop
  | 0, l, a, w => Region.ready .any ops l = [] ∧ Q .normal a w
  | k + 1, l, a, w => (Region.ready .any ops l = [] → Q .normal a w) ∧ ∀ i ∈ Region.ready .any ops l, wpOpIn (Wd ro) n P ops Q i (fun a' w' => S (l.setIfInBounds i true) w' ∧ AnyT ro n P ops Q S k (l.setIfInBounds i true) a' w') a w
theorem any_of_T {S : Array Bool → World → Prop} : ∀ (k : Nat) (l : Array Bool) (a : Act) (w : World), AnyT ro n P ops Q S k l a w → wpAnyIn (Wd ro) n P .any ops Q k l a w
  | 0, _, _, _, h => h
  | k + 1, _, _, _, h => ⟨h.1, fun i hi => wpOpIn_mono (fun a' w' h' => any_of_T k _ a' w' h'.2) (h.2 i hi)⟩
theorem AnyT.more {S : Array Bool → World → Prop} : ∀ (k : Nat) (l : Array Bool) (a : Act) (w : World), AnyT ro n P ops Q S k l a w → AnyT ro n P ops Q S (k + 1) l a w
  | 0, l, a, w, h => ⟨fun _ => h.2, fun i hi => by rw [h.1] at hi; cases hi⟩
  | k + 1, l, a, w, h => ⟨h.1, fun i hi => wpOpIn_mono (fun a' w' h' => ⟨h'.1, AnyT.more k _ a' w' h'.2⟩) (h.2 i hi)⟩
theorem AnyT.le {S : Array Bool → World → Prop} {k k' : Nat} (hk : k ≤ k') {l : Array Bool} {a : Act} {w : World} (h : AnyT ro n P ops Q S k l a w) : AnyT ro n P ops Q S k' l a w := by
  induction hk with
  | refl => exact h
  | step _ ih => exact AnyT.more _ l a w ih

/-- Reckoned first. -/
theorem AnyT.first {i : Nat} {oi : Oper} {v : Value} {hv : List Nat} {S : Array Bool → World → Prop} {M : World → Prop} (hi : ops[i]? = some oi) (hsel : Region.noSelect ops = true) (hdf : noDefer ops = true) (hQ : ∀ c a w, ¬ Q (.panic c) a w)
    (hvi : hv.contains i = false) (hlow : ∀ l w, S (l.setIfInBounds i true) w ↔ S l w) :
    ∀ (k : Nat) (l : Array Bool) (a : Act) (w : World),
      (∀ j oj, ops[j]? = some oj → j ≠ i → l.getD j true = false → (∀ e ∈ oj.after, Region.binds .any e = true → e.on ≠ i) → oi.apart ops oj = true) →
      i ∈ Region.ready .any ops l → beh ops hv l i = false → Gives P ops M oi v a → M w → S l w → AnyT ro n P ops Q (fun l w => S l w ∧ (beh ops hv l i = true ∨ M w)) k (l.setIfInBounds i true) (a.put oi.dst v) w → AnyT ro n P ops Q S (k + 1) l a w := by
  intro k
  have lose : ∀ (k : Nat) (l : Array Bool) (a : Act) (w : World), AnyT ro n P ops Q (fun l w => S l w ∧ (beh ops hv l i = true ∨ M w)) k l a w → AnyT ro n P ops Q S k l a w := by
    intro k
    induction k with
    | zero => exact fun l a w h => h
    | succ k ih => exact fun l a w h => ⟨h.1, fun j hj => wpOpIn_mono (fun a' w' h' => ⟨h'.1.1, ih _ a' w' h'.2⟩) (h.2 j hj)⟩
  induction k with
  | zero =>
    intro l a w _ hr hb hy hM hS h
    refine ⟨fun h0 => (by rw [h0] at hr; cases hr), fun j hj => ?_⟩
    rcases Nat.decEq j i with hji | hji
    · have := ready_mono hj hji
      rw [h.1] at this; cases this
    · subst hji
      exact hy.now hi (noDefer_spec hdf hi) hM ⟨(hlow l w).2 hS, h⟩
  | succ k ih =>
    intro l a w hfree hr hb hy hM hS h
    refine ⟨fun h0 => (by rw [h0] at hr; cases hr), fun j hj => ?_⟩
    rcases Nat.decEq j i with hji | hji
    · obtain ⟨hun, oj, hoj, hall⟩ := mem_ready.1 hj
      have hli := (mem_ready.1 hr).1
      have hno : ∀ e ∈ oj.after, Region.binds .any e = true → e.on ≠ i := by
        intro e he hb heq
        have h1 := hall e he hb
        rw [heq] at h1
        by_cases hlt : i < l.size
        · simp only [Array.getD, hlt, dif_pos] at h1 hli
          rw [h1] at hli; cases hli
        · simp only [Array.getD, hlt, dif_neg, not_false_eq_true] at h1; cases h1
      have hbj : beh ops hv (l.setIfInBounds j true) i = false := beh_set hb fun oj' ho' => by rw [hoj] at ho'; injection ho' with ho'; subst ho'; exact hno
      have h2 := wpOpIn_behind (i := i) hoj (hfree j oj hoj hji hun hno) (Region.noSelect_spec hsel i oi · · hi) (Region.noSelect_spec hsel j oj · · hoj) (noDefer_spec hdf hoj) hQ hy (h.2 j (ready_mono hj hji))
      refine wpOpIn_mono (fun a' w' h3 => ?_) h2
      have hc := Array.setIfInBounds_comm (xs := l) true true hji
      obtain ⟨h4, ⟨h5, h6⟩, h7⟩ := h3
      rw [← hc] at h5 h6 h7
      have hM' : M w' := by
        rcases h6 with h6 | h6
        · rw [beh_light hvi, hbj] at h6; cases h6
        · exact h6
      have hS' := (hlow _ _).1 h5
      refine ⟨hS', ih (l.setIfInBounds j true) a' w' ?_ (ready_mono hr (Ne.symm hji)) hbj h4 hM' hS' h7⟩
      intro q oq hq hqi hunq hnoq
      refine hfree q oq hq hqi ?_ hnoq
      by_cases hjq : j = q
      · subst hjq; exact hun
      · rw [getD_set_ne true hjq] at hunq; exact hunq
    · subst hji
      exact hy.now hi (noDefer_spec hdf hi) hM ⟨(hlow l w).2 hS, lose _ _ _ _ h⟩

/-! ### Trees that fit the region's edges -/
def ordT (ops : Array Oper) (hv : List Nat) : Ord → Bool → Array Bool → Bool
  | .done, t, l => t && (Region.ready .any ops l).isEmpty
  | .no, t, _ => !t
  | .light i r, t, l => t && (ops[i]?).isSome && !hv.contains i && !beh ops hv l i && Region.free .any ops l i && (Region.ready .any ops l).contains i && ordT ops hv r true (l.setIfInBounds i true)
  | .alt i gone r rest, t, l => (!t || Region.ready .any ops l == i :: rest.heads) && (ops[i]?).isSome && gone.all (fun q => beh ops hv (l.setIfInBounds i true) q) && ordT ops hv r true (l.setIfInBounds i true) && ordT ops hv rest false l
def ordTok (ops : Array Oper) (hv : List Nat) (T : Ord) : Bool := Region.noSelect ops && noDefer ops && Nat.ble T.size ops.size && ordT ops hv T true (Array.replicate ops.size false)
/-- The walk along the tree. -/
def alongT (ro : Option Nat) (n : Nat) (P : Program) (ops : Array Oper) (hv : List Nat) (Q : Exit → Act → World → Prop) : Ord → (Array Bool → World → Prop) → Array Bool → Act → World → Prop
  | .done, _, _, a, w => Q .normal a w
  | .no, _, _, _, _ => True
  | .light i r, S, l, a, w => ∃ o v, ∃ M : World → Prop, ops[i]? = some o ∧ Gives P ops M o v a ∧ M w ∧ alongT ro n P ops hv Q r (fun l w => S l w ∧ (beh ops hv l i = true ∨ M w)) (l.setIfInBounds i true) (a.put o.dst v) w
  | .alt i _ r rest, S, l, a, w => wpOpIn (Wd ro) n P ops Q i (fun a' w' => S (l.setIfInBounds i true) w' ∧ alongT ro n P ops hv Q r S (l.setIfInBounds i true) a' w') a w ∧ alongT ro n P ops hv Q rest S l a w
/-- S looks at nothing but what must come behind what. -/
def LowS (hv : List Nat) (S : Array Bool → World → Prop) : Prop := ∀ i, hv.contains i = false → ∀ l w, S (l.setIfInBounds i true) w ↔ S l w
theorem any_of_alongT {hv : List Nat} (hsel : Region.noSelect ops = true) (hdf : noDefer ops = true) (hQ : ∀ c a w, ¬ Q (.panic c) a w) :
    ∀ (T : Ord) (t : Bool) (S : Array Bool → World → Prop) (l : Array Bool) (a : Act) (w : World), LowS hv S → ordT ops hv T t l = true → S l w → alongT ro n P ops hv Q T S l a w →
      if t = true then AnyT ro n P ops Q S T.size l a w else ∀ i ∈ T.heads, wpOpIn (Wd ro) n P ops Q i (fun a' w' => S (l.setIfInBounds i true) w' ∧ AnyT ro n P ops Q S (T.size - 1) (l.setIfInBounds i true) a' w') a w
  | .done, t, S, l, a, w, hL, hc, hS, h => by
    simp only [ordT, Bool.and_eq_true] at hc
    rw [if_pos hc.1]
    exact ⟨by simpa using hc.2, h⟩
  | .no, t, S, l, a, w, hL, hc, hS, h => by
    simp only [ordT, Bool.not_eq_true'] at hc
    rw [if_neg (by rw [hc]; simp)]
    intro i hi; cases hi
  | .light i r, t, S, l, a, w, hL, hc, hS, h => by
    obtain ⟨o, v, M, ho, hg, hM, hr⟩ := h
    simp only [ordT, Bool.and_eq_true, Bool.not_eq_true'] at hc
    obtain ⟨⟨⟨⟨⟨⟨ht, _⟩, hvi⟩, hb⟩, hf⟩, hrd⟩, hc⟩ := hc
    rw [if_pos ht]
    have hL' : LowS hv (fun l w => S l w ∧ (beh ops hv l i = true ∨ M w)) := fun q hq l w => by
      show _ ∧ _ ↔ _ ∧ _
      rw [hL q hq l w, beh_light hq]
    have ih := any_of_alongT hsel hdf hQ r true _ _ _ _ hL' hc ⟨(hL i hvi l w).2 hS, .inr hM⟩ hr
    rw [if_pos rfl] at ih
    exact AnyT.first ho hsel hdf hQ hvi (hL i hvi) r.size l a w (Region.free_spec ho hf) (by simpa using hrd) hb hg hM hS ih
  | .alt i gone r rest, t, S, l, a, w, hL, hc, hS, h => by
    simp only [ordT, Bool.and_eq_true] at hc
    obtain ⟨⟨⟨⟨h1, _⟩, _⟩, h2⟩, h3⟩ := hc
    have key : ∀ j ∈ (Ord.alt i gone r rest).heads, wpOpIn (Wd ro) n P ops Q j (fun a' w' => S (l.setIfInBounds j true) w' ∧ AnyT ro n P ops Q S ((Ord.alt i gone r rest).size - 1) (l.setIfInBounds j true) a' w') a w := by
      intro j hj
      rcases List.mem_cons.1 hj with rfl | hj
      · refine wpOpIn_mono (fun a' w' h' => ⟨h'.1, ?_⟩) h.1
        have ih := any_of_alongT hsel hdf hQ r true S _ _ _ hL h2 h'.1 h'.2
        rw [if_pos rfl] at ih
        exact AnyT.le (by simp only [Ord.size]; omega) ih
      · have ih := any_of_alongT hsel hdf hQ rest false S l a w hL h3 hS h.2
        rw [if_neg (by simp)] at ih
        exact wpOpIn_mono (fun a' w' h' => ⟨h'.1, AnyT.le (by simp only [Ord.size]; omega) h'.2⟩) (ih j hj)
    cases t with
    | false => rw [if_neg (by simp)]; exact key
    | true =>
      rw [if_pos rfl]
      simp only [Bool.not_true, Bool.false_or, beq_iff_eq] at h1
      have e : (Ord.alt i gone r rest).size = ((Ord.alt i gone r rest).size - 1) + 1 := by simp only [Ord.size]; omega
      rw [e]
      exact ⟨fun h0 => (by rw [h1] at h0; cases h0), fun j hj => key j (by rw [h1] at hj; exact hj)⟩
theorem wp_drawT {id : Nat} {a : Act} {w : World} {hv : List Nat} (T : Ord) (hm : P.follows .mixedOrders = true) (hc : ordTok ops hv T = true) (hQ : ∀ c a w, ¬ Q (.panic c) a w) (h : alongT ro n P ops hv Q T (fun _ _ => True) (Array.replicate ops.size false) a w.drew) :
    (Code.region id ops true).wpIn (Wd ro) n P Q a w := by
  simp only [ordTok, Bool.and_eq_true, Nat.ble_eq] at hc
  obtain ⟨⟨⟨h1, h2⟩, h3⟩, h4⟩ := hc
  refine wpIn_region_any hm ?_
  have := any_of_alongT (hv := hv) h1 h2 hQ T true (fun _ _ => True) _ a _ (fun _ _ _ _ => Iff.rfl) h4 trivial h
  rw [if_pos rfl] at this
  exact any_of_T _ _ _ _ (AnyT.le h3 this)
end
end Go.Az
